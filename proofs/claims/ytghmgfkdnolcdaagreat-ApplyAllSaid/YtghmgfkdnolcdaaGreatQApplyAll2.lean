/-
  What the proof of the statement leans on: texts one behind the other.
-/
import Derived.Test.YtghmgfkdnolcdaaGreatQApplyAll0
import Derived.Test.YtghmgfkdnolcdaaGreatQApplyAllGtree
import Derived.Test.YtghmgfkdnolcdaaGreatQApplyAllGlaw00
import Derived.Test.YtghmgfkdnolcdaaGreatQApplyAllGlib
import Derived.Test.YtghmgfkdnolcdaaGreatQApplyAllGdom
import Derived.Lib.AppendZerosOnto
import Derived.Lib.Overlaps
import Derived.Lib.Bytealg
import Derived.MapKept
namespace Go.Proofs.YtghmgfkdnolcdaaGreat
section
open Go.RowKit
theorem take_getD {l : List T} {i : Nat} (h : i < l.length) : l.take (i + 1) = l.take i ++ [l.getD i T.nul] := by
 rw [List.take_succ_eq_append_getElem h, List.getD_eq_getElem?_getD, List.getElem?_eq_getElem h]; rfl
theorem sum_take (f : T → Nat) {l : List T} {i : Nat} (h : i < l.length) : ((l.take (i + 1)).map f).sum = ((l.take i).map f).sum + f (l.getD i T.nul) := by
 rw [take_getD h]; simp
theorem foldr_max_snoc (l : List Nat) (x : Nat) : (l ++ [x]).foldr max 0 = max (l.foldr max 0) x := by
 induction l with
 |nil => simp
 |cons a r ih => simp only [List.cons_append, List.foldr_cons, ih]; omega
theorem max_take (f : T → Nat) {l : List T} {i : Nat} (h : i < l.length) : ((l.take (i + 1)).map f).foldr max 0 = max (((l.take i).map f).foldr max 0) (f (l.getD i T.nul)) := by
 rw [take_getD h, List.map_append]; exact foldr_max_snoc _ _
theorem sum_take_le (f : T → Nat) (l : List T) (i : Nat) : ((l.take i).map f).sum ≤ (l.map f).sum := by
 conv => rhs; rw [← List.take_append_drop i l]
 rw [List.map_append, List.sum_append]; omega
def byteOk (c : UInt8) : Bool := !(c.toNat == 9 || c.toNat == 10 || c.toNat == 12 || c.toNat == 32 || c.toNat == 0 || c.toNat == 34 || c.toNat == 39 || c.toNat == 62 || c.toNat == 47 || c.toNat == 61 || c.toNat == 60) && !(decide (65 ≤ c.toNat) && decide (c.toNat ≤ 90))
def nameOk (s : Str) : Bool := !(s.isEmpty) && decide (s.length ≤ 32) && s.all byteOk
def attrsOk : Str → List (Str × Str) → Bool
 |_, [] => true
 |last, p :: r => !(Op.bytesLess p.1 last) && !(decide (p.1 = last)) && nameOk p.1 && decide (p.2.length ≤ 4096) && attrsOk p.1 r
def nodeOk : T → Bool
 |.node k n x ats ks => if k = 2 then nameOk n && x.isEmpty && (decide (ats.length ≤ 12) && attrsOk [] ats) && ((ks.attach.map fun ⟨t, _⟩ => nodeOk t && !(decide (t.kind = 5))).all id)
  else ats.isEmpty && ks.isEmpty && (if k = 3 then n.isEmpty && !x.isEmpty && decide (x.length ≤ 4096) else if k = 4 then n.isEmpty && decide (x.length ≤ 4096) else if k = 5 then x.isEmpty && decide (n.length ≤ 32) else false)
def kidsOk (t : T) : Bool := t.kids.all fun u => nodeOk u && !(decide (u.kind = 5) && !(decide (t.kind = 1)))
def T.check (t : T) : Bool := decide (t.kind = 1) && decide (t.size ≤ 300) && decide (t.depth ≤ 60) && (t.name.isEmpty && t.text.isEmpty) && t.attrs.isEmpty && kidsOk t
theorem nodeOk_el {t : T} (h : t.kind = 2) : nodeOk t = (nameOk t.name && t.text.isEmpty && (decide (t.attrs.length ≤ 12) && attrsOk [] t.attrs) && kidsOk t) := by
 cases t with
 |node k n x ats ks =>
  have h : k = 2 := h
  subst h
  have e : (ks.attach.map fun (x : { x // x ∈ ks }) => nodeOk x.1 && !(decide (T.kind x.1 = 5))) = ks.map fun u => nodeOk u && !(decide (T.kind u = 5)) := List.attach_map_val (f := fun u => nodeOk u && !(decide (T.kind u = 5)))
  have e2 : kidsOk (.node 2 n x ats ks) = (ks.map fun u => nodeOk u && !(decide (T.kind u = 5))).all id := by
   unfold kidsOk; rw [List.all_map]; simp [T.kind, T.kids, Function.comp_def]
  rw [nodeOk, if_pos rfl, e2, ← e]; rfl
theorem nodeOk_ne {t : T} (h : t.kind ≠ 2) : nodeOk t = (t.attrs.isEmpty && t.kids.isEmpty && (if t.kind = 3 then t.name.isEmpty && !t.text.isEmpty && decide (t.text.length ≤ 4096) else if t.kind = 4 then t.name.isEmpty && decide (t.text.length ≤ 4096) else if t.kind = 5 then t.text.isEmpty && decide (t.name.length ≤ 32) else false)) := by
 cases t with
 |node k n x ats ks =>
  have h : k ≠ 2 := h
  rw [nodeOk, if_neg h]; rfl
theorem treeName {w : World} (s : Str) : Calls Tryz.prog 71 #[.string (Bs s)] w (Ret fun v w' => Ext w w' ∧ v = .bool (nameOk s)) := by
 refine tree_Name.ok _ ?_
 unfold tree_Name.vc
 refine ⟨fun hc => ⟨Chg.refl _ _, ?_⟩, fun hc => ?_⟩
 ·rcases hc with rfl | hc
  ·rfl
  ·have : nameOk s = false := by unfold nameOk; simp; omega
   rw [this]
 ·obtain ⟨h0, h32⟩ := hc
  refine ⟨fun i w1 => ∃ k : Nat, i = (k : Int) ∧ k ≤ s.length ∧ (s.take k).all byteOk = true ∧ Ext w w1, fun i _ => s.length - i.toNat, ⟨0, rfl, Nat.zero_le _, rfl, Chg.refl _ _⟩, ?_⟩
  rintro _ w1 ⟨k, rfl, hk, hall, hE⟩
  rw [Int.toNat_natCast]
  refine ⟨fun hi => ?_, fun hi => ⟨hE, ?_⟩⟩
  ·have hk' : k < s.length := by omega
   have hbad : byteOk (s.getD k 0) = false → nameOk s = false := fun hb => by
    have hm : s.getD k 0 ∈ s := by rw [List.getD_eq_getElem?_getD, List.getElem?_eq_getElem hk']; exact List.getElem_mem hk'
    unfold nameOk
    have : s.all byteOk = false := by
     rw [List.all_eq_false]; exact ⟨_, hm, fun h => by rw [hb] at h; cases h⟩
    rw [this, Bool.and_false]
   generalize hx : s.getD k 0 = c at hbad
   refine ⟨⟨by omega, hi⟩, fun hset => ⟨hE, ?_⟩, fun hset => ⟨fun hup => ⟨hE, ?_⟩, fun hup => ⟨⟨by omega, by omega⟩, ⟨k + 1, by omega, by omega, ?_, hE⟩, by dsimp only; omega⟩⟩⟩
   ·rw [hbad (by unfold byteOk; simp; intro; omega)]
   ·rw [hbad (by unfold byteOk; simp; omega)]
   ·rw [List.take_succ_eq_append_getElem hk', List.all_append, hall]
    have : s[k] = c := by rw [← hx, List.getD_eq_getElem?_getD, List.getElem?_eq_getElem hk']; rfl
    rw [this]
    simp only [List.all_cons, List.all_nil, Bool.and_true, Bool.true_and]
    unfold byteOk
    simp; omega
  ·have hkl : k = s.length := by omega
   subst hkl
   rw [List.take_of_length_le (Nat.le_refl _)] at hall
   unfold nameOk
   rw [hall]
   have : s.isEmpty = false := by cases s <;> simp_all
   simp [this]; omega
end
section
open Go.RowKit
theorem App.runK {P : Program} {A bx : List Nat} {w : World} {s x : Sl} {size bytes : Nat} {t ty T : TypeId} {z : Value} {vs us : List (List Value)} {K : Value → World → Prop} (ht : P.underlying t = some (.slice T)) (hi : TI P T z size bytes) (hzs : z.cells.size = size) (hsz : 0 < size)
  (h : App A w s size T vs) (hA : ∀ b ∈ A, b < w.heap.size) (hx : Row [] w x size us) (h1 : ∀ u ∈ us.flatten, u.oneCell' = true) (hu : us ≠ [])
  (h63 : s.n + us.length ≤ maxLen) (hbytes : (s.n + us.length) * bytes ≤ 140737488355328) (hbx : ∀ b ∈ bx, b ∈ A)
  (k : ∀ s' w', Own A w' s' size T (vs ++ us) → Chg s.own w w' → (∀ b ∈ s'.blk, b ∈ s.own ∨ w.heap.size ≤ b) → K s'.v w') :
  RunK P (Builtin.append_ #[t, t] ty #[s.v, x.v]) w bx K := by
 obtain ⟨s', w', hr, ho, hc, hb⟩ := append_app (ty := ty) ht hi hzs hsz h hA hx h1 hu h63 hbytes
 refine ⟨_, _, hr, hc.noTouch _ (fun b hb hm => ?_), hc.size, k s' w' ho (hc.mono fun b hb => (List.mem_filter.1 hb).1) hb⟩
 have := (List.mem_filter.1 hm).2
 have := hbx b hb
 simp_all
theorem Own.avoid {A A' : List Nat} {w : World} {s : Sl} {size : Nat} {T : TypeId} {vs : List (List Value)} (h : Own A w s size T vs) (hA : ∀ b ∈ s.blk, b ∉ A') : Own A' w s size T vs :=
 ⟨h.len, h.cap, h.most, h.each, h.at_.imp_right fun ⟨g, cur, h1, _, h3⟩ => ⟨g, cur, h1, hA g (by simp [Sl.blk, h1]), h3⟩⟩
theorem Own.less {A A' : List Nat} {w : World} {s : Sl} {size : Nat} {T : TypeId} {vs : List (List Value)} (h : Own A w s size T vs) (hA : ∀ b ∈ A', b ∈ A) : Own A' w s size T vs :=
 h.avoid fun b hb hm => (h.blk b hb).1 (hA b hm)
theorem Own.other {A : List Nat} {w : World} {s : Sl} {size : Nat} {T S : TypeId} {vs : List (List Value)} (h : Own A w s size T vs) {B : Nat} {cs : List Value} (hB : Box w B S cs) (hne : T ≠ S) : B ∉ s.blk := by
 intro hm
 rcases h.at_ with e | ⟨g, cur, h1, _, h3, _⟩
 ·rw [e] at hm; simp [Sl.blk, Sl.nil] at hm
 ·simp [Sl.blk, h1] at hm; subst hm
  unfold Box at h3 hB; rw [h3] at hB; simp at hB; exact hne hB.2
theorem Own.cons {A : List Nat} {w : World} {s : Sl} {size : Nat} {T : TypeId} {vs : List (List Value)} (h : Own A w s size T vs) {B : Nat} (hB : B ∉ s.blk) : Own (B :: A) w s size T vs :=
 h.avoid fun b hb hm => by
  rcases List.mem_cons.1 hm with e | hm
  ·subst e; exact hB hb
  ·exact (h.blk b hb).1 hm
theorem Chg.more' {F G : List Nat} {a b c : World} (h : Chg F a b) (k : Chg G b c) (hG : ∀ x ∈ G, x ∈ F ∨ a.heap.size ≤ x) : Chg F a c :=
 ⟨k.os.trans h.os, k.tape.trans h.tape, k.output.trans h.output, Nat.le_trans h.size k.size, fun i hi hF =>
  (k.block i (Nat.lt_of_lt_of_le hi h.size) fun hm => (hG i hm).elim hF (fun h => by omega)).trans (h.block i hi hF)⟩
theorem Own.keep {A F : List Nat} {w w' : World} {s : Sl} {size : Nat} {T : TypeId} {vs : List (List Value)} (h : Own A w s size T vs) (c : Chg F w w') (hF : ∀ b ∈ s.blk, b ∉ F) : Own A w' s size T vs :=
 ⟨h.len, h.cap, h.most, h.each, h.at_.imp_right fun ⟨g, cur, h1, h2, h3, h4⟩ => ⟨g, cur, h1, h2, h3.keep c (hF g (by simp [Sl.blk, h1])), h4⟩⟩
end
section
open Go.RowKit
theorem ones_ac (p : Str × Str) : ∀ u ∈ [ac p].flatten, u.oneCell' = true := by intro u hu; simp [ac] at hu; rcases hu with rfl | rfl <;> rfl
theorem ones_acs (l : List (Str × Str)) : ∀ u ∈ (l.map ac).flatten, u.oneCell' = true := by
 intro u hu
 obtain ⟨c, hc, hu⟩ := List.mem_flatten.1 hu
 obtain ⟨p, _, rfl⟩ := List.mem_map.1 hc
 exact ones_ac p u (by simpa using hu)
theorem ones_tc (t : T) (p : Sl × Sl) : ∀ u ∈ [tc t p].flatten, u.oneCell' = true := by intro u hu; simp [tc] at hu; rcases hu with rfl | rfl | rfl | rfl | rfl <;> rfl
def Nur (A : List Nat) (w : World) (s : Sl) (ts : List T) : Prop :=
 ∃ ps : List (Sl × Sl), ps.length = ts.length ∧ Own A w s 5 25 (List.zipWith tc ts ps) ∧ ∀ (i : Nat) (t : T) (p : Sl × Sl), ts[i]? = some t → ps[i]? = some p → RdT (s.blk ++ A) w t p.1 p.2
theorem Nur.nil (A : List Nat) (w : World) : Nur A w Sl.nil [] := ⟨[], rfl, Own.nil _ _ _ _, by simp⟩
theorem Nur.own {A : List Nat} {w : World} {s : Sl} {ts : List T} (h : Nur A w s ts) : s.n = ts.length ∧ s.n ≤ s.c ∧ s.c ≤ maxLen ∧ ∀ b ∈ s.blk, b ∉ A ∧ b < w.heap.size := by
 obtain ⟨ps, hl, ho, _⟩ := h
 have := ho.len
 exact ⟨by simp [hl] at this; omega, ho.cap, ho.most, ho.blk⟩
theorem Nur.chg {A F : List Nat} {w w' : World} {s : Sl} {ts : List T} (h : Nur A w s ts) (c : Chg F w w') (hF : ∀ b ∈ F, b ∈ A) : Nur A w' s ts := by
 obtain ⟨ps, hl, ho, hr⟩ := h
 exact ⟨ps, hl, ho.chg c hF, fun i t p ht hp => (hr i t p ht hp).chg c (fun b hb => List.mem_append_right _ (hF b hb))⟩
theorem Nur.ext {A : List Nat} {w w' : World} {s : Sl} {ts : List T} (h : Nur A w s ts) (c : Ext w w') : Nur A w' s ts := h.chg c (by simp)
theorem Nur.less {A A' : List Nat} {w : World} {s : Sl} {ts : List T} (h : Nur A w s ts) (hA : ∀ b ∈ A', b ∈ A) : Nur A' w s ts := by
 obtain ⟨ps, hl, ho, hr⟩ := h
 exact ⟨ps, hl, ho.less hA, fun i t p ht hp => (hr i t p ht hp).less (fun b hb => by
  rcases List.mem_append.1 hb with hb | hb
  ·exact List.mem_append_left _ hb
  ·exact List.mem_append_right _ (hA b hb))⟩
theorem Nur.rd {A : List Nat} {w : World} {s sa : Sl} {ts : List T} (h : Nur A w s ts) {k : Int} {n x : Str} {ats : List (Str × Str)} (ha : Row A w sa 2 (ats.map ac)) : RdT A w (.node k n x ats ts) sa s := by
 obtain ⟨ps, hl, ho, hr⟩ := h
 exact .mk ps ha hl ho.row (fun i t p ht hp => (hr i t p ht hp).less (fun b hb => List.mem_append_right _ hb))
theorem Nur.push {A bx : List Nat} {w : World} {s : Sl} {ts : List T} {u : T} {su sk : Sl} {B : Nat} {S ty : TypeId} {K : Value → World → Prop} (h : Nur A w s ts) (hA : ∀ b ∈ A, b < w.heap.size) (hB : Box w B S (tc u (su, sk))) (hu : RdT (s.blk ++ A) w u su sk)
  (hl : ts.length + 1 ≤ 1099511627776) (hbx : ∀ b ∈ bx, b ∈ A) (k : ∀ s' w', Nur A w' s' (ts ++ [u]) → Chg s.own w w' → (∀ b ∈ s'.blk, b ∈ s.own ∨ w.heap.size ≤ b) → K s'.v w') :
  RunK Tryz.prog (Builtin.append_ #[23, 23] ty #[s.v, Sl.v (Sl.mk (some ⟨B, 0, none⟩) 1 1)]) w bx K := by
 have hn := h.own.1
 obtain ⟨ps, hpl, ho, hr⟩ := h
 have hx : Row [] w (Sl.mk (some ⟨B, 0, none⟩) 1 1) 5 [tc u (su, sk)] :=
  ⟨rfl, Nat.le_refl _, by simp [maxLen], fun i hi => by
   have : i = 0 := by simpa using hi
   subst this
   exact ⟨_, rfl, by simp, by rw [Nat.zero_mul, Addr.add_zero']; exact hB.cells, rfl⟩⟩
 refine App.runK Tryz.underlying23 ti_25 rfl (by decide) (.inl ho) hA hx (ones_tc u _) (by simp) (by simp only [maxLen, List.length_singleton]; omega) (by simp only [List.length_singleton]; omega) hbx fun s' w' ho' hc hb => k s' w' ?_ hc hb
 have back : ∀ {t : T} {p : Sl × Sl}, RdT (s.blk ++ A) w t p.1 p.2 → RdT (s'.blk ++ A) w' t p.1 p.2 := fun {t p} hr => by
  have h1 : ∀ b ∈ s'.blk, b ∈ s.blk ++ A ∨ w.heap.size ≤ b := fun b hm => (hb b hm).imp_left (fun h => List.mem_append_left _ (Sl.own_blk h))
  have h2 : ∀ L : List Nat, (∀ b ∈ L, b ∈ s.blk ++ A ∨ w.heap.size ≤ b) → RdT (L ++ (s.blk ++ A)) w t p.1 p.2 := fun L => by
   induction L with
   |nil => intro _; exact hr
   |cons b L ih =>
    intro hL
    have h3 := ih (fun b hb => hL b (List.mem_cons_of_mem _ hb))
    rcases hL b (List.mem_cons_self ..) with hm | hm
    ·refine h3.less fun x hx => ?_
     rcases List.mem_append.1 hx with hx | hx
     ·rcases List.mem_cons.1 hx with e | hx
      ·subst e; exact List.mem_append_right _ hm
      ·exact List.mem_append_left _ hx
     ·exact List.mem_append_right _ hx
    ·exact h3.fresh hm
  refine ((h2 s'.blk h1).chg hc (fun b hb => List.mem_append_right _ (List.mem_append_left _ (Sl.own_blk hb)))).less fun x hx => ?_
  rcases List.mem_append.1 hx with hx | hx
  ·exact List.mem_append_left _ hx
  ·exact List.mem_append_right _ (List.mem_append_right _ hx)
 refine ⟨ps ++ [(su, sk)], by simp [hpl], ?_, fun i t p ht hp => ?_⟩
 ·rw [List.zipWith_append (by omega)]; exact ho'
 ·rcases Nat.lt_trichotomy i ts.length with hi | hi | hi
  ·rw [List.getElem?_append_left hi] at ht
   rw [List.getElem?_append_left (by omega)] at hp
   exact back (hr i t p ht hp)
  ·rw [List.getElem?_append_right (by omega)] at ht hp
   rw [hi, Nat.sub_self] at ht
   rw [hi, hpl, Nat.sub_self] at hp
   simp at ht hp; subst ht; subst hp
   exact back (p := (su, sk)) hu
  ·have := (List.getElem?_eq_some_iff.1 ht).1
   simp at this; omega
theorem lawAttrs {A : List Nat} {w : World} {b : Sl} {l : List (Str × Str)} (h : Row A w b 2 (l.map ac)) (hb : l.length ≤ 1099511627776) :
  Calls Tryz.prog 17 #[b.v] w (Ret fun v w' => Ext w w' ∧ ∃ s : Sl, v = s.v ∧ Own (List.range w.heap.size) w' s 2 63 (l.map ac)) := by
 refine law00_Attrs.ok _ ?_
 unfold law00_Attrs.vc
 have hl := h.len
 simp only [List.length_map] at hl
 cases hx : l with
 |nil =>
  have e := append_none (P := Tryz.prog) (w := w) (s := Sl.nil) (x := b) (t := 22) (ty := 22) Tryz.underlying22 ti_63 (Nat.le_refl _) (by rw [hl, hx]; rfl)
  exact ⟨_, _, e, fun _ _ _ => rfl, Nat.le_refl _, Sl.nil, rfl, Chg.refl _ _, Sl.nil, rfl, Own.nil _ _ _ _⟩
 |cons x r =>
  rw [← hx]
  refine App.runK Tryz.underlying22 ti_63 rfl (by decide) (.inl (Own.nil (List.range w.heap.size) _ _ _)) (fun b hb => List.mem_range.1 hb) (h.less (by simp)) (ones_acs l) (by rw [hx]; simp) (by simp [maxLen]; omega) (by simp; omega) (by simp) fun s' w' ho hc hb => ⟨s', rfl, ?_, s', rfl, ho⟩
  exact hc.mono (by simp [Sl.own])
theorem lawTree {A : List Nat} : ∀ t : T, t.bulk ≤ 1099511627776 → ∀ {w : World} {sa sk : Sl}, RdT A w t sa sk →
  Calls Tryz.prog 7 #[tv t sa sk] w (Ret fun v w' => Ext w w' ∧ ∃ sa' sk' : Sl, v = tv t sa' sk' ∧ RdT (List.range w.heap.size) w' t sa' sk') := T.ind' fun t ih hb w sa sk h => by
 refine law00_Tree.ok _ _ _ _ _ ?_
 unfold law00_Tree.vc
 have hn := h.nkids
 have hcp := h.caps
 have hl := T.kids_len t
 have hla : t.attrs.length ≤ 1099511627776 := by have := T.slots_bulk t; have := T.slots_eq t; omega
 intro w1 B2 B10 hN2 hN10 hne hE1
 refine ⟨fun r w' => Own (List.range w1.heap.size) w' r 2 63 (t.attrs.map ac), fun r w' w'' hE h => h.ext hE, fun w' hE => (lawAttrs ((h.ext (hE1.trans hE)).attrs) hla).mono fun e w'' he => by
  cases e with
  |returned v => obtain ⟨h1, s, h2, h3⟩ := he; exact ⟨h1, s, h2, h3.less fun b hb => List.mem_range.2 (Nat.lt_of_lt_of_le (List.mem_range.1 hb) hE.size)⟩
  |_ => exact he, ?_⟩
 intro w2 sa' B45 hE2 hV hB45 hbox w3 hE3
 have hE13 : Ext w1 w3 := Chg.fresh hE2 hE3 (by simpa using hB45)
 have hAt : Own (B45 :: List.range w1.heap.size) w3 sa' 2 63 (t.attrs.map ac) := (hV.cons (hV.other hbox (by decide))).chg hE3 (by simp)
 have hlt3 : w1.heap.size ≤ w3.heap.size := hE13.size
 have hB3 : B45 < w3.heap.size := Nat.lt_of_lt_of_le hbox.lt hE3.size
 refine ⟨fun i c w' => ∃ k : Nat, i = (k : Int) ∧ k ≤ t.kids.length ∧ Nur (B45 :: List.range w1.heap.size) w' c (t.kids.take k) ∧ Own (B45 :: List.range w1.heap.size) w' sa' 2 63 (t.attrs.map ac) ∧ (∀ b ∈ c.blk, b ∉ sa'.blk) ∧ w3.heap.size ≤ w'.heap.size ∧ Ext w1 w', fun i _ _ => t.kids.length - i.toNat, ⟨0, rfl, Nat.zero_le _, Nur.nil _ _, hAt, by simp [Sl.blk], Nat.le_refl _, hE13⟩, ?_⟩
 rintro _ c w4 ⟨k, rfl, hk, hNur, hAt4, hdis, hsz, hE4⟩
 have hA4 : ∀ b ∈ B45 :: List.range w1.heap.size, b < w4.heap.size := fun b hb => by
  rcases List.mem_cons.1 hb with rfl | hb
  ·omega
  ·have := List.mem_range.1 hb; omega
 refine ⟨fun hi w5 hE5 => ?_, fun hi w5 hE5 => ?_⟩
 ·have hk' : k < t.kids.length := by omega
  obtain ⟨p, sau, sku, hp, _, hc, hr⟩ := (h.ext ((hE1.trans hE4).trans hE5)).kid hk'
  rw [Int.toNat_natCast]
  have hm := getD_mem (d := T.nul) hk'
  refine ⟨p, ⟨⟨by omega, hi⟩, hp⟩, _, _, _, sau, sku, hc, fun kd n x a b w' => kd = (t.kids.getD k T.nul).kind ∧ n = (t.kids.getD k T.nul).name ∧ x = (t.kids.getD k T.nul).text ∧ RdT (List.range w5.heap.size) w' (t.kids.getD k T.nul) a b,
   fun _ _ _ _ _ w' w'' hE hv => ⟨hv.1, hv.2.1, hv.2.2.1, hv.2.2.2.ext hE⟩, fun w' hE => (ih _ hm (by have := T.kid_bulk hm; omega) (hr.ext hE)).mono fun e w'' he => by
    cases e with
    |returned v => obtain ⟨h1, a, b, h2, h3⟩ := he; exact ⟨h1, _, _, _, a, b, h2, rfl, rfl, rfl, h3.less fun b hb => List.mem_range.2 (Nat.lt_of_lt_of_le (List.mem_range.1 hb) hE.size)⟩
    |_ => exact he, ?_⟩
  rintro w6 _ _ _ a b B6 hE6 ⟨rfl, rfl, rfl, hV6⟩ hB6 hbox6 _
  have hE56 : Ext w4 w6 := hE5.trans hE6
  refine (hNur.ext hE56).push (fun b hb => Nat.lt_of_lt_of_le (hA4 b hb) hE56.size) hbox6 ?_ (by simp; omega) ?_ fun s' w7 hN hC hbl => ⟨s', rfl, ⟨by omega, by omega⟩, fun w8 hE8 => ⟨⟨k + 1, by omega, by omega, ?_, ?_, ?_, ?_, ?_⟩, by dsimp only; omega⟩⟩
  ·refine hV6.less fun x hx => List.mem_range.2 ?_
   have := hE5.size
   rcases List.mem_append.1 hx with hx | hx
   ·have := (hNur.own.2.2.2 x hx).2; omega
   ·have := hA4 x hx; omega
  ·intro b hb
   simp only [List.mem_cons, List.not_mem_nil, or_false] at hb
   rcases hb with rfl | rfl | rfl
   ·exact List.mem_cons_of_mem _ (List.mem_range.2 hN2.lt)
   ·exact List.mem_cons_of_mem _ (List.mem_range.2 hN10.lt)
   ·simp
  ·rw [take_getD hk']; exact hN.chg hE8 (by simp)
  ·have := (hAt4.ext hE56)
   have h2 : Own (c.own ++ (B45 :: List.range w1.heap.size)) w6 sa' 2 63 (t.attrs.map ac) := this.avoid fun b hb hm => by
    rcases List.mem_append.1 hm with hm | hm
    ·exact hdis b (Sl.own_blk hm) hb
    ·exact (this.blk b hb).1 hm
   exact (Own.less (A' := B45 :: List.range w1.heap.size) (h2.chg hC (fun b hb => List.mem_append_left _ hb)) (fun b hb => List.mem_append_right _ hb)).chg hE8 (by simp)
  ·intro b hb hm
   rcases hbl b hb with h | h
   ·exact hdis b (Sl.own_blk h) hm
   ·have := (hAt4.blk b hm).2
    have := hE56.size; omega
  ·have h1 := hE56.size; have h2 := hC.size; have h3 := hE8.size; omega
  ·refine Chg.fresh (Chg.fresh (hE4.trans hE56) hC fun x hx => ?_) hE8 (by simpa using hB45)
   have := (hNur.own.2.2.2 x (Sl.own_blk hx)).1
   simp at this; omega
 ·have hkl : k = t.kids.length := by omega
  subst hkl
  rw [List.take_of_length_le (Nat.le_refl _)] at hNur
  have hF : ∀ b ∈ [B10], b ∈ B45 :: List.range w1.heap.size := by intro b hb; simp at hb; subst hb; exact List.mem_cons_of_mem _ (List.mem_range.2 hN10.lt)
  have := (hNur.chg hE5 hF).rd (k := t.kind) (n := t.name) (x := t.text) (hAt4.chg hE5 hF).row
  refine ⟨Chg.fresh (hE1.trans hE4) hE5 (by simpa using hN10.ge), sa', c, rfl, ?_⟩
  have e : t = .node t.kind t.name t.text t.attrs t.kids := by cases t; rfl
  rw [e]
  exact this.less fun b hb => List.mem_cons_of_mem _ (List.mem_range.2 (Nat.lt_of_lt_of_le (List.mem_range.1 hb) hE1.size))
end
section
open Go.RowKit
theorem attrsOk_drop {last : Str} {l : List (Str × Str)} {k : Nat} (h : k < l.length) : attrsOk last (l.drop k) = (!(Op.bytesLess (l.getD k ([], [])).1 last) && !(decide ((l.getD k ([], [])).1 = last)) && nameOk (l.getD k ([], [])).1 && decide ((l.getD k ([], [])).2.length ≤ 4096) && attrsOk (l.getD k ([], [])).1 (l.drop (k + 1))) := by
 rw [List.drop_eq_getElem_cons h, List.getD_eq_getElem?_getD, List.getElem?_eq_getElem h]; rfl
theorem treeAttrs {A : List Nat} {w : World} {s : Sl} {l : List (Str × Str)} (h : Row A w s 2 (l.map ac)) :
  Calls Tryz.prog 109 #[s.v] w (Ret fun v w' => Ext w w' ∧ v = .bool (decide (l.length ≤ 12) && attrsOk [] l)) := by
 refine tree_attrs.ok _ ?_
 unfold tree_attrs.vc
 have hl := h.len
 simp only [List.length_map] at hl
 refine ⟨fun hb => ⟨Chg.refl _ _, ?_⟩, fun hb => ?_⟩
 ·have : decide (l.length ≤ 12) = false := decide_eq_false (by omega)
  rw [this]; rfl
 ·have h12 : decide (l.length ≤ 12) = true := decide_eq_true (by omega)
  rw [h12, Bool.true_and]
  refine ⟨fun last i w1 => ∃ k : Nat, i = (k : Int) ∧ k ≤ l.length ∧ attrsOk [] l = attrsOk last (l.drop k) ∧ Ext w w1, fun _ i _ => l.length - i.toNat, ⟨0, rfl, Nat.zero_le _, rfl, Chg.refl _ _⟩, ?_⟩
  rintro last _ w1 ⟨k, rfl, hk, heq, hE⟩
  rw [Int.toNat_natCast]
  refine ⟨fun hi => ?_, fun hi => ⟨hE, ?_⟩⟩
  ·have hk' : k < l.length := by omega
   obtain ⟨p, hp, _, hc, _⟩ := (h.ext hE).at_ k (by simpa using hk')
   have e : (l.map ac).getD k [] = ac (l.getD k ([], [])) := by simp [List.getD_eq_getElem?_getD, hk']
   rw [e] at hc
   rw [attrsOk_drop hk'] at heq
   rw [heq]
   generalize l.getD k ([], []) = q at hc heq
   obtain ⟨qn, qv⟩ := q
   refine ⟨⟨by omega, hi⟩, p, hp, qn, qv, hc, fun w2 B2 _ hE2 => ⟨nameOk qn, fun _ => treeName qn, fun w3 hE3 => ⟨fun hbad => ⟨(hE.trans hE2).trans hE3, ?_⟩, fun hgood => ⟨⟨by omega, by omega⟩, ⟨k + 1, by omega, by omega, ?_, (hE.trans hE2).trans hE3⟩, by dsimp only; omega⟩⟩⟩⟩
   ·rcases hbad with ((hb | hb) | hb) | hb
    ·simp [hb]
    ·simp [hb]
    ·simp [hb]
    ·have : decide (qv.length ≤ 4096) = false := decide_eq_false (by omega)
     simp [this]
   ·obtain ⟨⟨⟨h1, h2⟩, h3⟩, h4⟩ := hgood
    have : decide (qv.length ≤ 4096) = true := decide_eq_true (by omega)
    simp [h1, h2, h3, this]
  ·have hkl : k = l.length := by omega
   subst hkl
   rw [heq, List.drop_length]; rfl
theorem treeEmpty {A : List Nat} {w : World} {s : Sl} {l : List Str} (h : Row A w s 1 (l.map fun x => [.string (Bs x)])) :
  Calls Tryz.prog 90 #[s.v] w (Ret fun v w' => Ext w w' ∧ v = .bool (l.all List.isEmpty)) := by
 refine tree_empty.ok _ ?_
 unfold tree_empty.vc
 have hl := h.len
 have hcp := h.most
 have hcc := h.cap
 simp only [maxLen] at hcp
 simp only [List.length_map] at hl
 refine ⟨fun i w1 => ∃ k : Nat, i = (k : Int) ∧ k ≤ l.length ∧ l.all List.isEmpty = (l.drop k).all List.isEmpty ∧ Ext w w1, fun i _ => l.length - i.toNat, ⟨0, rfl, Nat.zero_le _, rfl, Chg.refl _ _⟩, ?_⟩
 rintro _ w1 ⟨k, rfl, hk, heq, hE⟩
 rw [Int.toNat_natCast]
 refine ⟨fun hi => ?_, fun hi => ⟨hE, ?_⟩⟩
 ·have hk' : k < l.length := by omega
  obtain ⟨p, hp, _, hc, _⟩ := (h.ext hE).at_ k (by simpa using hk')
  have e : (l.map fun x => [Value.string (Bs x)]).getD k [] = [.string (Bs (l[k]))] := by simp [List.getD_eq_getElem?_getD, hk']
  rw [e] at hc
  have hc0 := hc 0 _ rfl
  rw [Addr.add_zero'] at hc0
  rw [List.drop_eq_getElem_cons hk', List.all_cons] at heq
  refine ⟨⟨by omega, hi⟩, p, hp, l[k], hc0, fun hne => ⟨hE, ?_⟩, fun he => ⟨⟨by omega, by omega⟩, ⟨k + 1, by omega, by omega, ?_, hE⟩, by dsimp only; omega⟩⟩
  ·have : List.isEmpty l[k] = false := by cases hx : l[k] <;> simp_all
   rw [heq, this]; rfl
  ·have he : l[k] = [] := Classical.not_not.1 he
   rw [heq, he]; rfl
 ·have hkl : k = l.length := by omega
  subst hkl
  rw [heq, List.drop_length]; rfl
theorem isEmpty_dec (s : Str) : decide (s = ([] : Str)) = s.isEmpty := by cases s <;> rfl
theorem isEmpty_ndec (s : Str) : decide (s ≠ ([] : Str)) = !s.isEmpty := by cases s <;> rfl
theorem le_dec (s : Str) (n : Nat) : decide ((s.length : Int) ≤ (n : Int)) = decide (s.length ≤ n) := by rw [Bool.eq_iff_iff]; simp
theorem Box.strs {w : World} {B : Nat} {S : TypeId} {l : List Str} (h : Box w B S (l.map fun x => .string (Bs x))) (hl : l.length ≤ 1000) : Row [] w (Sl.mk (some ⟨B, 0, none⟩) l.length l.length) 1 (l.map fun x => [.string (Bs x)]) := by
 refine ⟨by simp, Nat.le_refl _, by simp only [maxLen]; omega, fun i hi => ⟨⟨B, 0, none⟩, rfl, by simp, fun j v hj => ?_, ?_⟩⟩
 ·simp only [List.length_map] at hi
  have e : (l.map fun x => [Value.string (Bs x)]).getD i [] = [.string (Bs (l[i]))] := by simp [List.getD_eq_getElem?_getD, hi]
  rw [e] at hj
  cases j with
  |succ j => simp at hj
  |zero =>
   simp only [List.getElem?_cons_zero, Option.some.injEq] at hj
   subst hj
   rw [Addr.add_add, Addr.add_lit, Nat.mul_one, Nat.add_zero, Nat.zero_add]
   exact h.cell i _ (by simp [hi])
 ·simp only [List.length_map] at hi
  simp [List.getD_eq_getElem?_getD, hi]
end
section
open Go.RowKit
def ic (z : Int) : List Value := [.int .i64 z]
inductive Calm : T → Prop where
 |node (k : Int) (n x : Str) (ats : List (Str × Str)) (ks : List T) : (∀ p ∈ ats, p.1 ≠ [122, 122]) → (∀ u ∈ ks, Calm u) → Calm (.node k n x ats ks)
structure Sprout (d : Nat) (t : T) : Prop where
 ok : nodeOk t = true
 kind : 2 ≤ t.kind ∧ t.kind ≤ 4
 deep : t.depth ≤ d
 few : t.bulk ≤ 15 * t.size
 calm : Calm t
theorem Sprout.up {d e : Nat} {t : T} (h : Sprout d t) (he : d ≤ e) : Sprout e t := ⟨h.ok, h.kind, Nat.le_trans h.deep he, h.few, h.calm⟩
end
section
open Go.RowKit
theorem len_sizes (us : List T) : us.length ≤ (us.map T.size).sum := by
 have h1 : (us.map fun _ => 1).sum ≤ (us.map T.size).sum := T.sum_le _ _ us fun u _ => by rw [T.size_eq]; omega
 have h2 : ∀ l : List T, (l.map fun _ => 1).sum = l.length := fun l => by induction l with
  |nil => rfl
  |cons a r ih => simp only [List.map_cons, List.sum_cons, ih, List.length_cons]; omega
 rw [h2] at h1; exact h1
structure Grove (us : List T) : Prop where
 ne : us ≠ []
 each : ∀ u ∈ us, Sprout 6 u
 few : (us.map T.size).sum ≤ 40
def grownT (us : List T) : T := .node 1 [] [] [] us
theorem Grove.check {us : List T} (h : Grove us) : (grownT us).check = true := by
 have hs : (grownT us).size ≤ 41 := by rw [T.size_eq]; have := h.few; simp only [grownT, T.kids]; omega
 have hd : (grownT us).depth ≤ 7 := by
  rw [T.depth_eq]
  have : ((grownT us).kids.map T.depth).foldr max 0 ≤ 6 := T.foldr_max_le fun x hx => by
   obtain ⟨u, hm, rfl⟩ := List.mem_map.1 hx
   exact (h.each u hm).deep
  omega
 have hk : kidsOk (grownT us) = true := by
  unfold kidsOk
  rw [List.all_eq_true]
  intro u hm
  have := h.each u hm
  have h3 := this.kind
  rw [this.ok, decide_eq_false (by omega : ¬ u.kind = 5)]; rfl
 unfold T.check
 rw [hk, decide_eq_true (show (grownT us).size ≤ 300 by omega), decide_eq_true (show (grownT us).depth ≤ 60 by omega)]; rfl
end
section
open Go.RowKit
theorem putAt_right (us : List Value) : ∀ (l m : List Value) (o : Nat), putAt (l ++ m) (l.length + o) us = l ++ putAt m o us := by
 induction us with
 |nil => intro l m o; rfl
 |cons u us ih =>
  intro l m o
  rw [putAt, putAt, List.set_append_right _ _ (by omega), show l.length + o - l.length = o by omega, Nat.add_assoc, ih]
theorem putAt_left (us : List Value) : ∀ (v m : List Value) (o : Nat), o + us.length ≤ v.length → putAt (v ++ m) o us = putAt v o us ++ m := by
 induction us with
 |nil => intro v m o _; rfl
 |cons u us ih =>
  intro v m o h
  simp only [List.length_cons] at h
  rw [putAt, putAt, List.set_append_left _ _ (by omega), ih _ _ _ (by simp; omega)]
theorem putAt_len (us : List Value) : ∀ (v : List Value) (o : Nat), (putAt v o us).length = v.length := by
 induction us with
 |nil => intro v o; rfl
 |cons u us ih => intro v o; rw [putAt, ih, List.length_set]
theorem Own.put {A : List Nat} {w w' : World} {s : Sl} {size g o j : Nat} {T : TypeId} {vs : List (List Value)} {cur us : List Value} (h : Own A w s size T vs) (ha : s.a = some ⟨g, 0, none⟩) (hb : Box w g T cur) (hj : j < vs.length) (ho : o + us.length ≤ size) (hb' : Box w' g T (putAt cur (j * size + o) us)) :
  Own A w' s size T (vs.set j (putAt (vs.getD j []) o us)) := by
 have hl := h.len
 have hv : (vs.getD j []).length = size := h.each _ (by rw [List.getD_eq_getElem?_getD, List.getElem?_eq_getElem hj]; exact List.getElem_mem hj)
 refine ⟨by rw [List.length_set]; exact hl, h.cap, h.most, fun u hu => ?_, .inr ⟨g, putAt cur (j * size + o) us, ha, ?_, hb', ?_, ?_⟩⟩
 ·rcases List.mem_or_eq_of_mem_set hu with hu | hu
  ·exact h.each u hu
  ·rw [hu, putAt_len]; exact hv
 ·rcases h.at_ with e | ⟨g', cur', h1, h2, _⟩
  ·rw [e] at ha; cases ha
  ·rw [ha] at h1; cases h1; exact h2
 all_goals
  rcases h.at_ with e | ⟨g', cur', h1, h2, h3, h4, h5⟩
  ·rw [e] at ha; cases ha
  ·rw [ha] at h1
   cases h1
   have e : cur = cur' := by unfold Box at hb h3; rw [hb] at h3; simpa using h3
   subst e
   first
   |rw [putAt_len]; exact h4
   |have hsplit : vs = vs.take j ++ vs.getD j [] :: vs.drop (j + 1) := by
     rw [List.getD_eq_getElem?_getD, List.getElem?_eq_getElem hj]
     exact (List.take_append_drop j vs).symm.trans (by rw [List.drop_eq_getElem_cons hj]; rfl)
    have hset : vs.set j (putAt (vs.getD j []) o us) = vs.take j ++ putAt (vs.getD j []) o us :: vs.drop (j + 1) := by
     rw [List.set_eq_take_append_cons_drop, if_pos hj]
    have hcur : cur = vs.flatten ++ cur.drop (s.n * size) := by rw [← h5, List.take_append_drop]
    have hjl : (vs.take j).flatten.length = j * size := by
     rw [flatten_len (vs.take j) (fun u hu => h.each u (List.mem_of_mem_take hu)), List.length_take, Nat.min_eq_left (by omega)]
    have hfl : vs.flatten = (vs.take j).flatten ++ (vs.getD j [] ++ (vs.drop (j + 1)).flatten) := by
     conv => lhs; rw [hsplit]
     rw [List.flatten_append, List.flatten_cons]
    have hlen : vs.flatten.length = s.n * size := by rw [flatten_len vs h.each, hl]
    have e1 : cur = (vs.take j).flatten ++ (vs.getD j [] ++ ((vs.drop (j + 1)).flatten ++ cur.drop (s.n * size))) := by
     conv => lhs; rw [hcur, hfl]
     simp only [List.append_assoc]
    have e2 : putAt cur (j * size + o) us = (vs.take j).flatten ++ (putAt (vs.getD j []) o us ++ ((vs.drop (j + 1)).flatten ++ cur.drop (s.n * size))) := by
     conv => lhs; rw [e1]
     rw [← hjl, putAt_right, putAt_left _ _ _ _ (by omega)]
    generalize cur.drop (s.n * size) = rest at e2
    rw [e2, hset, List.flatten_append, List.flatten_cons]
    have e3 : ((vs.take j).flatten ++ (putAt (vs.getD j []) o us ++ (vs.drop (j + 1)).flatten)).length = s.n * size := by
     rw [← hlen, hfl]; simp only [List.length_append, putAt_len]
    have e4 : (vs.take j).flatten ++ (putAt (vs.getD j []) o us ++ ((vs.drop (j + 1)).flatten ++ rest)) = ((vs.take j).flatten ++ (putAt (vs.getD j []) o us ++ (vs.drop (j + 1)).flatten)) ++ rest := by simp only [List.append_assoc]
    rw [← e3, e4, List.take_left]
end
section
open Go.RowKit
theorem putAt_eq (us : List Value) : ∀ (cs : List Value) (o : Nat), o + us.length ≤ cs.length → putAt cs o us = cs.take o ++ us ++ cs.drop (o + us.length) := fun cs o h => by
 have e : cs = cs.take o ++ cs.drop o := (List.take_append_drop o cs).symm
 have hl : (cs.take o).length = o := by rw [List.length_take]; omega
 have h1 := putAt_right us (cs.take o) (cs.drop o) 0
 rw [hl, Nat.add_zero, ← e] at h1
 have e2 : cs.drop o = (cs.drop o).take us.length ++ cs.drop (o + us.length) := by
  rw [← List.drop_drop, List.take_append_drop]
 have hl2 : ((cs.drop o).take us.length).length = us.length := by rw [List.length_take, List.length_drop]; omega
 have h2 := putAt_left us ((cs.drop o).take us.length) (cs.drop (o + us.length)) 0 (by omega)
 rw [← e2] at h2
 have h3 : ∀ (us v : List Value), v.length = us.length → putAt v 0 us = us := by
  have key : ∀ (us l v : List Value), v.length = us.length → putAt (l ++ v) l.length us = l ++ us := by
   intro us
   induction us with
   |nil => intro l v hv; rw [List.length_eq_zero_iff.1 hv]; rfl
   |cons u us ih =>
    intro l v hv
    cases v with
    |nil => simp at hv
    |cons x v =>
     rw [putAt]
     have e3 : (l ++ x :: v).set l.length u = (l ++ [u]) ++ v := by simp
     rw [e3]
     have := ih (l ++ [u]) v (by simpa using hv)
     simp only [List.length_append, List.length_singleton] at this
     rw [this]; simp
  intro us v hv
  exact key us [] v hv
 rw [h1, h2, h3 us _ hl2, List.append_assoc]
theorem copyK {P : Program} {w : World} {bx : List Nat} {t ty T : TypeId} {z : Value} {size bytes : Nat} {d s : Sl} {g o : Nat} {cur vs : List Value} {ps : Addr} {K : Value → World → Prop} (ht : P.underlying t = some (.slice T)) (hi : TI P T z size bytes) (hd : d.a = some ⟨g, o, none⟩) (hB : Box w g T cur) (hs : s.a = some ps)
  (hlen : vs.length = min s.n d.n * size) (hfit : o + vs.length ≤ cur.length) (hsrc : Cells w ps vs) (h1 : ∀ v ∈ vs, v.oneCell' = true) (hbx : g ∉ bx)
  (k : ∀ w', Chg [g] w w' → Box w' g T (putAt cur o vs) → K (.int .i64 ((min s.n d.n : Nat) : Int)) w') : RunK P (Builtin.copy_ #[t, t] ty #[d.v, s.v]) w bx K := by
 have hl := run_loadCells_list (P := P) w ps vs hsrc
 have hst := run_storeCells_box (P := P) o vs 0 hB (by simpa using hfit) h1
 have hc := setCells_chg g vs w o
 refine ⟨_, _, ?_, hc.noTouch _ (fun b hb hm => by simp at hm; exact hbx (hm ▸ hb)), hc.size, k (setCells w g o vs) hc (setCells_box vs hB)⟩
 unfold Sl.v
 rw [hd, hs]
 rw [hlen] at hl
 have hm : Nat.min s.n d.n = min s.n d.n := rfl
 rw [Nat.add_zero] at hst
 simp [Builtin.copy_, run_underlying ht, Builtin.lenOf, Builtin.firstCells, hi.sizeOf, hm, hl, hst, goInt, Result.andThen]
theorem zerosK {P : Program} {w : World} {bx : List Nat} {t tn ty T : TypeId} {z : Value} {size bytes : Nat} {s : Sl} {olds : List Value} {ps : Addr} {n : Nat} {K : Value → World → Prop} (ht : P.underlying t = some (.slice T)) (htn : P.underlying tn = some (.int .i64)) (hi : TI P T z size bytes) (hsz : 0 < size) (hzs : z.cells.size = size)
  (hs : s.a = some ps) (hold : Cells w ps olds) (hol : olds.length = s.n * size) (hn : 0 < n) (hg : s.c < s.n + n) (h63 : s.n + n ≤ maxLen) (hbytes : (s.n + n) * bytes ≤ 140737488355328)
  (k : ∀ G w' zz, s.n + n ≤ G → G ≤ maxLen → Ext w w' → zz.length = (G - s.n) * size → Box w' w.heap.size T (olds ++ zz) → K (Sl.mk (some ⟨w.heap.size, 0, none⟩) (s.n + n) G).v w') : RunK P (Builtin.append_ #[t, tn] ty #[s.v, .int .i64 (n : Int)]) w bx K := by
 obtain ⟨i, h1, h2, h3, h4⟩ := hi
 subst h3 h4
 have hsmall : s.n + n ≤ 9223372036854775807 := by simp only [maxLen] at h63; omega
 have hfirst : (Builtin.firstCells i.size s.n (.slice (some ps) s.n s.c)).run P w.drew = .ok olds.toArray w.drew := by
  have := run_loadCells_list (P := P) w.drew ps olds hold
  rw [hol] at this
  simpa [Builtin.firstCells] using this
 have hr := Lib.run_append_grow_zeros (P := P) w t tn ty T i z .i64 .i64 ht htn h1 h2 (some ps) s.n s.c olds hfirst n hn hsz hg (by omega) (by have := hbytes; rw [Nat.add_mul] at this; omega) (growslice_fits hg hbytes)
 have hE : Ext w (w.drew.alloc (.cells (olds.toArray ++ Builtin.zeroCells z.cells n ++ Builtin.zeroCells z.cells (grownCap w (s.n + n) s.c T - (s.n + n))) T)) := ((Chg.refl [] w).drew).trans (Ext.alloc _ _)
 have hge := grownCap_ge w (s.n + n) s.c T
 have hcm : grownCap w (s.n + n) s.c T ≤ maxLen := grownCap_le_maxLen w (s.n + n) s.c T h63
 refine ⟨_, _, ?_, hE.noTouch _, hE.size, k (grownCap w (s.n + n) s.c T) _ ((Builtin.zeroCells z.cells n).toList ++ (Builtin.zeroCells z.cells (grownCap w (s.n + n) s.c T - (s.n + n))).toList) hge hcm hE ?_ ?_⟩
 ·unfold Sl.v; rw [hs]; exact hr
 ·simp only [List.length_append, Array.length_toList, size_zeroCells, hzs, ← Nat.add_mul]
  congr 1; omega
 ·unfold Box
  have := heap_alloc_new w.drew (.cells (olds.toArray ++ Builtin.zeroCells z.cells n ++ Builtin.zeroCells z.cells (grownCap w (s.n + n) s.c T - (s.n + n))) T)
  rw [show w.drew.heap.size = w.heap.size from rfl] at this
  rw [this]
  simp
theorem shape_box {w : World} {B : Nat} {T : TypeId} {cs : List Value} (h : Box w B T cs) : w.shape? B = some (T, cs.length) := by
 unfold Box at h; simp [World.shape?, h]
end
section
open Go.RowKit
theorem slicesInsert_int {A : List Nat} {w : World} {s x : Sl} {vs us : List (List Value)} {i : Nat} (ho : Own A w s 1 3 vs) (hA : ∀ b ∈ A, b < w.heap.size) (hx : Own [] w x 1 3 us) (hap : ∀ b ∈ x.blk, b ∉ s.blk) (h1 : ∀ u ∈ us.flatten, u.oneCell' = true) (hv1 : ∀ u ∈ vs.flatten, u.oneCell' = true) (hu : us ≠ []) (hi : i ≤ vs.length) (hvs : vs.length + us.length ≤ 1000000000) :
  Calls Tryz.prog 67 #[s.v, .int .i64 (i : Int), x.v] w (Ret fun v w' => Chg s.blk w w' ∧ ∃ s' : Sl, v = s'.v ∧ Own A w' s' 1 3 (vs.take i ++ us ++ vs.drop i) ∧ ∀ b ∈ s'.blk, b ∈ s.blk ∨ w.heap.size ≤ b) := by
 refine slices_Insert__int_int_.ok _ _ _ ?_
 unfold slices_Insert__int_int_.vc
 have hn := ho.len
 have hm := hx.len
 have hcap := ho.cap
 have hmost := ho.most
 have hmo : maxLen = 9223372036854775807 := rfl
 have hup : 0 < us.length := List.length_pos_iff.2 hu
 obtain ⟨vb, cx, hxa, _, hxB, hxl, hxt⟩ : ∃ g cur, x.a = some ⟨g, 0, none⟩ ∧ g ∉ ([] : List Nat) ∧ Box w g 3 cur ∧ cur.length = x.c * 1 ∧ cur.take (x.n * 1) = us.flatten := by
  rcases hx.at_ with e | e
  ·rw [e] at hm; simp [Sl.nil] at hm; omega
  ·exact e
 have hufl : us.flatten.length = us.length * 1 := flatten_len us hx.each
 have hvfl : vs.flatten.length = vs.length * 1 := flatten_len vs ho.each
 have hxcell : ∀ w', Ext w w' → Cells w' ⟨vb, 0, none⟩ us.flatten := fun w' hE => (hxB.ext hE).part 0 _ (by rw [hufl, List.drop_zero, ← hm]; exact hxt)
 have hE3 : (i : Int).toNat = i := Int.toNat_natCast i
 refine ⟨⟨by omega, by omega⟩, fun h => by omega, fun _ => ⟨fun hend => ?_, fun hne => ⟨⟨by omega, by omega⟩, fun hgrow => ?_, fun hroom => ?_⟩⟩⟩
 ·have hie : i = vs.length := by omega
  refine App.runK Tryz.underlying78 ti_3 rfl (by decide) (.inl ho) hA hx.row h1 hu (by omega) (by omega) (by simp) fun s' w' ho' hC hb => ⟨s', rfl, hC.mono fun b hb => Sl.own_blk hb, s', rfl, ?_, fun b hb' => (hb b hb').imp Sl.own_blk id⟩
  rw [hie, List.take_length, List.drop_length, List.append_nil]; exact ho'
 all_goals
  have hiv : i < vs.length := by omega
  obtain ⟨g, cur, hga, hgA, hgB, hgl, hgt⟩ : ∃ g cur, s.a = some ⟨g, 0, none⟩ ∧ g ∉ A ∧ Box w g 3 cur ∧ cur.length = s.c * 1 ∧ cur.take (s.n * 1) = vs.flatten := by
   rcases ho.at_ with e | e
   ·rw [e] at hn; simp [Sl.nil] at hn; omega
   ·exact e
  have hgs : s.blk = [g] := by simp [Sl.blk, hga]
  have hvg : vb ≠ g := fun e => hap vb (by simp [Sl.blk, hxa]) (by rw [hgs, e]; simp)
  have hPl : (vs.take i).flatten.length = i * 1 := by
   rw [flatten_len _ (fun u hu => ho.each u (List.mem_of_mem_take hu)), List.length_take]; congr 1; omega
  have hDl : (vs.drop i).flatten.length = (vs.length - i) * 1 := by
   rw [flatten_len _ (fun u hu => ho.each u (List.mem_of_mem_drop hu)), List.length_drop]
  have hPD : vs.flatten = (vs.take i).flatten ++ (vs.drop i).flatten := by rw [← List.flatten_append, List.take_append_drop]
  have hcur : cur = (vs.take i).flatten ++ ((vs.drop i).flatten ++ cur.drop (s.n * 1)) := by
   rw [← List.append_assoc, ← hPD, ← hgt, List.take_append_drop]
  have hD1 : ∀ v ∈ (vs.drop i).flatten, v.oneCell' = true := fun v hv => hv1 v (by rw [hPD]; exact List.mem_append_right _ hv)
  have hdcell : ∀ w', Box w' g 3 cur → Cells w' ⟨g, i * 1, none⟩ (vs.drop i).flatten := fun w' hB => hB.part (i * 1) _ (by
   have e := congrArg (fun l => List.take (vs.drop i).flatten.length (List.drop (i * 1) l)) hcur
   rw [e, ← hPl, List.drop_left, List.take_left])
 ·have hc : s.c < s.n + us.length := by omega
  have hcut : (Sl.cut s 1 0 i s.c) = ⟨some ⟨g, 0, none⟩, i, s.c⟩ := by
   unfold Sl.cut; rw [hga]; simp [Addr.add_lit]
  have hk : (s.n : Int) + (x.n : Int) - (i : Int) = ((vs.length + us.length - i : Nat) : Int) := by omega
  rw [hE3, hcut, hk]
  refine ⟨⟨by omega, by omega⟩, ⟨by omega, by omega⟩, ⟨by omega, by omega⟩, ?_⟩
  refine zerosK (s := ⟨some ⟨g, 0, none⟩, i, s.c⟩) (olds := (vs.take i).flatten) Tryz.underlying78 Tryz.underlying3 ti_3 (by decide) rfl rfl (hgB.part 0 _ (by
   have e := congrArg (fun l => List.take (vs.take i).flatten.length (List.drop 0 l)) hcur
   rw [e, List.drop_zero, List.take_left])) hPl (by omega) (by simp only; omega) (by simp only; omega) (by simp only; omega) fun G w1 zz hG1 hG2 hE1 hzl hB1 => ?_
  have hN : w.heap.size < w1.heap.size := hB1.lt
  have hgw : g < w.heap.size := hgB.lt
  have hsum : i + (vs.length + us.length - i) = vs.length + us.length := by omega
  rw [hsum] at hG1 ⊢
  simp only at hzl
  refine ⟨_, rfl, ⟨by omega, by simp only; omega⟩, ?_⟩
  have hrowl : ((vs.take i).flatten ++ zz).length = G * 1 := by
   rw [List.length_append, hPl, hzl, ← Nat.add_mul]; congr 1; omega
  have hGi : ¬ G = i := by omega
  have hc1 : (Sl.cut (Sl.mk (some ⟨w.heap.size, 0, none⟩) (vs.length + us.length) G) 1 i (vs.length + us.length) G) = ⟨some ⟨w.heap.size, i * 1, none⟩, vs.length + us.length - i, G - i⟩ := by
   unfold Sl.cut; simp [Addr.add_lit, hGi]
  rw [hc1]
  refine copyK (o := i * 1) (ps := ⟨vb, 0, none⟩) (vs := us.flatten) Tryz.underlying78 ti_3 rfl hB1 hxa (by rw [hufl]; congr 1; simp only; omega) (by rw [hrowl, hufl, ← Nat.add_mul]; exact Nat.mul_le_mul_right _ (by omega)) (hxcell _ hE1) h1 (by simp) fun w2 hC2 hB2 => ⟨_, rfl, fun w3 hE3 => ⟨⟨by omega, by omega⟩, ⟨by omega, by simp only; omega⟩, ⟨by omega, by omega⟩, fun w4 hE4 => ?_⟩⟩
  have e1 : ((i : Int) + (x.n : Int)).toNat = i + us.length := by omega
  have hGim : ¬ G = i + us.length := by omega
  have hci : ¬ s.c = i := by omega
  have hc2 : (Sl.cut (Sl.mk (some ⟨w.heap.size, 0, none⟩) (vs.length + us.length) G) 1 (i + us.length) (vs.length + us.length) G) = ⟨some ⟨w.heap.size, (i + us.length) * 1, none⟩, vs.length + us.length - (i + us.length), G - (i + us.length)⟩ := by
   unfold Sl.cut; simp [Addr.add_lit, hGim]
  have hc3 : (Sl.cut s 1 i s.n s.c) = ⟨some ⟨g, i * 1, none⟩, s.n - i, s.c - i⟩ := by
   unfold Sl.cut; rw [hga]; simp [Addr.add_lit, hci]
  rw [e1, hc2, hc3]
  have hE2 : Ext w w2 := Chg.fresh hE1 hC2 (by simp)
  have hE04 := (hE2.trans hE3).trans hE4
  refine copyK (o := (i + us.length) * 1) (ps := ⟨g, i * 1, none⟩) (vs := (vs.drop i).flatten) Tryz.underlying78 ti_3 rfl ((hB2.ext hE3).ext hE4) rfl (by rw [hDl]; congr 1; simp only; omega) (by rw [putAt_len, hrowl, hDl, ← Nat.add_mul]; exact Nat.mul_le_mul_right _ (by omega)) (hdcell _ (hgB.ext hE04)) hD1 (by simp) fun w5 hC5 hB5 => ⟨_, rfl, (Chg.fresh hE04 hC5 (by simp)).mono (by simp), _, rfl, ?_, fun b hb => ?_⟩
  ·refine ⟨by simp only [List.length_append, List.length_take, List.length_drop]; omega, hG1, hG2, fun u hu => ?_, .inr ⟨w.heap.size, _, rfl, fun hm => by have := hA _ hm; omega, hB5, ?_, ?_⟩⟩
   ·rcases List.mem_append.1 hu with hu | hu
    ·rcases List.mem_append.1 hu with hu | hu
     ·exact ho.each u (List.mem_of_mem_take hu)
     ·exact hx.each u hu
    ·exact ho.each u (List.mem_of_mem_drop hu)
   ·rw [putAt_len, putAt_len, hrowl]
   ·have hf1 : us.length * 1 ≤ zz.length := by rw [hzl]; exact Nat.mul_le_mul_right _ (by omega)
    have e2 := putAt_right us.flatten (vs.take i).flatten zz 0
    rw [hPl, Nat.add_zero, putAt_eq us.flatten zz 0 (by rw [hufl]; omega)] at e2
    have e3 := putAt_right (vs.drop i).flatten ((vs.take i).flatten ++ us.flatten) (zz.drop us.flatten.length) 0
    rw [List.length_append, hPl, hufl, ← Nat.add_mul, Nat.add_zero] at e3
    rw [e2]
    simp only [List.take_zero, List.nil_append, Nat.zero_add]
    rw [← List.append_assoc, hufl, e3, putAt_eq (vs.drop i).flatten _ 0 (by rw [hDl, List.length_drop, hzl, Nat.zero_add, ← Nat.sub_mul]; exact Nat.mul_le_mul_right _ (by omega))]
    simp only [List.take_zero, List.nil_append, Nat.zero_add]
    rw [← List.append_assoc, List.flatten_append, List.flatten_append]
    refine List.take_left' ?_
    rw [List.length_append, List.length_append, hPl, hufl, hDl, ← Nat.add_mul, ← Nat.add_mul]; congr 1; omega
  ·simp [Sl.blk] at hb; right; omega
 ·have hc : s.n + us.length ≤ s.c := by omega
  have e0 : ((s.n : Int) + (x.n : Int)).toNat = vs.length + us.length := by omega
  have e1 : ((i : Int) + (x.n : Int)).toNat = i + us.length := by omega
  have hc0 : ¬ s.c = 0 := by omega
  have hci : ¬ s.c = i := by omega
  have hcim : ¬ s.c = i + us.length := by omega
  have hcut : (Sl.cut s 1 0 (vs.length + us.length) s.c) = ⟨some ⟨g, 0, none⟩, vs.length + us.length, s.c⟩ := by
   unfold Sl.cut; rw [hga]; simp [Addr.add_lit]
  rw [e0, hcut, e1, hE3]
  have hc1 : (Sl.cut (Sl.mk (some ⟨g, 0, none⟩) (vs.length + us.length) s.c) 1 (i + us.length) (vs.length + us.length) s.c) = ⟨some ⟨g, (i + us.length) * 1, none⟩, vs.length + us.length - (i + us.length), s.c - (i + us.length)⟩ := by
   unfold Sl.cut; simp [Addr.add_lit, hcim]
  have hc2 : (Sl.cut (Sl.mk (some ⟨g, 0, none⟩) (vs.length + us.length) s.c) 1 i (vs.length + us.length) s.c) = ⟨some ⟨g, i * 1, none⟩, vs.length + us.length - i, s.c - i⟩ := by
   unfold Sl.cut; simp [Addr.add_lit, hci]
  rw [hc1, hc2]
  refine ⟨⟨by omega, by omega⟩, ⟨by omega, by omega⟩, ⟨by omega, by omega⟩, ⟨by omega, by simp only; omega⟩, false, ?_, fun _ w1 hE1 => ⟨⟨by omega, by omega⟩, ⟨by omega, by simp only; omega⟩, ⟨by omega, by simp only; omega⟩, fun w2 hE2 => ?_⟩, fun h => by cases h⟩
  ·unfold Sl.v
   rw [hxa]
   exact Lib.run_overlaps_apart w _ _ 3 Tryz.underlying78 1 (fun w => (ti_3).sizeOf w) ⟨vb, 0, none⟩ ⟨g, (i + us.length) * 1, none⟩ _ _ _ _ hvg 3 3 cx.length cur.length (shape_box hxB) (shape_box hgB) (by rw [hgl]; omega) (hxB.free 0) (hxB.free _)
  ·have hE02 := hE1.trans hE2
   refine copyK (o := (i + us.length) * 1) (ps := ⟨g, i * 1, none⟩) (vs := (vs.drop i).flatten) Tryz.underlying78 ti_3 rfl (hgB.ext hE02) rfl (by rw [hDl]; congr 1; simp only; omega) (by rw [hgl, hDl, ← Nat.add_mul]; exact Nat.mul_le_mul_right _ (by omega)) (hdcell _ (hgB.ext hE02)) hD1 (by simp) fun w3 hC3 hB3 => ⟨_, rfl, ⟨by omega, by simp only; omega⟩, ?_⟩
   have hxc : Cells w3 ⟨vb, 0, none⟩ us.flatten := (hxcell _ hE02).chg hC3 (by simpa using hvg)
   refine copyK (o := i * 1) (ps := ⟨vb, 0, none⟩) (vs := us.flatten) Tryz.underlying78 ti_3 rfl hB3 hxa (by rw [hufl]; congr 1; simp only; omega) (by rw [putAt_len, hgl, hufl, ← Nat.add_mul]; exact Nat.mul_le_mul_right _ (by omega)) hxc h1 (by simp) fun w4 hC4 hB4 => ⟨_, rfl, ?_, _, rfl, ?_, fun b hb => ?_⟩
   ·rw [hgs]; exact ((hE02.mono (by simp)).trans hC3).trans hC4
   ·refine ⟨by simp only [List.length_append, List.length_take, List.length_drop]; omega, by simp only; omega, hmost, fun u hu => ?_, .inr ⟨g, _, rfl, hgA, hB4, ?_, ?_⟩⟩
    ·rcases List.mem_append.1 hu with hu | hu
     ·rcases List.mem_append.1 hu with hu | hu
      ·exact ho.each u (List.mem_of_mem_take hu)
      ·exact hx.each u hu
     ·exact ho.each u (List.mem_of_mem_drop hu)
    ·rw [putAt_len, putAt_len, hgl]
    ·have hfit : (i + us.length) * 1 + (vs.drop i).flatten.length ≤ cur.length := by rw [hgl, hDl, ← Nat.add_mul]; exact Nat.mul_le_mul_right _ (by omega)
     rw [putAt_eq _ cur _ hfit]
     have ht : cur.take ((i + us.length) * 1) = (vs.take i).flatten ++ ((vs.drop i).flatten ++ cur.drop (s.n * 1)).take (us.length * 1) := by
      have e := congrArg (List.take ((i + us.length) * 1)) hcur
      rw [e, Nat.add_mul, ← hPl, List.take_append, List.take_of_length_le (Nat.le_add_right _ _), Nat.add_sub_cancel_left]
     rw [ht]
     have e2 := putAt_right us.flatten (vs.take i).flatten ((((vs.drop i).flatten ++ cur.drop (s.n * 1)).take (us.length * 1) ++ (vs.drop i).flatten ++ cur.drop ((i + us.length) * 1 + (vs.drop i).flatten.length))) 0
     rw [hPl, Nat.add_zero] at e2
     have htl : (((vs.drop i).flatten ++ cur.drop (s.n * 1)).take (us.length * 1)).length = us.flatten.length := by
      rw [List.length_take, List.length_append, hDl, List.length_drop, hgl, hufl, ← Nat.sub_mul, ← Nat.add_mul]
      exact Nat.min_eq_left (Nat.mul_le_mul_right _ (by omega))
     rw [List.append_assoc, List.append_assoc, ← List.append_assoc (List.take _ _), e2, putAt_eq us.flatten _ 0 (by rw [List.length_append, List.length_append, htl]; omega)]
     simp only [List.take_zero, List.nil_append, Nat.zero_add]
     rw [← htl, List.append_assoc (List.take _ _), List.drop_left, ← List.append_assoc, ← List.append_assoc, List.flatten_append, List.flatten_append]
     refine List.take_left' ?_
     rw [List.length_append, List.length_append, hPl, hufl, hDl, ← Nat.add_mul, ← Nat.add_mul]; congr 1; omega
   ·rw [hgs]; left; simpa [Sl.blk] using hb
theorem slicesInsert_attr {A : List Nat} {w : World} {s x : Sl} {vs us : List (List Value)} {i : Nat} (ho : Own A w s 2 63 vs) (hA : ∀ b ∈ A, b < w.heap.size) (hx : Own [] w x 2 63 us) (hap : ∀ b ∈ x.blk, b ∉ s.blk) (h1 : ∀ u ∈ us.flatten, u.oneCell' = true) (hv1 : ∀ u ∈ vs.flatten, u.oneCell' = true) (hu : us ≠ []) (hi : i ≤ vs.length) (hvs : vs.length + us.length ≤ 1000000000) :
  Calls Tryz.prog 73 #[s.v, .int .i64 (i : Int), x.v] w (Ret fun v w' => Chg s.blk w w' ∧ ∃ s' : Sl, v = s'.v ∧ Own A w' s' 2 63 (vs.take i ++ us ++ vs.drop i) ∧ ∀ b ∈ s'.blk, b ∈ s.blk ∨ w.heap.size ≤ b) := by
 refine slices_Insert__api_Attr_api_Attr_.ok _ _ _ ?_
 unfold slices_Insert__api_Attr_api_Attr_.vc
 have hn := ho.len
 have hm := hx.len
 have hcap := ho.cap
 have hmost := ho.most
 have hmo : maxLen = 9223372036854775807 := rfl
 have hup : 0 < us.length := List.length_pos_iff.2 hu
 obtain ⟨vb, cx, hxa, _, hxB, hxl, hxt⟩ : ∃ g cur, x.a = some ⟨g, 0, none⟩ ∧ g ∉ ([] : List Nat) ∧ Box w g 63 cur ∧ cur.length = x.c * 2 ∧ cur.take (x.n * 2) = us.flatten := by
  rcases hx.at_ with e | e
  ·rw [e] at hm; simp [Sl.nil] at hm; omega
  ·exact e
 have hufl : us.flatten.length = us.length * 2 := flatten_len us hx.each
 have hvfl : vs.flatten.length = vs.length * 2 := flatten_len vs ho.each
 have hxcell : ∀ w', Ext w w' → Cells w' ⟨vb, 0, none⟩ us.flatten := fun w' hE => (hxB.ext hE).part 0 _ (by rw [hufl, List.drop_zero, ← hm]; exact hxt)
 have hE3 : (i : Int).toNat = i := Int.toNat_natCast i
 refine ⟨⟨by omega, by omega⟩, fun h => by omega, fun _ => ⟨fun hend => ?_, fun hne => ⟨⟨by omega, by omega⟩, fun hgrow => ?_, fun hroom => ?_⟩⟩⟩
 ·have hie : i = vs.length := by omega
  refine App.runK Tryz.underlying22 ti_63 rfl (by decide) (.inl ho) hA hx.row h1 hu (by omega) (by omega) (by simp) fun s' w' ho' hC hb => ⟨s', rfl, hC.mono fun b hb => Sl.own_blk hb, s', rfl, ?_, fun b hb' => (hb b hb').imp Sl.own_blk id⟩
  rw [hie, List.take_length, List.drop_length, List.append_nil]; exact ho'
 all_goals
  have hiv : i < vs.length := by omega
  obtain ⟨g, cur, hga, hgA, hgB, hgl, hgt⟩ : ∃ g cur, s.a = some ⟨g, 0, none⟩ ∧ g ∉ A ∧ Box w g 63 cur ∧ cur.length = s.c * 2 ∧ cur.take (s.n * 2) = vs.flatten := by
   rcases ho.at_ with e | e
   ·rw [e] at hn; simp [Sl.nil] at hn; omega
   ·exact e
  have hgs : s.blk = [g] := by simp [Sl.blk, hga]
  have hvg : vb ≠ g := fun e => hap vb (by simp [Sl.blk, hxa]) (by rw [hgs, e]; simp)
  have hPl : (vs.take i).flatten.length = i * 2 := by
   rw [flatten_len _ (fun u hu => ho.each u (List.mem_of_mem_take hu)), List.length_take]; congr 1; omega
  have hDl : (vs.drop i).flatten.length = (vs.length - i) * 2 := by
   rw [flatten_len _ (fun u hu => ho.each u (List.mem_of_mem_drop hu)), List.length_drop]
  have hPD : vs.flatten = (vs.take i).flatten ++ (vs.drop i).flatten := by rw [← List.flatten_append, List.take_append_drop]
  have hcur : cur = (vs.take i).flatten ++ ((vs.drop i).flatten ++ cur.drop (s.n * 2)) := by
   rw [← List.append_assoc, ← hPD, ← hgt, List.take_append_drop]
  have hD1 : ∀ v ∈ (vs.drop i).flatten, v.oneCell' = true := fun v hv => hv1 v (by rw [hPD]; exact List.mem_append_right _ hv)
  have hdcell : ∀ w', Box w' g 63 cur → Cells w' ⟨g, i * 2, none⟩ (vs.drop i).flatten := fun w' hB => hB.part (i * 2) _ (by
   have e := congrArg (fun l => List.take (vs.drop i).flatten.length (List.drop (i * 2) l)) hcur
   rw [e, ← hPl, List.drop_left, List.take_left])
 ·have hc : s.c < s.n + us.length := by omega
  have hcut : (Sl.cut s 2 0 i s.c) = ⟨some ⟨g, 0, none⟩, i, s.c⟩ := by
   unfold Sl.cut; rw [hga]; simp [Addr.add_lit]
  have hk : (s.n : Int) + (x.n : Int) - (i : Int) = ((vs.length + us.length - i : Nat) : Int) := by omega
  rw [hE3, hcut, hk]
  refine ⟨⟨by omega, by omega⟩, ⟨by omega, by omega⟩, ⟨by omega, by omega⟩, ?_⟩
  refine zerosK (s := ⟨some ⟨g, 0, none⟩, i, s.c⟩) (olds := (vs.take i).flatten) Tryz.underlying22 Tryz.underlying3 ti_63 (by decide) rfl rfl (hgB.part 0 _ (by
   have e := congrArg (fun l => List.take (vs.take i).flatten.length (List.drop 0 l)) hcur
   rw [e, List.drop_zero, List.take_left])) hPl (by omega) (by simp only; omega) (by simp only; omega) (by simp only; omega) fun G w1 zz hG1 hG2 hE1 hzl hB1 => ?_
  have hN : w.heap.size < w1.heap.size := hB1.lt
  have hgw : g < w.heap.size := hgB.lt
  have hsum : i + (vs.length + us.length - i) = vs.length + us.length := by omega
  rw [hsum] at hG1 ⊢
  simp only at hzl
  refine ⟨_, rfl, ⟨by omega, by simp only; omega⟩, ?_⟩
  have hrowl : ((vs.take i).flatten ++ zz).length = G * 2 := by
   rw [List.length_append, hPl, hzl, ← Nat.add_mul]; congr 1; omega
  have hGi : ¬ G = i := by omega
  have hc1 : (Sl.cut (Sl.mk (some ⟨w.heap.size, 0, none⟩) (vs.length + us.length) G) 2 i (vs.length + us.length) G) = ⟨some ⟨w.heap.size, i * 2, none⟩, vs.length + us.length - i, G - i⟩ := by
   unfold Sl.cut; simp [Addr.add_lit, hGi]
  rw [hc1]
  refine copyK (o := i * 2) (ps := ⟨vb, 0, none⟩) (vs := us.flatten) Tryz.underlying22 ti_63 rfl hB1 hxa (by rw [hufl]; congr 1; simp only; omega) (by rw [hrowl, hufl, ← Nat.add_mul]; exact Nat.mul_le_mul_right _ (by omega)) (hxcell _ hE1) h1 (by simp) fun w2 hC2 hB2 => ⟨_, rfl, fun w3 hE3 => ⟨⟨by omega, by omega⟩, ⟨by omega, by simp only; omega⟩, ⟨by omega, by omega⟩, fun w4 hE4 => ?_⟩⟩
  have e1 : ((i : Int) + (x.n : Int)).toNat = i + us.length := by omega
  have hGim : ¬ G = i + us.length := by omega
  have hci : ¬ s.c = i := by omega
  have hc2 : (Sl.cut (Sl.mk (some ⟨w.heap.size, 0, none⟩) (vs.length + us.length) G) 2 (i + us.length) (vs.length + us.length) G) = ⟨some ⟨w.heap.size, (i + us.length) * 2, none⟩, vs.length + us.length - (i + us.length), G - (i + us.length)⟩ := by
   unfold Sl.cut; simp [Addr.add_lit, hGim]
  have hc3 : (Sl.cut s 2 i s.n s.c) = ⟨some ⟨g, i * 2, none⟩, s.n - i, s.c - i⟩ := by
   unfold Sl.cut; rw [hga]; simp [Addr.add_lit, hci]
  rw [e1, hc2, hc3]
  have hE2 : Ext w w2 := Chg.fresh hE1 hC2 (by simp)
  have hE04 := (hE2.trans hE3).trans hE4
  refine copyK (o := (i + us.length) * 2) (ps := ⟨g, i * 2, none⟩) (vs := (vs.drop i).flatten) Tryz.underlying22 ti_63 rfl ((hB2.ext hE3).ext hE4) rfl (by rw [hDl]; congr 1; simp only; omega) (by rw [putAt_len, hrowl, hDl, ← Nat.add_mul]; exact Nat.mul_le_mul_right _ (by omega)) (hdcell _ (hgB.ext hE04)) hD1 (by simp) fun w5 hC5 hB5 => ⟨_, rfl, (Chg.fresh hE04 hC5 (by simp)).mono (by simp), _, rfl, ?_, fun b hb => ?_⟩
  ·refine ⟨by simp only [List.length_append, List.length_take, List.length_drop]; omega, hG1, hG2, fun u hu => ?_, .inr ⟨w.heap.size, _, rfl, fun hm => by have := hA _ hm; omega, hB5, ?_, ?_⟩⟩
   ·rcases List.mem_append.1 hu with hu | hu
    ·rcases List.mem_append.1 hu with hu | hu
     ·exact ho.each u (List.mem_of_mem_take hu)
     ·exact hx.each u hu
    ·exact ho.each u (List.mem_of_mem_drop hu)
   ·rw [putAt_len, putAt_len, hrowl]
   ·have hf1 : us.length * 2 ≤ zz.length := by rw [hzl]; exact Nat.mul_le_mul_right _ (by omega)
    have e2 := putAt_right us.flatten (vs.take i).flatten zz 0
    rw [hPl, Nat.add_zero, putAt_eq us.flatten zz 0 (by rw [hufl]; omega)] at e2
    have e3 := putAt_right (vs.drop i).flatten ((vs.take i).flatten ++ us.flatten) (zz.drop us.flatten.length) 0
    rw [List.length_append, hPl, hufl, ← Nat.add_mul, Nat.add_zero] at e3
    rw [e2]
    simp only [List.take_zero, List.nil_append, Nat.zero_add]
    rw [← List.append_assoc, hufl, e3, putAt_eq (vs.drop i).flatten _ 0 (by rw [hDl, List.length_drop, hzl, Nat.zero_add, ← Nat.sub_mul]; exact Nat.mul_le_mul_right _ (by omega))]
    simp only [List.take_zero, List.nil_append, Nat.zero_add]
    rw [← List.append_assoc, List.flatten_append, List.flatten_append]
    refine List.take_left' ?_
    rw [List.length_append, List.length_append, hPl, hufl, hDl, ← Nat.add_mul, ← Nat.add_mul]; congr 1; omega
  ·simp [Sl.blk] at hb; right; omega
 ·have hc : s.n + us.length ≤ s.c := by omega
  have e0 : ((s.n : Int) + (x.n : Int)).toNat = vs.length + us.length := by omega
  have e1 : ((i : Int) + (x.n : Int)).toNat = i + us.length := by omega
  have hc0 : ¬ s.c = 0 := by omega
  have hci : ¬ s.c = i := by omega
  have hcim : ¬ s.c = i + us.length := by omega
  have hcut : (Sl.cut s 2 0 (vs.length + us.length) s.c) = ⟨some ⟨g, 0, none⟩, vs.length + us.length, s.c⟩ := by
   unfold Sl.cut; rw [hga]; simp [Addr.add_lit]
  rw [e0, hcut, e1, hE3]
  have hc1 : (Sl.cut (Sl.mk (some ⟨g, 0, none⟩) (vs.length + us.length) s.c) 2 (i + us.length) (vs.length + us.length) s.c) = ⟨some ⟨g, (i + us.length) * 2, none⟩, vs.length + us.length - (i + us.length), s.c - (i + us.length)⟩ := by
   unfold Sl.cut; simp [Addr.add_lit, hcim]
  have hc2 : (Sl.cut (Sl.mk (some ⟨g, 0, none⟩) (vs.length + us.length) s.c) 2 i (vs.length + us.length) s.c) = ⟨some ⟨g, i * 2, none⟩, vs.length + us.length - i, s.c - i⟩ := by
   unfold Sl.cut; simp [Addr.add_lit, hci]
  rw [hc1, hc2]
  refine ⟨⟨by omega, by omega⟩, ⟨by omega, by omega⟩, ⟨by omega, by omega⟩, ⟨by omega, by simp only; omega⟩, false, ?_, fun _ w1 hE1 => ⟨⟨by omega, by omega⟩, ⟨by omega, by simp only; omega⟩, ⟨by omega, by simp only; omega⟩, fun w2 hE2 => ?_⟩, fun h => by cases h⟩
  ·unfold Sl.v
   rw [hxa]
   exact Lib.run_overlaps_apart w _ _ 63 Tryz.underlying22 2 (fun w => (ti_63).sizeOf w) ⟨vb, 0, none⟩ ⟨g, (i + us.length) * 2, none⟩ _ _ _ _ hvg 63 63 cx.length cur.length (shape_box hxB) (shape_box hgB) (by rw [hgl]; omega) (hxB.free 0) (hxB.free _)
  ·have hE02 := hE1.trans hE2
   refine copyK (o := (i + us.length) * 2) (ps := ⟨g, i * 2, none⟩) (vs := (vs.drop i).flatten) Tryz.underlying22 ti_63 rfl (hgB.ext hE02) rfl (by rw [hDl]; congr 1; simp only; omega) (by rw [hgl, hDl, ← Nat.add_mul]; exact Nat.mul_le_mul_right _ (by omega)) (hdcell _ (hgB.ext hE02)) hD1 (by simp) fun w3 hC3 hB3 => ⟨_, rfl, ⟨by omega, by simp only; omega⟩, ?_⟩
   have hxc : Cells w3 ⟨vb, 0, none⟩ us.flatten := (hxcell _ hE02).chg hC3 (by simpa using hvg)
   refine copyK (o := i * 2) (ps := ⟨vb, 0, none⟩) (vs := us.flatten) Tryz.underlying22 ti_63 rfl hB3 hxa (by rw [hufl]; congr 1; simp only; omega) (by rw [putAt_len, hgl, hufl, ← Nat.add_mul]; exact Nat.mul_le_mul_right _ (by omega)) hxc h1 (by simp) fun w4 hC4 hB4 => ⟨_, rfl, ?_, _, rfl, ?_, fun b hb => ?_⟩
   ·rw [hgs]; exact ((hE02.mono (by simp)).trans hC3).trans hC4
   ·refine ⟨by simp only [List.length_append, List.length_take, List.length_drop]; omega, by simp only; omega, hmost, fun u hu => ?_, .inr ⟨g, _, rfl, hgA, hB4, ?_, ?_⟩⟩
    ·rcases List.mem_append.1 hu with hu | hu
     ·rcases List.mem_append.1 hu with hu | hu
      ·exact ho.each u (List.mem_of_mem_take hu)
      ·exact hx.each u hu
     ·exact ho.each u (List.mem_of_mem_drop hu)
    ·rw [putAt_len, putAt_len, hgl]
    ·have hfit : (i + us.length) * 2 + (vs.drop i).flatten.length ≤ cur.length := by rw [hgl, hDl, ← Nat.add_mul]; exact Nat.mul_le_mul_right _ (by omega)
     rw [putAt_eq _ cur _ hfit]
     have ht : cur.take ((i + us.length) * 2) = (vs.take i).flatten ++ ((vs.drop i).flatten ++ cur.drop (s.n * 2)).take (us.length * 2) := by
      have e := congrArg (List.take ((i + us.length) * 2)) hcur
      rw [e, Nat.add_mul, ← hPl, List.take_append, List.take_of_length_le (Nat.le_add_right _ _), Nat.add_sub_cancel_left]
     rw [ht]
     have e2 := putAt_right us.flatten (vs.take i).flatten ((((vs.drop i).flatten ++ cur.drop (s.n * 2)).take (us.length * 2) ++ (vs.drop i).flatten ++ cur.drop ((i + us.length) * 2 + (vs.drop i).flatten.length))) 0
     rw [hPl, Nat.add_zero] at e2
     have htl : (((vs.drop i).flatten ++ cur.drop (s.n * 2)).take (us.length * 2)).length = us.flatten.length := by
      rw [List.length_take, List.length_append, hDl, List.length_drop, hgl, hufl, ← Nat.sub_mul, ← Nat.add_mul]
      exact Nat.min_eq_left (Nat.mul_le_mul_right _ (by omega))
     rw [List.append_assoc, List.append_assoc, ← List.append_assoc (List.take _ _), e2, putAt_eq us.flatten _ 0 (by rw [List.length_append, List.length_append, htl]; omega)]
     simp only [List.take_zero, List.nil_append, Nat.zero_add]
     rw [← htl, List.append_assoc (List.take _ _), List.drop_left, ← List.append_assoc, ← List.append_assoc, List.flatten_append, List.flatten_append]
     refine List.take_left' ?_
     rw [List.length_append, List.length_append, hPl, hufl, hDl, ← Nat.add_mul, ← Nat.add_mul]; congr 1; omega
   ·rw [hgs]; left; simpa [Sl.blk] using hb
end
section
open Go.RowKit
structure En where
 par : Int
 dep : Nat
 pl : Nat
 t : T
def goE : List (Nat × (Nat → Int → Nat → Nat → List En)) → Nat → Int → Nat → Nat → List En
 |[], _, _, _, _ => []
 |(s, f) :: r, nx, p, d, i => f nx p d i ++ goE r (nx + s) p d (i + 1)
def T.ents : T → Nat → Int → Nat → Nat → List En
 |.node k n x ats ks, id, p, d, pl => ⟨p, d, pl, .node k n x ats ks⟩ :: goE (ks.attach.map fun ⟨t, _⟩ => (t.size, ents t)) (id + 1) id (d + 1) 0
def T.flat (t : T) : List En := t.ents 0 (-1) 0 0
end
section
open Go.RowKit
theorem Own.pre {A : List Nat} {w : World} {s : Sl} {size : Nat} {T : TypeId} {vs : List (List Value)} (h : Own A w s size T vs) {k : Nat} (hk : k ≤ vs.length) (hne : s ≠ Sl.nil) : Own A w (s.cut size 0 k s.c) size T (vs.take k) := by
 have hl := h.len
 have hc := h.cap
 have ha : (s.cut size 0 k s.c).a = s.a := by
  simp only [Sl.cut, Nat.zero_mul]
  split
  ·rfl
  ·cases s.a with
   |none => rfl
   |some p => simp [Addr.add_zero']
 refine ⟨by simp [Sl.cut]; omega, by simp [Sl.cut]; omega, by have := h.most; simp [Sl.cut]; omega, fun u hu => h.each u (List.mem_of_mem_take hu), .inr ?_⟩
 rcases h.at_ with e | ⟨g, cur, h1, h2, h3, h4, h5⟩
 ·exact absurd e hne
 ·refine ⟨g, cur, by rw [ha, h1], h2, h3, by simpa [Sl.cut] using h4, ?_⟩
  have hsplit : vs.flatten = (vs.take k).flatten ++ (vs.drop k).flatten := by rw [← List.flatten_append, List.take_append_drop]
  have hlen : (vs.take k).flatten.length = k * size := by
   rw [flatten_len _ (fun u hu => h.each u (List.mem_of_mem_take hu)), List.length_take, Nat.min_eq_left hk]
  have : cur.take (k * size) = (cur.take (s.n * size)).take (k * size) := by
   rw [List.take_take, Nat.min_eq_left (Nat.mul_le_mul_right _ (by omega))]
  simp only [Sl.cut, Nat.sub_zero]
  rw [this, h5, hsplit, ← hlen, List.take_left]
theorem Own.one {A : List Nat} {w : World} {B : Nat} {S : TypeId} {cs : List Value} (h : Box w B S cs) (hA : B ∉ A) : Own A w (Sl.mk (some ⟨B, 0, none⟩) 1 1) cs.length S [cs] :=
 ⟨rfl, Nat.le_refl _, by simp [maxLen], by simp, .inr ⟨B, cs, rfl, hA, h, by simp, by simp⟩⟩
def AtT (A : List Nat) (w : World) (p : Addr) (t : T) : Prop := p.block ∉ A ∧ ∃ sa sk : Sl, Cells w p (tc t (sa, sk)) ∧ RdT A w t sa sk
theorem AtT.chg {A F : List Nat} {w w' : World} {p : Addr} {t : T} (h : AtT A w p t) (c : Chg F w w') (hF : ∀ b ∈ F, b ∈ A) : AtT A w' p t := by
 obtain ⟨h1, sa, sk, h2, h3⟩ := h
 exact ⟨h1, sa, sk, h2.chg c fun hm => h1 (hF _ hm), RdT.chg c hF h3⟩
theorem AtT.ext {A : List Nat} {w w' : World} {p : Addr} {t : T} (h : AtT A w p t) (c : Ext w w') : AtT A w' p t := h.chg c (by simp)
theorem AtT.less {A A' : List Nat} {w : World} {p : Addr} {t : T} (h : AtT A w p t) (hA : ∀ b ∈ A', b ∈ A) : AtT A' w p t := by
 obtain ⟨h1, sa, sk, h2, h3⟩ := h
 exact ⟨fun hm => h1 (hA _ hm), sa, sk, h2, h3.less hA⟩
theorem RdT.wide {A A' : List Nat} {w : World} {t : T} {sa sk : Sl} (h : RdT A w t sa sk) (hA : ∀ b ∈ A', b ∈ A ∨ w.heap.size ≤ b) : RdT A' w t sa sk := by
 have h2 : ∀ L : List Nat, (∀ b ∈ L, b ∈ A ∨ w.heap.size ≤ b) → RdT (L ++ A) w t sa sk := fun L => by
  induction L with
  |nil => intro _; exact h
  |cons b L ih =>
   intro hL
   have h3 := ih (fun b hb => hL b (List.mem_cons_of_mem _ hb))
   rcases hL b (List.mem_cons_self ..) with hm | hm
   ·refine h3.less fun x hx => ?_
    rcases List.mem_append.1 hx with hx | hx
    ·rcases List.mem_cons.1 hx with e | hx
     ·subst e; exact List.mem_append_right _ hm
     ·exact List.mem_append_left _ hx
    ·exact List.mem_append_right _ hx
   ·exact h3.fresh hm
 exact (h2 A' hA).less fun b hb => List.mem_append_left _ hb
theorem cloneAttrs {A : List Nat} {w : World} {s : Sl} {l : List (Str × Str)} (h : Row A w s 2 (l.map ac)) (hb : l.length ≤ 1099511627776) :
  Calls Tryz.prog 62 #[s.v] w (Ret fun v w' => Ext w w' ∧ ∃ s' : Sl, v = s'.v ∧ Own (List.range w.heap.size) w' s' 2 63 (l.map ac)) := by
 refine slices_Clone__api_Attr_api_Attr_.ok _ ?_
 unfold slices_Clone__api_Attr_api_Attr_.vc
 have hl := h.len
 simp only [List.length_map] at hl
 refine ⟨fun hn => ⟨Chg.refl _ _, Sl.nil, rfl, ?_⟩, fun hn w1 B hN hE hB => ?_⟩
 ·have : l = [] := by
   cases l with
   |nil => rfl
   |cons x r =>
    obtain ⟨p, hp, _⟩ := h.at_ 0 (by simp)
    rw [hp] at hn; simp at hn
  subst this; exact Own.nil _ _ _ _
 ·have hown : Own (List.range w.heap.size) w1 (Sl.mk (some ⟨B, 0, none⟩) 0 0) 2 63 [] :=
   ⟨rfl, Nat.le_refl _, by simp, by simp, .inr ⟨B, [], rfl, by have := hN.ge; simp; omega, hB, by simp, by simp⟩⟩
  cases hx : l with
  |nil =>
   have e := append_none (P := Tryz.prog) (w := w1) (s := Sl.mk (some ⟨B, 0, none⟩) 0 0) (x := s) (t := 22) (ty := 22) Tryz.underlying22 ti_63 (Nat.le_refl _) (by rw [hl, hx]; rfl)
   exact ⟨_, _, e, fun b hb => by simp at hb, Nat.le_refl _, _, rfl, hE, _, rfl, hown⟩
  |cons x r =>
   rw [← hx]
   refine App.runK Tryz.underlying22 ti_63 rfl (by decide) (.inl hown) (fun b hb => Nat.lt_of_lt_of_le (List.mem_range.1 hb) hE.size) ((h.ext hE).less (by simp)) (ones_acs l) (by rw [hx]; simp) (by simp [maxLen]; omega) (by simp; omega) (by simp) fun s' w' ho hc hb => ⟨s', rfl, ?_, s', rfl, by simpa using ho⟩
   exact hE.more (hc.mono (by simp [Sl.own]))
def upd (f : Nat → Nat) (j v : Nat) : Nat → Nat := fun i => if i = j then v else f i
def T.zAt (t : T) (i : Nat) : Nat := (t.flat.getD i ⟨0, 0, 0, T.nul⟩).t.size
def T.hAt (t : T) (i : Nat) : Nat := (t.flat.getD i ⟨0, 0, 0, T.nul⟩).t.depth
end
section
open Go.RowKit
def kidLoop (z : Nat → Nat) (lim : Nat) : Nat → Nat → List Nat
 |0, _ => []
 |f + 1, k => if k < lim then k :: kidLoop z lim f (k + z k) else []
def T.kidsAt (t : T) (j : Nat) : List Nat := kidLoop t.zAt (j + t.zAt j) t.size (j + 1)
theorem Own.apart {A B : List Nat} {w : World} {s a : Sl} {m n : Nat} {T S : TypeId} {vs us : List (List Value)} (h : Own A w s m T vs) (k : Own B w a n S us) (hne : T ≠ S) : ∀ b ∈ s.blk, b ∉ a.blk := by
 intro b hb hm
 rcases h.at_ with e | ⟨g, cur, h1, _, h3, _⟩
 ·rw [e] at hb; simp [Sl.blk, Sl.nil] at hb
 ·simp [Sl.blk, h1] at hb; subst hb
  exact (k.other h3 (Ne.symm hne)) hm
end
section
open Go.RowKit
structure Cmp {α : Type} (c : α → α → Int) (P : α → Prop) : Prop where
 anti : ∀ x y, P x → P y → c x y = - c y x
 zero : ∀ x y, P x → P y → (c x y = 0 ↔ x = y)
 trans : ∀ x y z, P x → P y → P z → c x y ≤ 0 → c y z ≤ 0 → c x z ≤ 0
def cmpI (x y : Int) : Int := if x < y then -1 else if y < x then 1 else 0
theorem cmpI_cmp : Cmp cmpI (fun _ => True) where
 anti x y _ _ := by unfold cmpI; split <;> split <;> (try split) <;> omega
 zero x y _ _ := by unfold cmpI; split <;> (try split) <;> omega
 trans x y z _ _ _ h1 h2 := by
  unfold cmpI at *
  split at h1 <;> split at h2 <;> (try split at h1) <;> (try split at h2) <;> split <;> (try split) <;> omega
def lexM {α β : Type} (c : α → β → Int) : List α → List β → Int
 |[], [] => 0
 |[], _ :: _ => -1
 |_ :: _, [] => 1
 |x :: xs, y :: ys => if c x y = 0 then lexM c xs ys else c x y
theorem lexM_map {α β γ : Type} (c : α → β → Int) (g : γ → α) : ∀ (l : List γ) (m : List β), lexM c (l.map g) m = lexM (fun t u => c (g t) u) l m
 |[], [] => rfl
 |[], _ :: _ => rfl
 |_ :: _, [] => rfl
 |x :: xs, y :: ys => by simp only [List.map_cons, lexM, lexM_map c g xs ys]
theorem lexM_cmp {α : Type} {c : α → α → Int} {P : α → Prop} (h : Cmp c P) : Cmp (lexM c) (fun l => ∀ x ∈ l, P x) where
 anti := by
  intro xs
  induction xs with
  |nil => intro ys _ _; cases ys <;> rfl
  |cons x xs ih =>
   intro ys hx hy
   cases ys with
   |nil => rfl
   |cons y ys =>
    have a := h.anti x y (hx x (by simp)) (hy y (by simp))
    have i := ih ys (fun z hz => hx z (by simp [hz])) (fun z hz => hy z (by simp [hz]))
    simp only [lexM]
    split <;> split <;> omega
 zero := by
  intro xs
  induction xs with
  |nil => intro ys _ _; cases ys <;> simp [lexM]
  |cons x xs ih =>
   intro ys hx hy
   cases ys with
   |nil => simp [lexM]
   |cons y ys =>
    have a := h.zero x y (hx x (by simp)) (hy y (by simp))
    have i := ih ys (fun z hz => hx z (by simp [hz])) (fun z hz => hy z (by simp [hz]))
    simp only [lexM, List.cons.injEq]
    split
    ·rename_i hc; rw [i]; simp [a.1 hc]
    ·rename_i hc
     constructor
     ·intro hh; exact absurd hh hc
     ·intro hh; exact absurd (a.2 hh.1) hc
 trans := by
  intro xs
  induction xs with
  |nil => intro ys zs _ _ _ h1 h2; cases ys <;> cases zs <;> simp_all [lexM]
  |cons x xs ih =>
   intro ys zs hx hy hz h1 h2
   cases ys with
   |nil => simp [lexM] at h1
   |cons y ys =>
    cases zs with
    |nil => simp [lexM] at h2
    |cons z zs =>
     have px := hx x (by simp); have py := hy y (by simp); have pz := hz z (by simp)
     have t := h.trans x y z px py pz
     have z1 := h.zero x y px py; have z2 := h.zero y z py pz; have z3 := h.zero x z px pz
     have a1 := h.anti x y px py; have a2 := h.anti y z py pz
     have i := ih ys zs (fun q hq => hx q (by simp [hq])) (fun q hq => hy q (by simp [hq])) (fun q hq => hz q (by simp [hq]))
     simp only [lexM] at h1 h2 ⊢
     by_cases e1 : c x y = 0
     ·rw [if_pos e1] at h1
      have exy := z1.1 e1
      subst exy
      by_cases e2 : c x z = 0
      ·rw [if_pos e2] at h2 ⊢; exact i h1 h2
      ·rw [if_neg e2] at h2 ⊢; exact h2
     ·rw [if_neg e1] at h1
      by_cases e2 : c y z = 0
      ·have eyz := z2.1 e2
       subst eyz
       rw [if_neg e1]; exact h1
      ·rw [if_neg e2] at h2
       by_cases e3 : c x z = 0
       ·have exz := z3.1 e3
        subst exz
        omega
       ·rw [if_neg e3]; exact t h1 h2
def or2 (a b : Int) : Int := if a = 0 then b else a
theorem or2_cmp {α β γ : Type} {c : β → β → Int} {d : γ → γ → Int} {P : β → Prop} {Q : γ → Prop} (hc : Cmp c P) (hd : Cmp d Q) (f : α → β) (g : α → γ) (inj : ∀ x y, f x = f y → g x = g y → x = y) : Cmp (fun x y => or2 (c (f x) (f y)) (d (g x) (g y))) (fun x => P (f x) ∧ Q (g x)) where
 anti x y hx hy := by
  have a := hc.anti _ _ hx.1 hy.1; have b := hd.anti _ _ hx.2 hy.2
  unfold or2; split <;> split <;> omega
 zero x y hx hy := by
  have a := hc.zero _ _ hx.1 hy.1; have b := hd.zero _ _ hx.2 hy.2
  unfold or2
  split
  ·rename_i h; rw [b]; exact ⟨fun e => inj x y (a.1 h) e, fun e => by rw [e]⟩
  ·rename_i h; exact ⟨fun e => absurd e h, fun e => absurd (a.2 (by rw [e])) h⟩
 trans x y z hx hy hz h1 h2 := by
  have t1 := hc.trans _ _ _ hx.1 hy.1 hz.1; have t2 := hd.trans _ _ _ hx.2 hy.2 hz.2
  have z1 := hc.zero _ _ hx.1 hy.1; have z2 := hc.zero _ _ hy.1 hz.1; have z3 := hc.zero _ _ hx.1 hz.1
  have a2 := hc.anti _ _ hy.1 hz.1
  unfold or2 at *
  by_cases e1 : c (f x) (f y) = 0
  ·rw [if_pos e1] at h1
   have exy := z1.1 e1
   rw [exy] at *
   by_cases e2 : c (f y) (f z) = 0
   ·rw [if_pos e2] at h2 ⊢; exact t2 h1 h2
   ·rw [if_neg e2] at h2 ⊢; exact h2
  ·rw [if_neg e1] at h1
   by_cases e2 : c (f y) (f z) = 0
   ·have eyz := z2.1 e2
    rw [← eyz, if_neg e1]; exact h1
   ·rw [if_neg e2] at h2
    by_cases e3 : c (f x) (f z) = 0
    ·have exz := z3.1 e3
     rw [exz] at h1 e1; omega
    ·rw [if_neg e3]; exact t1 h1 h2
theorem pair_cmp {β γ : Type} {c : β → β → Int} {d : γ → γ → Int} {P : β → Prop} {Q : γ → Prop} (hc : Cmp c P) (hd : Cmp d Q) : Cmp (fun x y : β × γ => or2 (c x.1 y.1) (d x.2 y.2)) (fun x => P x.1 ∧ Q x.2) :=
 or2_cmp hc hd (fun x => x.1) (fun x => x.2) (fun _ _ h1 h2 => Prod.ext h1 h2)
def cmpB (a b : UInt8) : Int := cmpI (a.toNat : Int) (b.toNat : Int)
theorem cmpB_cmp : Cmp cmpB (fun _ => True) where
 anti x y _ _ := cmpI_cmp.anti _ _ trivial trivial
 zero x y _ _ := by
  unfold cmpB; rw [cmpI_cmp.zero _ _ trivial trivial]
  constructor
  ·intro h; exact UInt8.toNat_inj.1 (by omega)
  ·intro h; rw [h]
 trans x y z _ _ _ := cmpI_cmp.trans _ _ _ trivial trivial trivial
theorem compareBytes_lex : ∀ a b : Str, Lib.compareBytes a b = lexM cmpB a b
 |[], [] => rfl
 |[], _ :: _ => rfl
 |_ :: _, [] => rfl
 |x :: xs, y :: ys => by
  have ih := compareBytes_lex xs ys
  simp only [Lib.compareBytes, lexM, UInt8.lt_iff_toNat_lt]
  by_cases h1 : x.toNat < y.toNat
  ·have hv : cmpB x y = -1 := by unfold cmpB cmpI; rw [if_pos (by omega)]
   simp [hv, h1]
  ·by_cases h2 : y.toNat < x.toNat
   ·have hv : cmpB x y = 1 := by unfold cmpB cmpI; rw [if_neg (by omega), if_pos (by omega)]
    simp [hv, h1, h2]
   ·have hv : cmpB x y = 0 := by unfold cmpB cmpI; rw [if_neg (by omega), if_neg (by omega)]
    simp [hv, h1, h2, ih]
def cmpS (a b : Str) : Int := Lib.compareBytes a b
theorem cmpS_cmp : Cmp cmpS (fun _ => True) := by
 have e : cmpS = lexM cmpB := by funext a b; exact compareBytes_lex a b
 rw [e]
 have := lexM_cmp cmpB_cmp
 exact ⟨fun x y _ _ => this.anti x y (fun _ _ => trivial) (fun _ _ => trivial), fun x y _ _ => this.zero x y (fun _ _ => trivial) (fun _ _ => trivial), fun x y z _ _ _ => this.trans x y z (fun _ _ => trivial) (fun _ _ => trivial) (fun _ _ => trivial)⟩
def cmpA (p q : Str × Str) : Int := or2 (cmpS p.1 q.1) (cmpS p.2 q.2)
theorem cmpA_cmp : Cmp cmpA (fun _ => True) := by
 have := or2_cmp cmpS_cmp cmpS_cmp (fun p : Str × Str => p.1) (fun p => p.2) (fun x y h1 h2 => Prod.ext h1 h2)
 exact ⟨fun x y _ _ => this.anti x y ⟨trivial, trivial⟩ ⟨trivial, trivial⟩, fun x y _ _ => this.zero x y ⟨trivial, trivial⟩ ⟨trivial, trivial⟩, fun x y z _ _ _ => this.trans x y z ⟨trivial, trivial⟩ ⟨trivial, trivial⟩ ⟨trivial, trivial⟩⟩
def T.cmp : T → T → Int
 |.node k n x ats ks, u => or2 (or2 (or2 (cmpI k u.kind) (or2 (cmpS n u.name) (cmpS x u.text))) (lexM cmpA ats u.attrs)) (lexM (fun (t : { x // x ∈ ks }) v => T.cmp t.1 v) ks.attach u.kids)
termination_by t => SizeOf.sizeOf t
decreasing_by
 have := List.sizeOf_lt_of_mem t.2
 simp; omega
theorem T.cmp_eq (t u : T) : T.cmp t u = or2 (or2 (or2 (cmpI t.kind u.kind) (or2 (cmpS t.name u.name) (cmpS t.text u.text))) (lexM cmpA t.attrs u.attrs)) (lexM T.cmp t.kids u.kids) := by
 cases t with
 |node k n x ats ks =>
  rw [T.cmp]
  have := lexM_map (fun t v => T.cmp t v) (fun t : { x // x ∈ ks } => t.1) ks.attach u.kids
  rw [← this, List.attach_map_subtype_val]; rfl
theorem T.ext {t u : T} (h1 : t.kind = u.kind) (h2 : t.name = u.name) (h3 : t.text = u.text) (h4 : t.attrs = u.attrs) (h5 : t.kids = u.kids) : t = u := by
 cases t; cases u; cases h1; cases h2; cases h3; cases h4; cases h5; rfl
theorem T.cmp_cmp : ∀ n : Nat, Cmp T.cmp (fun t => t.size ≤ n) := by
 intro n
 induction n with
 |zero => exact ⟨fun x y hx => by rw [T.size_eq] at hx; omega, fun x y hx => by rw [T.size_eq] at hx; omega, fun x y z hx => by rw [T.size_eq] at hx; omega⟩
 |succ n ih =>
  have h1 := pair_cmp cmpS_cmp cmpS_cmp
  have h2 := pair_cmp cmpI_cmp h1
  have h3 := pair_cmp h2 (lexM_cmp cmpA_cmp)
  have h4 := pair_cmp h3 (lexM_cmp ih)
  have key : ∀ t : T, t.size ≤ n + 1 → (fun x : ((Int × Str × Str) × List (Str × Str)) × List T => ((fun _ => True) x.1.1.1 ∧ ((fun _ => True) x.1.1.2.1 ∧ (fun _ => True) x.1.1.2.2)) ∧ (∀ a ∈ x.1.2, True)) (((t.kind, t.name, t.text), t.attrs), t.kids) ∧ ∀ u ∈ t.kids, u.size ≤ n := fun t ht =>
   ⟨⟨⟨trivial, trivial, trivial⟩, fun _ _ => trivial⟩, fun u hu => by have := T.size_eq t; have := T.mem_sum T.size hu; omega⟩
  have e : ∀ t u : T, T.cmp t u = (fun x y : ((Int × Str × Str) × List (Str × Str)) × List T => or2 (or2 (or2 (cmpI x.1.1.1 y.1.1.1) (or2 (cmpS x.1.1.2.1 y.1.1.2.1) (cmpS x.1.1.2.2 y.1.1.2.2))) (lexM cmpA x.1.2 y.1.2)) (lexM T.cmp x.2 y.2)) (((t.kind, t.name, t.text), t.attrs), t.kids) (((u.kind, u.name, u.text), u.attrs), u.kids) := fun t u => T.cmp_eq t u
  exact ⟨fun x y hx hy => by rw [e, e]; exact h4.anti _ _ (key x hx) (key y hy), fun x y hx hy => by
   rw [e]
   refine (h4.zero _ _ (key x hx) (key y hy)).trans ⟨fun h => ?_, fun h => by rw [h]⟩
   simp only [Prod.mk.injEq] at h
   exact T.ext h.1.1.1 h.1.1.2.1 h.1.1.2.2 h.1.2 h.2, fun x y z hx hy hz => by rw [e, e, e]; exact h4.trans _ _ _ (key x hx) (key y hy) (key z hz)⟩
theorem T.cmp_zero (x y : T) : T.cmp x y = 0 ↔ x = y := (T.cmp_cmp (max x.size y.size)).zero x y (Nat.le_max_left _ _) (Nat.le_max_right _ _)
end
section
open Go.RowKit
theorem cmpStr {w : World} (x y : Str) : Calls Tryz.prog 99 #[.string (Bs x), .string (Bs y)] w (Ret fun v w' => Ext w w' ∧ v = .int .i64 (cmpS x y)) := by
 refine strings_Compare.ok _ _ ?_
 unfold strings_Compare.vc
 have h : Calls Tryz.prog 107 #[.string (Bs x), .string (Bs y)] w (Ret fun v w' => Ext w w' ∧ v = .int .i64 (cmpS x y)) := by
  refine bytealg_CompareString.ok _ _ ?_
  unfold bytealg_CompareString.vc
  exact ⟨Chg.refl _ _, rfl⟩
 exact CallK.exact h fun w1 hE1 => ⟨_, rfl, hE1, rfl⟩
theorem lexM_end {α β : Type} (c : α → β → Int) : ∀ (l : List α) (m : List β), (l = [] ∨ m = []) → lexM c l m = cmpI (l.length : Int) (m.length : Int)
 |[], [], _ => rfl
 |[], y :: ys, _ => by unfold lexM cmpI; rw [if_pos (by simp only [List.length_cons, List.length_nil]; omega)]
 |x :: xs, [], _ => by unfold lexM cmpI; rw [if_neg (by simp only [List.length_cons, List.length_nil]; omega), if_pos (by simp only [List.length_cons, List.length_nil]; omega)]
 |_ :: _, _ :: _, h => by simp at h
theorem or2_zero (a : Int) : or2 0 a = a := if_pos rfl
theorem or2_ne {a : Int} (b : Int) (h : a ≠ 0) : or2 a b = a := if_neg h
theorem lexM_step {α β : Type} (c : α → β → Int) (x : α) (y : β) (xs : List α) (ys : List β) : lexM c (x :: xs) (y :: ys) = or2 (c x y) (lexM c xs ys) := rfl
theorem drop_at {α : Type} (l : List α) (d : α) {k : Nat} (h : k < l.length) : l.drop k = l.getD k d :: l.drop (k + 1) := by
 rw [List.drop_eq_getElem_cons h, List.getD_eq_getElem?_getD, List.getElem?_eq_getElem h]; rfl
theorem lexM_exit {α β : Type} (c : α → β → Int) (l : List α) (m : List β) (x : Int) (k : Nat) (hl : k ≤ l.length) (hm : k ≤ m.length) (h : x ≠ 0 ∨ k = l.length ∨ k = m.length) : or2 x (lexM c (l.drop k) (m.drop k)) = or2 x (cmpI (l.length : Int) (m.length : Int)) := by
 by_cases hx : x = 0
 ·subst hx
  have hd : l.drop k = [] ∨ m.drop k = [] := by
   rcases h with h | h | h
   ·exact absurd rfl h
   ·left; rw [h]; exact List.drop_length
   ·right; rw [h]; exact List.drop_length
  rw [or2_zero, or2_zero, lexM_end c _ _ hd]
  simp only [List.length_drop, cmpI]
  have e1 : (((l.length - k : Nat) : Int) < ((m.length - k : Nat) : Int)) ↔ ((l.length : Int) < (m.length : Int)) := by omega
  have e2 : (((m.length - k : Nat) : Int) < ((l.length - k : Nat) : Int)) ↔ ((m.length : Int) < (l.length : Int)) := by omega
  simp only [e1, e2]
 ·rw [or2_ne _ hx, or2_ne _ hx]
end
section
open Go.RowKit
theorem take_snoc {α : Type} (l : List α) (d : α) {k : Nat} (h : k < l.length) : l.take (k + 1) = l.take k ++ [l.getD k d] := by
 rw [List.take_succ_eq_append_getElem h, List.getD_eq_getElem?_getD, List.getElem?_eq_getElem h]; rfl
def goL : List (Nat → Bool × Nat) → Nat → Bool × Nat
 |[], c => (true, c)
 |f :: r, c => if (f c).1 = true then goL r (f c).2 else (false, (f c).2)
def badAttr (p : Str × Str) : Bool := decide (200 < p.1.length) || decide (6000 < p.2.length)
def T.sm : T → Nat → Nat → Bool × Nat
 |.node _ n x ats ks, deep, c => if 400 < c + 1 ∨ 70 < deep ∨ 20 < ats.length ∨ 200 < n.length ∨ 6000 < x.length then (false, c + 1) else if ats.any badAttr = true then (false, c + 1)
  else goL (ks.attach.map fun ⟨t, _⟩ => fun c => T.sm t (deep + 1) c) (c + 1)
theorem T.sm_eq (t : T) (deep c : Nat) : t.sm deep c = if 400 < c + 1 ∨ 70 < deep ∨ 20 < t.attrs.length ∨ 200 < t.name.length ∨ 6000 < t.text.length then (false, c + 1) else if t.attrs.any badAttr = true then (false, c + 1)
  else goL (t.kids.map fun u => fun c => u.sm (deep + 1) c) (c + 1) := by
 cases t with
 |node k n x ats ks =>
  rw [T.sm]
  have e : (ks.attach.map fun (u : { x // x ∈ ks }) => fun c => T.sm u.1 (deep + 1) c) = ks.map fun u => fun c => T.sm u (deep + 1) c := List.attach_map_val (f := fun u => fun c => T.sm u (deep + 1) c)
  exact congrArg (fun z : List (Nat → Bool × Nat) => if 400 < c + 1 ∨ 70 < deep ∨ 20 < ats.length ∨ 200 < n.length ∨ 6000 < x.length then (false, c + 1) else if ats.any badAttr = true then (false, c + 1) else goL z (c + 1)) e
theorem goL_le : ∀ (l : List (Nat → Bool × Nat)), (∀ f ∈ l, ∀ c, (f c).1 = true → (f c).2 ≤ 400) → ∀ c, c ≤ 400 → (goL l c).1 = true → (goL l c).2 ≤ 400
 |[], _, c, hc, _ => hc
 |f :: r, h, c, hc, ht => by
  unfold goL at ht ⊢
  split at ht
  ·rename_i hf
   rw [if_pos hf]
   exact goL_le r (fun g hg => h g (by simp [hg])) _ (h f (by simp) c hf) ht
  ·cases ht
theorem T.sm_le : ∀ t : T, ∀ deep c : Nat, (t.sm deep c).1 = true → (t.sm deep c).2 ≤ 400 := T.ind' fun t ih deep c => by
 rw [T.sm_eq]
 split
 ·intro h; cases h
 ·rename_i hn
  split
  ·intro h; cases h
  ·exact goL_le _ (fun f hf c => by
    obtain ⟨u, hu, rfl⟩ := List.mem_map.1 hf
    exact ih u hu _ _) _ (by omega)
def T.small (t : T) : Bool := (t.sm 0 0).1
end
section
open Go.RowKit
theorem ones_ics (l : List Int) : ∀ u ∈ (l.map ic).flatten, u.oneCell' = true := by
 intro u hu
 obtain ⟨l1, h1, h2⟩ := List.mem_flatten.1 hu
 obtain ⟨z, _, rfl⟩ := List.mem_map.1 h1
 simp [ic] at h2; subst h2; rfl
theorem Row.int {A : List Nat} {w : World} {s : Sl} {l : List Int} (h : Row A w s 1 (l.map ic)) {k : Nat} (hk : k < l.length) : ∃ p, s.a = some p ∧ w.cell? (p.add (k * 1)) = some (.int .i64 (l.getD k 0)) := by
 obtain ⟨p, hp, _, hc, _⟩ := h.at_ k (by simpa using hk)
 refine ⟨p, hp, ?_⟩
 have e : (l.map ic).getD k [] = ic (l.getD k 0) := by simp [List.getD_eq_getElem?_getD, hk]
 rw [e] at hc
 have := hc 0 _ rfl
 rwa [Addr.add_zero'] at this
def idxI : List Int → Int → Int → Int
 |[], _, _ => -1
 |y :: r, x, k => if x = y then k else idxI r x (k + 1)
def Sorted (l : List (Str × Str)) : Prop := ∀ j k, j < k → k < l.length → cmpS (l.getD j ([], [])).1 (l.getD k ([], [])).1 < 0
theorem cmpS_lt_trans {a b c : Str} (h1 : cmpS a b < 0) (h2 : cmpS b c ≤ 0) : cmpS a c < 0 := by
 have h3 := cmpS_cmp.trans a b c trivial trivial trivial (by omega) h2
 have h4 : cmpS a c ≠ 0 := fun e => by
  have e2 := (cmpS_cmp.zero a c trivial trivial).1 e
  subst e2
  have := cmpS_cmp.anti a b trivial trivial
  omega
 omega
theorem wrapU {x : Int} (h0 : 0 ≤ x) (h1 : x < 18446744073709551616) : IntKind.u64.wrap x = x := by
 rw [IntKind.wrap_u64]; omega
theorem attrCmp {w : World} (a : Str × Str) (n : Str) : Calls Tryz.prog 98 #[.agg #[.string (Bs a.1), .string (Bs a.2)], .string (Bs n)] w (Ret fun v w' => Ext w w' ∧ v = .int .i64 (cmpS a.1 n)) := by
 refine dom_node_attr_1.ok _ _ _ ?_
 unfold dom_node_attr_1.vc
 intro w1 B hN hE
 exact CallK.exact (cmpStr a.1 n) fun w2 hE2 => ⟨_, rfl, hE.trans hE2, rfl⟩
theorem attrBody : Body Tryz.prog 98 := ⟨_, Tryz.func98, by decide, rfl⟩
theorem Row.attr {A : List Nat} {w : World} {s : Sl} {l : List (Str × Str)} (h : Row A w s 2 (l.map ac)) {k : Nat} (hk : k < l.length) : ∃ p, s.a = some p ∧ Cells w (p.add (k * 2)) (ac (l.getD k ([], []))) := by
 obtain ⟨p, hp, _, hc, _⟩ := h.at_ k (by simpa using hk)
 refine ⟨p, hp, ?_⟩
 have e : (l.map ac).getD k [] = ac (l.getD k ([], [])) := by simp [List.getD_eq_getElem?_getD, hk]
 rwa [e] at hc
structure PlaceOf (l : List (Str × Str)) (n : Str) (i : Nat) : Prop where
 le : i ≤ l.length
 less : ∀ j, j < i → cmpS (l.getD j ([], [])).1 n < 0
 more : ∀ j, i ≤ j → j < l.length → 0 ≤ cmpS (l.getD j ([], [])).1 n
def hasAt (l : List (Str × Str)) (n : Str) (i : Nat) : Bool := decide (i < l.length) && decide ((l.getD i ([], [])).1 = n)
theorem searchAttr {A : List Nat} {w : World} {s : Sl} {l : List (Str × Str)} (h : Row A w s 2 (l.map ac)) (hs : Sorted l) (hb : l.length ≤ 1099511627776) (n : Str) :
  Calls Tryz.prog 97 #[s.v, .string (Bs n), .func (.func 98) #[] #[]] w (Ret fun v w' => Ext w w' ∧ ∃ i : Nat, PlaceOf l n i ∧ v = .tuple #[.int .i64 (i : Int), .bool (hasAt l n i)]) := by
 refine slices_BinarySearchFunc__api_Attr_api_Attr_string_.ok _ _ _ ?_
 unfold slices_BinarySearchFunc__api_Attr_api_Attr_string_.vc
 have hl := h.len
 simp only [List.length_map] at hl
 refine ⟨fun i j w' => ∃ a b : Nat, i = (a : Int) ∧ j = (b : Int) ∧ a ≤ b ∧ b ≤ l.length ∧ (∀ k, k < a → cmpS (l.getD k ([], [])).1 n < 0) ∧ (∀ k, b ≤ k → k < l.length → 0 ≤ cmpS (l.getD k ([], [])).1 n) ∧ Ext w w', fun i j _ => j.toNat - i.toNat, ⟨0, l.length, rfl, by omega, by omega, by omega, fun k hk => by omega, fun k h1 h2 => by omega, Chg.refl _ _⟩, ?_⟩
 rintro _ _ w1 ⟨a, b, rfl, rfl, hab, hbl, hlo, hhi, hE⟩
 have hm : IntKind.u64.wrap ((a : Int) + (b : Int)) / 2 ^ 1 = (((a + b) / 2 : Nat) : Int) := by
  rw [wrapU (by omega) (by omega)]; omega
 rw [hm]
 refine ⟨fun hlt => ?_, fun hge => ?_⟩
 ·have hm1 : (a + b) / 2 < b := by omega
  have hm2 : a ≤ (a + b) / 2 := by omega
  generalize hmd : (a + b) / 2 = m at hm1 hm2 hm
  obtain ⟨p, hp, hc⟩ := (h.ext hE).attr (k := m) (by omega)
  rw [Int.toNat_natCast]
  refine ⟨⟨by omega, by omega⟩, ⟨by omega, by omega⟩, ⟨by omega, by omega⟩, p, hp, _, _, hc, 98, #[], #[], rfl, attrBody, ?_⟩
  refine CallK.exact (attrCmp _ n) fun w2 hE2 => ⟨_, rfl, fun hneg => ⟨⟨by omega, by omega⟩, ⟨m + 1, b, by omega, rfl, by omega, hbl, fun k hk => ?_, hhi, hE.trans hE2⟩, by dsimp only; omega⟩, fun hpos => ⟨⟨a, m, rfl, rfl, hm2, by omega, hlo, fun k h1 h2 => ?_, hE.trans hE2⟩, by dsimp only; omega⟩⟩
  ·by_cases hkm : k = m
   ·rw [hkm]; exact hneg
   ·exact cmpS_lt_trans (hs k m (by omega) (by omega)) (by omega)
  ·by_cases hkm : k = m
   ·rw [hkm]; omega
   ·rcases Int.lt_or_le (cmpS (l.getD k ([], [])).1 n) 0 with hneg | hge
    ·exact absurd (cmpS_lt_trans (hs m k (by omega) h2) (by omega)) hpos
    ·exact hge
 ·have hba : b = a := by omega
  subst hba
  by_cases hbl' : b < l.length
  ·obtain ⟨p, hp, hc⟩ := (h.ext hE).attr hbl'
   rw [Int.toNat_natCast]
   refine ⟨p, fun _ => ⟨⟨by omega, by omega⟩, hp⟩, _, _, fun _ => hc, 98, #[], #[], fun _ => rfl, fun _ => attrBody, _, fun _ => attrCmp _ n, fun w2 hE2 => ⟨hE.trans hE2, b, ⟨hbl, hlo, hhi⟩, ?_⟩⟩
   congr 3
   have e1 : decide ((b : Int) < (s.n : Int)) = decide (b < l.length) := by rw [hl]; simp
   have e2 : decide (cmpS (l.getD b ([], [])).1 n = 0) = decide ((l.getD b ([], [])).1 = n) := decide_eq_decide.2 (cmpS_cmp.zero _ _ trivial trivial)
   rw [e1, e2]; rfl
  ·refine ⟨⟨0, 0, none⟩, fun hg => by omega, [], [], fun hg => by omega, 98, #[], #[], fun hg => by omega, fun hg => by omega, 0, fun hg => by omega, fun w2 hE2 => ⟨hE.trans hE2, b, ⟨hbl, hlo, hhi⟩, ?_⟩⟩
   congr 3
   unfold hasAt
   rw [decide_eq_false hbl', decide_eq_false (by omega : ¬ (b : Int) < (s.n : Int))]; rfl
theorem clearK {P : Program} {w : World} {bx : List Nat} {t ty T : TypeId} {z : Value} {size bytes : Nat} {s : Sl} {g o : Nat} {cur : List Value} {K : World → Prop} (ht : P.underlying t = some (.slice T)) (hi : TI P T z size bytes) (hzs : z.cells.size = size) (hs : s.a = some ⟨g, o, none⟩) (hB : Box w g T cur) (hfit : o + s.n * size ≤ cur.length) (hz1 : ∀ v ∈ (Builtin.zeroCells z.cells s.n).toList, v.oneCell' = true) (hbx : g ∉ bx)
  (k : ∀ w' zz, Chg [g] w w' → zz.length = s.n * size → Box w' g T (putAt cur o zz) → K w') : RunN P (Builtin.clear_ #[t] ty #[s.v]) w bx K := by
 have hzl : (Builtin.zeroCells z.cells s.n).toList.length = s.n * size := by rw [Array.length_toList, size_zeroCells, hzs]
 have hst := run_storeCells_box (P := P) o (Builtin.zeroCells z.cells s.n).toList 0 hB (by rw [hzl]; simpa using hfit) hz1
 have hc := setCells_chg g (Builtin.zeroCells z.cells s.n).toList w o
 rw [Nat.add_zero] at hst
 refine ⟨setCells w g o (Builtin.zeroCells z.cells s.n).toList, ?_, hc.noTouch _ (fun b hb hm => by simp at hm; exact hbx (hm ▸ hb)), hc.size, k _ _ hc hzl (setCells_box _ hB)⟩
 unfold Sl.v
 rw [hs]
 cases hn : s.n with
 |zero =>
  have e : (Builtin.zeroCells z.cells 0).toList = [] := by simp [Builtin.zeroCells]
  rw [e]
  simp [Builtin.clear_, run_underlying ht, setCells]
 |succ n =>
  rw [hn] at hst
  simp [Builtin.clear_, run_underlying ht, hi.zeroValue, hst, Result.andThen]
theorem outBody : Body Tryz.prog 96 := ⟨_, Tryz.func96, by decide, rfl⟩
theorem outFn {w : World} {B : Nat} {id : Int} (hB : w.cell? ⟨B, 0, none⟩ = some (.int .i64 id)) (k : Int) : Calls Tryz.prog 96 #[.int .i64 k, .pointer (some ⟨B, 0, none⟩)] w (Ret fun v w' => Ext w w' ∧ v = .bool (decide (k = id))) := by
 refine dom_Dom_out_1.ok _ _ ?_
 unfold dom_Dom_out_1.vc
 exact ⟨id, hB, Chg.refl _ _, rfl⟩
theorem indexFn {A : List Nat} {w : World} {s : Sl} {l : List Int} (h : Row A w s 1 (l.map ic)) (hb : l.length ≤ 1099511627776) {B : Nat} {id : Int} (hB : w.cell? ⟨B, 0, none⟩ = some (.int .i64 id)) :
  Calls Tryz.prog 106 #[s.v, .func (.func 96) #[] #[.pointer (some ⟨B, 0, none⟩)]] w (Ret fun v w' => Ext w w' ∧ v = .int .i64 (idxI l id 0)) := by
 refine slices_IndexFunc__int_int_.ok _ _ ?_
 unfold slices_IndexFunc__int_int_.vc
 have hl := h.len
 simp only [List.length_map] at hl
 refine ⟨fun i w' => ∃ k : Nat, i = (k : Int) ∧ k ≤ l.length ∧ idxI l id 0 = idxI (l.drop k) id k ∧ Ext w w', fun i _ => l.length - i.toNat, ⟨0, rfl, by omega, rfl, Chg.refl _ _⟩, ?_⟩
 rintro _ w1 ⟨k, rfl, hk, he, hE⟩
 rw [Int.toNat_natCast]
 refine ⟨fun hi => ?_, fun hi => ⟨hE, ?_⟩⟩
 ·have hk' : k < l.length := by omega
  obtain ⟨p, hp, hc⟩ := (h.ext hE).int hk'
  rw [drop_at l 0 hk', idxI] at he
  refine ⟨⟨by omega, hi⟩, p, hp, l.getD k 0, hc, 96, #[], #[.pointer (some ⟨B, 0, none⟩)], rfl, outBody, CallK.exact (outFn (Ext.cell hE hB) (l.getD k 0)) fun w2 hE2 => ⟨_, rfl, fun hx => ⟨hE.trans hE2, ?_⟩, fun hx => ⟨⟨by omega, by omega⟩, ⟨k + 1, by omega, by omega, ?_, hE.trans hE2⟩, by dsimp only; omega⟩⟩⟩
  ·rw [he, if_pos (of_decide_eq_true hx).symm]
  ·rw [he, if_neg (fun e => of_decide_eq_false hx e.symm)]; rfl
 ·have hkl : k = l.length := by omega
  subst hkl
  rw [he, List.drop_length]; rfl
theorem idxI_spec : ∀ (l : List Int) (x : Int) (k : Nat), (idxI l x k = -1 ∧ x ∉ l) ∨ ∃ j : Nat, idxI l x k = ((k + j : Nat) : Int) ∧ j < l.length ∧ l.getD j 0 = x ∧ x ∉ l.take j
 |[], x, k => .inl ⟨rfl, by simp⟩
 |y :: r, x, k => by
  rw [idxI]
  by_cases h : x = y
  ·rw [if_pos h]; exact .inr ⟨0, by simp, by simp, by simp [h], by simp⟩
  ·rw [if_neg h]
   have := idxI_spec r x (k + 1)
   rw [show ((k + 1 : Nat) : Int) = (k : Int) + 1 by omega] at this
   rcases this with ⟨h1, h2⟩ | ⟨j, h1, h2, h3, h4⟩
   ·exact .inl ⟨h1, by simp [h, h2]⟩
   ·exact .inr ⟨j + 1, by rw [h1]; omega, by simp; omega, by simpa using h3, by simp [h, h4]⟩
theorem filter_ne {id : Int} {l : List Int} (h : id ∉ l) : (l.filter fun k => decide (k ≠ id)) = l := List.filter_eq_self.2 fun x hx => by
 have : x ≠ id := fun e => h (by rw [← e]; exact hx)
 simpa using this
theorem deleteInts {A : List Nat} {w : World} {s : Sl} {l : List Int} (ho : Own A w s 1 3 (l.map ic)) (hb : l.length ≤ 1000000000) {B : Nat} {id : Int} (hB : w.cell? ⟨B, 0, none⟩ = some (.int .i64 id)) (hap : B ∉ s.blk) :
  Calls Tryz.prog 95 #[s.v, .func (.func 96) #[] #[.pointer (some ⟨B, 0, none⟩)]] w (Ret fun v w' => Chg s.blk w w' ∧ ∃ s' : Sl, v = s'.v ∧ Own A w' s' 1 3 ((l.filter fun k => decide (k ≠ id)).map ic) ∧ ∀ b ∈ s'.blk, b ∈ s.blk) := by
 refine slices_DeleteFunc__int_int_.ok _ _ ?_
 unfold slices_DeleteFunc__int_int_.vc
 have hl := ho.len
 simp only [List.length_map] at hl
 have hcap := ho.cap
 have hmost := ho.most
 refine CallK.exact (indexFn ho.row (by omega) hB) fun w1 hE1 => ⟨_, rfl, fun hm1 => ?_, fun hne => ?_⟩
 ·have hno : id ∉ l := by
   rcases idxI_spec l id 0 with h | ⟨j, h1, _⟩
   ·exact h.2
   ·rw [show ((0 : Nat) : Int) = 0 from rfl] at h1; rw [h1] at hm1; omega
  refine ⟨hE1.mono (by simp), s, rfl, ?_, fun b hb => hb⟩
  rw [filter_ne hno]
  exact ho.ext hE1
 ·obtain ⟨j0, hj0, hjl, hjx, hjn⟩ : ∃ j : Nat, idxI l id 0 = (j : Int) ∧ j < l.length ∧ l.getD j 0 = id ∧ id ∉ l.take j := by
   rcases idxI_spec l id 0 with h | ⟨j, h1, h⟩
   ·rw [show ((0 : Nat) : Int) = 0 from rfl] at h; exact absurd h.1 hne
   ·rw [show ((0 : Nat) : Int) = 0 from rfl] at h1; exact ⟨j, by rw [h1]; omega, h⟩
  rw [hj0]
  obtain ⟨g, cur, hga, hgA, hgB, hgl, hgt⟩ : ∃ g cur, s.a = some ⟨g, 0, none⟩ ∧ g ∉ A ∧ Box w g 3 cur ∧ cur.length = s.c * 1 ∧ cur.take (s.n * 1) = (l.map ic).flatten := by
   rcases ho.at_ with e | e
   ·rw [e] at hl; simp [Sl.nil] at hl; omega
   ·exact e
  have hgs : s.blk = [g] := by simp [Sl.blk, hga]
  have hBg : B ≠ g := fun e => hap (by rw [hgs, e]; simp)
  rw [Nat.mul_one] at hgl hgt
  have hfl : ∀ m : List Int, (m.map ic).flatten = m.map fun z => Value.int .i64 z := fun m => by
   induction m with
   |nil => rfl
   |cons a r ih => rw [List.map_cons, List.flatten_cons, ih]; rfl
  have hcj : ∀ j, j < l.length → cur[j]? = some (.int .i64 (l.getD j 0)) := fun j hj => by
   have : (cur.take s.n)[j]? = some (.int .i64 (l.getD j 0)) := by rw [hgt, hfl]; simp [List.getD_eq_getElem?_getD, hj]
   rwa [List.getElem?_take, if_pos (by omega)] at this
  let F : List Int → List Int := fun m => m.filter fun k => decide (k ≠ id)
  have hFs : ∀ j, j < l.length → F (l.take (j + 1)) = F (l.take j) ++ (if l.getD j 0 = id then [] else [l.getD j 0]) := fun j hj => by
   show List.filter _ _ = _
   rw [take_snoc l 0 hj, List.filter_append]
   congr 1
   by_cases h : l.getD j 0 = id
   ·rw [if_pos h, List.filter_cons, if_neg (by rw [h]; simp)]; rfl
   ·rw [if_neg h, List.filter_cons, if_pos (decide_eq_true h)]; rfl
  have hF0 : F (l.take (j0 + 1)) = l.take j0 := by
   rw [hFs j0 hjl, if_pos hjx, List.append_nil]
   exact filter_ne hjn
  have hFl : ∀ j, (F (l.take j)).length ≤ j := fun j => Nat.le_trans (List.length_filter_le _ _) (by rw [List.length_take]; omega)
  refine ⟨⟨by omega, by omega⟩, fun i j w' => ∃ (a b : Nat) (cur' : List Value), i = (a : Int) ∧ j = (b : Int) ∧ a + 1 ≤ b ∧ b ≤ l.length ∧ a = (F (l.take b)).length ∧ Chg [g] w w' ∧ Box w' g 3 cur' ∧ cur'.length = cur.length ∧ cur'.take a = (F (l.take b)).map (fun z => Value.int .i64 z) ∧ (∀ j, b ≤ j → cur'[j]? = cur[j]?), fun i j _ => l.length - j.toNat,
   ⟨j0, j0 + 1, cur, rfl, by omega, by omega, by omega, by rw [hF0, List.length_take]; omega, (hE1.mono (by simp)), hgB.ext hE1, rfl, ?_, fun _ _ => rfl⟩, ?_⟩
  ·rw [hF0]
   have : cur.take j0 = (cur.take s.n).take j0 := by rw [List.take_take, Nat.min_eq_left (by omega)]
   rw [this, hgt, hfl, List.map_take]
  rintro _ _ w2 ⟨a, b, cur', rfl, rfl, hab, hbl, ha, hC, hB2, hcl, hct, hcr⟩
  simp only [Int.toNat_natCast, Nat.mul_one]
  refine ⟨fun hi => ?_, fun hi => ?_⟩
  ·have hb' : b < l.length := by omega
   have hcb : cur'[b]? = some (.int .i64 (l.getD b 0)) := by rw [hcr b (Nat.le_refl _)]; exact hcj b hb'
   refine ⟨⟨by omega, hi⟩, ⟨g, 0, none⟩, hga, l.getD b 0, by rw [Addr.add_lit, Nat.zero_add]; exact hB2.cell b _ hcb, 96, #[], #[.pointer (some ⟨B, 0, none⟩)], rfl, outBody, ?_⟩
   refine CallK.exact (outFn (Chg.cell hC hB (by simpa using hBg)) (l.getD b 0)) fun w3 hE3 => ⟨_, rfl, fun hx => ?_, fun hx => ?_⟩
   ·have hx' := of_decide_eq_false hx
    refine ⟨⟨by omega, by omega⟩, ⟨g, 0, none⟩, hga, g, a, 3, cur', by rw [Addr.add_lit, Nat.zero_add], hB2.ext hE3, by omega, by simp, fun w4 hC4 hB4 => ⟨⟨by omega, by omega⟩, ⟨by omega, by omega⟩, ⟨a + 1, b + 1, _, by omega, by omega, by omega, by omega, ?_, (hC.trans (hE3.mono (by simp))).trans hC4, hB4, by rw [putAt_len]; exact hcl, ?_, fun j hj => ?_⟩, by omega⟩⟩
    ·rw [hFs b hb', if_neg hx', List.length_append, ← ha]; rfl
    ·rw [hFs b hb', if_neg hx', List.map_append, putAt_eq _ _ _ (by simp; omega), ← hct, List.append_assoc]
     have hal : (cur'.take a).length = a := by rw [List.length_take]; omega
     rw [← List.append_assoc]
     exact List.take_left' (by rw [List.length_append, hal]; rfl)
    ·rw [putAt_eq _ _ _ (by simp; omega), List.getElem?_append_right (by simp; omega), List.getElem?_drop]
     have e : a + [Value.int .i64 (l.getD b 0)].length + (j - (cur'.take a ++ [Value.int .i64 (l.getD b 0)]).length) = j := by simp; omega
     rw [e]; exact hcr j (by omega)
   ·have hx' := of_decide_eq_true hx
    refine ⟨⟨by omega, by omega⟩, ⟨a, b + 1, cur', rfl, by omega, by omega, by omega, ?_, hC.trans (hE3.mono (by simp)), hB2.ext hE3, hcl, ?_, fun j hj => hcr j (by omega)⟩, by omega⟩
    ·rw [hFs b hb', if_pos hx', List.append_nil]; exact ha
    ·rw [hFs b hb', if_pos hx', List.append_nil]; exact hct
  ·have hbl' : b = l.length := by omega
   subst hbl'
   have hfin : F (l.take l.length) = F l := by rw [List.take_length]
   rw [hfin] at ha hct
   have hac : ¬ s.c = a := by omega
   have hc1 : (Sl.cut s 1 a s.n s.c) = ⟨some ⟨g, a, none⟩, s.n - a, s.c - a⟩ := by
    unfold Sl.cut; rw [hga]; simp [Addr.add_lit, hac]
   have hc2 : (Sl.cut s 1 0 a s.c) = ⟨some ⟨g, 0, none⟩, a, s.c⟩ := by
    unfold Sl.cut; rw [hga]; simp [Addr.add_lit]
   rw [hc1, hc2]
   refine ⟨⟨by omega, by omega⟩, ?_⟩
   refine clearK (o := a) (cur := cur') Tryz.underlying78 ti_3 rfl rfl hB2 (by simp only; omega) (fun v hv => ?_) (by simp) fun w3 zz hC3 hzl hB3 => ⟨⟨by omega, by omega⟩, by rw [hgs]; exact hC.trans hC3, _, rfl, ?_, fun b hb => by rw [hgs]; simpa [Sl.blk] using hb⟩
   ·simp [Builtin.zeroCells, Value.cells] at hv
    obtain ⟨q, hq, rfl⟩ := hv
    have : q % 1 = 0 := Nat.mod_one q
    simp [this]; rfl
   ·simp only [Nat.mul_one] at hzl
    refine ⟨by simp only [List.length_map]; exact ha, by simp only; omega, hmost, fun u hu => by obtain ⟨z, _, rfl⟩ := List.mem_map.1 hu; rfl, .inr ⟨g, _, rfl, hgA, hB3, by rw [putAt_len, hcl, hgl]; simp, ?_⟩⟩
    rw [hfl, Nat.mul_one, putAt_eq _ _ _ (by omega), ← hct, List.append_assoc]
    exact List.take_left' (show (cur'.take a).length = a by rw [List.length_take]; omega)
end
section
open Go.RowKit Go.MapKept
structure MapIs {κ : Type} (f : κ → Value) (d : TypeDesc) (w : World) (B : Nat) (m : List (κ × Value)) : Prop where
 at_ : ∃ es clock, w.heap[B]? = some (.map es clock) ∧ es.toList.map (fun e => (e.key, e.val)) = m.map fun p => (f p.1, p.2)
theorem MapIs.lt {κ : Type} {f : κ → Value} {d : TypeDesc} {w : World} {B : Nat} {m : List (κ × Value)} (h : MapIs f d w B m) : B < w.heap.size := by
 obtain ⟨es, clock, h1, _⟩ := h.at_
 exact (Array.getElem?_eq_some_iff.1 h1).1
theorem MapIs.chg {κ : Type} {f : κ → Value} {d : TypeDesc} {w w' : World} {F : List Nat} {B : Nat} {m : List (κ × Value)} (h : MapIs f d w B m) (c : Chg F w w') (hB : B ∉ F) : MapIs f d w' B m := by
 have hl := h.lt
 obtain ⟨es, clock, h1, h2⟩ := h.at_
 exact ⟨es, clock, by rw [c.block B hl hB]; exact h1, h2⟩
theorem MapIs.ext {κ : Type} {f : κ → Value} {d : TypeDesc} {w w' : World} {B : Nat} {m : List (κ × Value)} (h : MapIs f d w B m) (c : Ext w w') : MapIs f d w' B m := h.chg c (by simp)
theorem makeMap_run {κ : Type} {P : Program} {w : World} {bx : List Nat} {t : TypeId} {K : Value → World → Prop} (f : κ → Value) (d : TypeDesc) (k : ∀ B w', Ext w w' → w.heap.size ≤ B → MapIs f d w' B [] → K (.map (some B)) w') : RunK P (Instr.makeMap t none) w bx K := by
 have hr : (Instr.makeMap t none).run P w = .ok (.map (some w.heap.size)) (w.alloc (.map #[] 0)) := by
  simp [Instr.makeMap, Result.andThen]
 exact ⟨_, _, hr, (Ext.alloc _ _).noTouch _, (Ext.alloc _ _).size, k _ _ (Ext.alloc _ _) (Nat.le_refl _) ⟨#[], 0, heap_alloc_new w _, rfl⟩⟩
variable {κ : Type} [DecidableEq κ]
def mget (m : List (κ × Value)) (k : κ) : Option Value := (m.find? fun p => decide (p.1 = k)).map (·.2)
def mput (m : List (κ × Value)) (k : κ) (v : Value) : List (κ × Value) :=
 match m with
 |[] => [(k, v)]
 |p :: r => if p.1 = k then (k, v) :: r else p :: mput r k v
theorem mget_put (m : List (κ × Value)) (k j : κ) (v : Value) : mget (mput m k v) j = if j = k then some v else mget m j := by
 induction m with
 |nil =>
  by_cases h : j = k
  ·subst h; simp [mput, mget]
  ·have : ¬ k = j := fun e => h e.symm
   simp [mput, mget, h, this]
 |cons p r ih =>
  by_cases hp : p.1 = k
  ·rw [mput, if_pos hp]
   by_cases h : j = k
   ·subst h; simp [mget]
   ·have h1 : ¬ k = j := fun e => h e.symm
    have h2 : ¬ p.1 = j := fun e => h (e.symm.trans hp)
    simp [mget, h, h1, h2]
  ·rw [mput, if_neg hp]
   by_cases h : p.1 = j
   ·have h1 : ¬ j = k := fun e => hp (h.trans e)
    simp [mget, h, h1]
   ·have e1 : mget (p :: mput r k v) j = mget (mput r k v) j := by simp [mget, h]
    have e2 : mget (p :: r) j = mget r j := by simp [mget, h]
    rw [e1, e2, ih]
theorem find_of {f : κ → Value} {d : TypeDesc} (hf : ∀ x, IsKey d (f x)) (hi : ∀ x y, f x = f y → x = y) (k : κ) : ∀ (es : List MapEntry) (m : List (κ × Value)) (i : Nat), es.map (fun e => (e.key, e.val)) = m.map (fun p => (f p.1, p.2)) →
  (Instr.findNow d (f k) es i = some none ∧ mget m k = none ∧ (∀ v, m ++ [(k, v)] = mput m k v)) ∨ ∃ j v, Instr.findNow d (f k) es i = some (some (i + j, v)) ∧ mget m k = some v ∧ j < es.length ∧ (∃ e, es[j]? = some e ∧ e.key = f k) ∧ ∀ u, (es.modify j fun e => { e with key := f k, val := u }).map (fun e => (e.key, e.val)) = (mput m k u).map fun p => (f p.1, p.2)
 |[], [], i, _ => .inl ⟨rfl, rfl, fun _ => rfl⟩
 |[], _ :: _, i, h => by cases h
 |_ :: _, [], i, h => by cases h
 |e :: es, p :: m, i, h => by
  simp only [List.map_cons, List.cons.injEq, Prod.mk.injEq] at h
  obtain ⟨⟨hk, hv⟩, hr⟩ := h
  obtain ⟨r, hs, hiff⟩ := sameNow_of_keys (hf k) (hk ▸ hf p.1 : IsKey d e.key)
  cases r with
  |true =>
   have e1 : p.1 = k := hi _ _ (by rw [← hk]; exact (hiff.1 rfl).symm)
   refine .inr ⟨0, e.val, by simp [Instr.findNow, hs], by simp [mget, e1, hv], by simp, ⟨e, rfl, by rw [hk, e1]⟩, fun u => ?_⟩
   simp [mput, e1, hr]
  |false =>
   have e1 : ¬ p.1 = k := fun q => by have := hiff.2 (by rw [hk, q]); cases this
   rcases find_of hf hi k es m (i + 1) hr with ⟨h1, h2, h3⟩ | ⟨j, v, h1, h2, h3, h4, h5⟩
   ·refine .inl ⟨by simp [Instr.findNow, hs, h1], ?_, fun v => ?_⟩
    ·have : mget (p :: m) k = mget m k := by simp [mget, e1]
     rw [this, h2]
    ·rw [mput, if_neg e1, ← h3 v]; rfl
   ·refine .inr ⟨j + 1, v, by simp [Instr.findNow, hs, h1]; omega, ?_, by simp; omega, by simpa using h4, fun u => ?_⟩
    ·have : mget (p :: m) k = mget m k := by simp [mget, e1]
     rw [this, h2]
    ·rw [mput, if_neg e1]
     simp only [List.modify_succ_cons, List.map_cons]
     rw [h5 u, hk, hv]
theorem lookup_run {P : Program} {w : World} {B : Nat} {t kt et : TypeId} {d : TypeDesc} {f : κ → Value} {m : List (κ × Value)} {z : Value} (hf : ∀ x, IsKey d (f x)) (hi : ∀ x y, f x = f y → x = y) (ht : P.underlying t = some (.map kt et)) (hk : P.underlying kt = some d) (hz : (zeroValue et).run P w = .ok z w)
  (h : MapIs f d w B m) (k : κ) : (Instr.lookup t (.map (some B)) (f k) true).run P w = .ok (.tuple #[(mget m k).getD z, .bool (mget m k).isSome]) w ∧ (Instr.lookup t (.map (some B)) (f k) false).run P w = .ok ((mget m k).getD z) w := by
 obtain ⟨es, clock, hb, he⟩ := h.at_
 rcases find_of hf hi k es.toList m 0 he with ⟨h1, h2, _⟩ | ⟨j, v, h1, h2, _⟩
 ·rw [h2]
  constructor <;> simp [Instr.lookup, run_underlying ht, Go.MapKept.run_getObj_map hb, Go.MapKept.run_checkKey hk (hf k), Go.MapKept.run_findKey hk h1, hz, Result.andThen]
 ·rw [h2]
  constructor <;> simp [Instr.lookup, run_underlying ht, Go.MapKept.run_getObj_map hb, Go.MapKept.run_checkKey hk (hf k), Go.MapKept.run_findKey hk h1, Result.andThen]
theorem mapUpdate_run {P : Program} {w : World} {bx : List Nat} {B : Nat} {t kt et : TypeId} {d : TypeDesc} {f : κ → Value} {m : List (κ × Value)} {K : World → Prop} (hf : ∀ x, IsKey d (f x)) (hi : ∀ x y, f x = f y → x = y) (ht : P.underlying t = some (.map kt et)) (hk : P.underlying kt = some d)
  (h : MapIs f d w B m) (k : κ) (v : Value) (hbx : B ∉ bx) (kk : ∀ w', Chg [B] w w' → MapIs f d w' B (mput m k v) → K w') : RunU P (Instr.mapUpdate t (.map (some B)) (f k) v) w bx K := by
 obtain ⟨es, clock, hb, he⟩ := h.at_
 have chg : ∀ o, Chg [B] w { w with heap := w.heap.setIfInBounds B o } := fun o => ⟨rfl, rfl, rfl, by simp, fun i _ hi => by simp [Ne.symm (show i ≠ B by simpa using hi)]⟩
 have fin : ∀ es' clock', es'.toList.map (fun e => (e.key, e.val)) = (mput m k v).map (fun p => (f p.1, p.2)) → (Instr.mapUpdate t (.map (some B)) (f k) v).run P w = .ok () { w with heap := w.heap.setIfInBounds B (.map es' clock') } → RunU P (Instr.mapUpdate t (.map (some B)) (f k) v) w bx K := fun es' clock' h1 h2 =>
  ⟨_, h2, (chg _).noTouch _ (fun b hb hm => hbx (by simp at hm; rwa [← hm])), (chg _).size, kk _ (chg _) ⟨es', clock', (heap_set hb).1, h1⟩⟩
 rcases find_of hf hi k es.toList m 0 he with ⟨h1, h2, h3⟩ | ⟨j, u, h1, h2, hj, ⟨e, hje, hke⟩, h5⟩
 ·refine fin (es.push { key := f k, val := v, born := clock }) (clock + 1) ?_ ?_
  ·rw [Array.toList_push, List.map_append, he, ← h3 v]; simp
  ·simp [Instr.mapUpdate, run_underlying ht, Go.MapKept.run_getObj_map hb, Go.MapKept.run_checkKey hk (hf k), Go.MapKept.run_findKey hk h1, Go.MapKept.run_setObj_map _ hb, Result.andThen]
 ·have hj' : es[j]? = some e := by simpa using hje
  refine fin (es.modify j fun e => { e with key := f k, val := v }) clock ?_ ?_
  ·rw [Array.toList_modify]; exact h5 v
  ·simp [Instr.mapUpdate, run_underlying ht, Go.MapKept.run_getObj_map hb, Go.MapKept.run_checkKey hk (hf k), Go.MapKept.run_findKey hk h1, hj', hke, Go.MapKept.run_keyThatStays (hf k), Go.MapKept.run_setObj_map _ hb, Result.andThen]
end
section
open Go.RowKit
def insAt {α : Type} (i : Nat) (u : α) (l : List α) : List α := l.take i ++ u :: l.drop i
theorem insAt_perm {α : Type} (i : Nat) (u : α) (l : List α) : (insAt i u l).Perm (u :: l) := by
 unfold insAt
 refine List.perm_middle.trans ?_
 rw [List.take_append_drop]
theorem insAt_map {α β : Type} (f : α → β) (i : Nat) (u : α) (l : List α) : (insAt i u l).map f = insAt i (f u) (l.map f) := by
 simp [insAt, List.map_take, List.map_drop]
theorem insAt_mem {α : Type} {i : Nat} {u x : α} {l : List α} : x ∈ insAt i u l ↔ x = u ∨ x ∈ l := by
 rw [(insAt_perm i u l).mem_iff, List.mem_cons]
theorem insAt_len {α : Type} (i : Nat) (u : α) (l : List α) : (insAt i u l).length = l.length + 1 := by
 rw [(insAt_perm i u l).length_eq]; rfl
theorem filter_all {α : Type} {P : α → Bool} {l : List α} (h : ∀ x ∈ l, P x = true) : l.filter P = l := List.filter_eq_self.2 h
theorem insAt_filter {α : Type} {P : α → Bool} {i : Nat} {u : α} {l : List α} (h : ∀ x ∈ l, P x = true) (hu : P u = false) : (insAt i u l).filter P = l := by
 unfold insAt
 rw [List.filter_append, List.filter_cons, hu]
 rw [filter_all (fun x hx => h x (List.mem_of_mem_take hx)), filter_all (fun x hx => h x (List.mem_of_mem_drop hx))]
 simp
theorem insAt_flatMap {α β : Type} (f : α → List β) (i : Nat) (u : α) (l : List α) : ((insAt i u l).flatMap f).Perm (l.flatMap f ++ f u) := by
 unfold insAt
 rw [List.flatMap_append, List.flatMap_cons]
 have e : l.flatMap f = (l.take i).flatMap f ++ (l.drop i).flatMap f := by rw [← List.flatMap_append, List.take_append_drop]
 rw [e, List.append_assoc]
 exact List.Perm.append_left _ List.perm_append_comm
theorem insAt_cut {α : Type} {i : Nat} {l : List α} {u : α} (h : l[i]? = some u) : insAt i u (l.take i ++ l.drop (i + 1)) = l := by
 obtain ⟨hi, e⟩ := List.getElem?_eq_some_iff.1 h
 have h1 : (l.take i).length = i := by rw [List.length_take]; omega
 have h2 := List.take_left' (l₂ := l.drop (i + 1)) h1
 have h3 := List.drop_left' (l₂ := l.drop (i + 1)) h1
 unfold insAt
 rw [h2, h3, ← e, ← List.drop_eq_getElem_cons hi, List.take_append_drop]
theorem insAt_get {α : Type} {i : Nat} {u : α} {l : List α} (h : i ≤ l.length) : (insAt i u l)[i]? = some u := by
 unfold insAt
 rw [List.getElem?_append_right (by rw [List.length_take]; omega), List.length_take, Nat.min_eq_left h, Nat.sub_self]; rfl
inductive I where
 |node (id kind : Int) (name text : Str) (attrs : List (Str × Str)) (kids : List I)
structure Rec where
 id : Int
 par : Int
 kind : Int
 name : Str
 text : Str
 attrs : List (Str × Str)
 kids : List Int
theorem inj_of_nodup {α β : Type} {f : α → β} : ∀ {l : List α}, (l.map f).Nodup → ∀ {x y : α}, x ∈ l → y ∈ l → f x = f y → x = y
 |[], _, _, _, h, _, _ => by cases h
 |a :: r, hn, x, y, hx, hy, e => by
  rw [List.map_cons] at hn
  obtain ⟨h1, h2⟩ := List.nodup_cons.1 hn
  rcases List.mem_cons.1 hx with hx | hx
  ·rcases List.mem_cons.1 hy with hy | hy
   ·rw [hx, hy]
   ·exact absurd (by rw [← hx, e]; exact List.mem_map_of_mem hy) h1
  ·rcases List.mem_cons.1 hy with hy | hy
   ·exact absurd (by rw [← hy, ← e]; exact List.mem_map_of_mem hx) h1
   ·exact inj_of_nodup h2 hx hy e
namespace I
def id : I → Int | .node i _ _ _ _ _ => i
def kind : I → Int | .node _ k _ _ _ _ => k
def name : I → Str | .node _ _ n _ _ _ => n
def text : I → Str | .node _ _ _ x _ _ => x
def attrs : I → List (Str × Str) | .node _ _ _ _ a _ => a
def kids : I → List I | .node _ _ _ _ _ ks => ks
theorem ind {P : I → Prop} (h : ∀ i k n x ats ks, (∀ t ∈ ks, P t) → P (.node i k n x ats ks)) : ∀ t, P t
 |.node i k n x ats ks => h i k n x ats ks fun t _ => ind h t
theorem ind' {P : I → Prop} (h : ∀ t, (∀ u ∈ t.kids, P u) → P t) : ∀ t, P t := ind fun _ _ _ _ _ _ ih => h _ ih
theorem mk_id (i k : Int) (n x : Str) (a : List (Str × Str)) (ks : List I) : (node i k n x a ks).id = i := rfl
theorem mk_kind (i k : Int) (n x : Str) (a : List (Str × Str)) (ks : List I) : (node i k n x a ks).kind = k := rfl
theorem mk_name (i k : Int) (n x : Str) (a : List (Str × Str)) (ks : List I) : (node i k n x a ks).name = n := rfl
theorem mk_text (i k : Int) (n x : Str) (a : List (Str × Str)) (ks : List I) : (node i k n x a ks).text = x := rfl
theorem mk_attrs (i k : Int) (n x : Str) (a : List (Str × Str)) (ks : List I) : (node i k n x a ks).attrs = a := rfl
theorem mk_kids (i k : Int) (n x : Str) (a : List (Str × Str)) (ks : List I) : (node i k n x a ks).kids = ks := rfl
def toT : I → T | .node _ k n x a ks => .node k n x a (ks.attach.map fun ⟨u, _⟩ => toT u)
theorem toT_eq (s : I) : s.toT = .node s.kind s.name s.text s.attrs (s.kids.map toT) := by cases s; rw [toT]; simp [kind, name, text, attrs, kids]
def rec0 (s : I) (p : Int) : Rec := ⟨s.id, p, s.kind, s.name, s.text, s.attrs, s.kids.map I.id⟩
def all : I → Int → Nat → List (I × Int × Nat) | .node i k n x a ks, p, d => (.node i k n x a ks, p, d) :: (ks.attach.map fun ⟨u, _⟩ => all u i (d + 1)).flatten
theorem all_eq (s : I) (p : Int) (d : Nat) : s.all p d = (s, p, d) :: s.kids.flatMap fun u => u.all s.id (d + 1) := by
 cases s with
 |node i k n x a ks =>
  rw [all, List.flatMap]
  congr 2
  exact List.attach_map_val (f := fun u => all u i (d + 1))
def recs (s : I) (p : Int) : List Rec := (s.all p 1).map fun e => e.1.rec0 e.2.1
theorem map_flatMap_congr {α β γ : Type} {f : β → γ} {g : α → List β} {h : α → List γ} : ∀ {l : List α}, (∀ x ∈ l, (g x).map f = h x) → (l.flatMap g).map f = l.flatMap h
 |[], _ => rfl
 |x :: r, e => by
  rw [List.flatMap_cons, List.flatMap_cons, List.map_append, e x (by simp), map_flatMap_congr (fun y hy => e y (by simp [hy]))]
theorem all_recs : ∀ (s : I) (p : Int) (d : Nat), ((s.all p d).map fun e => e.1.rec0 e.2.1) = s.recs p := ind' fun s ih p d => by
 unfold recs
 rw [all_eq, all_eq s p 1, List.map_cons, List.map_cons, map_flatMap_congr (fun u hu => ih u hu s.id (d + 1)), map_flatMap_congr (fun u hu => ih u hu s.id (1 + 1))]
theorem recs_eq (s : I) (p : Int) : s.recs p = s.rec0 p :: s.kids.flatMap fun u => u.recs s.id := by
 unfold recs
 rw [all_eq, List.map_cons, map_flatMap_congr (fun u _ => all_recs u s.id (1 + 1))]; rfl
def ids (s : I) : List Int := (s.recs 0).map Rec.id
theorem recs_ids : ∀ (s : I) (p q : Int), (s.recs p).map Rec.id = (s.recs q).map Rec.id := fun s p q => by
 rw [recs_eq, recs_eq, List.map_cons, List.map_cons]; rfl
theorem ids_eq (s : I) : s.ids = s.id :: s.kids.flatMap ids := by
 unfold ids
 rw [recs_eq, List.map_cons, map_flatMap_congr (fun u _ => recs_ids u s.id 0)]; rfl
theorem recs_id (s : I) (p : Int) : (s.recs p).map Rec.id = s.ids := recs_ids s p 0
theorem id_mem (s : I) : s.id ∈ s.ids := by rw [ids_eq]; simp
theorem kid_ids {s u : I} (h : u ∈ s.kids) {x : Int} (hx : x ∈ u.ids) : x ∈ s.ids := by
 rw [ids_eq]; exact List.mem_cons_of_mem _ (List.mem_flatMap.2 ⟨u, h, hx⟩)
def ins : I → Int → Nat → I → I | .node id k n x a ks, p, i, u => if id = p then .node id k n x a (insAt i u ks) else .node id k n x a (ks.attach.map fun ⟨v, _⟩ => ins v p i u)
theorem ins_here {s : I} {p : Int} (i : Nat) (u : I) (h : s.id = p) : s.ins p i u = .node s.id s.kind s.name s.text s.attrs (insAt i u s.kids) := by
 cases s with
 |node i' k n x a ks => rw [ins, if_pos (show i' = p from h)]; rfl
theorem ins_deep {s : I} {p : Int} (i : Nat) (u : I) (h : s.id ≠ p) : s.ins p i u = .node s.id s.kind s.name s.text s.attrs (s.kids.map (fun v => v.ins p i u)) := by
 cases s with
 |node i' k n x a ks =>
  rw [ins, if_neg (show i' ≠ p from h)]
  congr 1
  exact List.attach_map_val (f := fun v => ins v p i u)
theorem ins_id (s : I) (p : Int) (i : Nat) (u : I) : (s.ins p i u).id = s.id := by
 by_cases h : s.id = p
 ·rw [ins_here i u h]; rfl
 ·rw [ins_deep i u h]; rfl
theorem ins_kind (s : I) (p : Int) (i : Nat) (u : I) : (s.ins p i u).kind = s.kind := by
 by_cases h : s.id = p
 ·rw [ins_here i u h]; rfl
 ·rw [ins_deep i u h]; rfl
theorem map_self {α : Type} {f : α → α} {l : List α} (h : ∀ x ∈ l, f x = x) : l.map f = l := by
 have e := List.map_congr_left (g := fun x => x) h
 rw [e, List.map_id']
theorem eta (s : I) : I.node s.id s.kind s.name s.text s.attrs s.kids = s := by cases s; rfl
theorem ins_none : ∀ (s : I) {p : Int} (i : Nat) (u : I), p ∉ s.ids → s.ins p i u = s := ind' fun s ih p i u h => by
 rw [ids_eq] at h
 have h1 : s.id ≠ p := fun e => h (by simp [e])
 have h2 : s.kids.map (fun v => v.ins p i u) = s.kids := map_self fun v hv => ih v hv i u fun hm => h (List.mem_cons_of_mem _ (List.mem_flatMap.2 ⟨v, hv, hm⟩))
 rw [ins_deep i u h1, h2, eta]
def insK (p : Int) (i : Nat) (k : Int) (r : Rec) : Rec := if r.id = p then { r with kids := insAt i k r.kids } else r
theorem insK_id (p : Int) (i : Nat) (k : Int) (r : Rec) : (insK p i k r).id = r.id := by unfold insK; split <;> rfl
theorem insK_none {p : Int} {i : Nat} {k : Int} {l : List Rec} (h : p ∉ l.map Rec.id) : l.map (insK p i k) = l := map_self fun r hr => by
 unfold insK
 rw [if_neg fun e => h (by rw [← e]; exact List.mem_map_of_mem hr)]
theorem rec0_ins (s : I) (p : Int) (i : Nat) (u : I) (q : Int) : (s.ins p i u).rec0 q = insK p i u.id (s.rec0 q) := by
 by_cases h : s.id = p
 ·rw [ins_here i u h]
  unfold insK
  rw [if_pos (show (s.rec0 q).id = p from h)]
  simp only [rec0, mk_id, mk_kind, mk_name, mk_text, mk_attrs, mk_kids, insAt_map]
 ·rw [ins_deep i u h]
  unfold insK
  rw [if_neg (show (s.rec0 q).id ≠ p from h)]
  simp only [rec0, mk_id, mk_kind, mk_name, mk_text, mk_attrs, mk_kids, List.map_map]
  congr 1
  exact List.map_congr_left fun v _ => ins_id v p i u
theorem all_ids (s : I) (p : Int) (d : Nat) : (s.all p d).map (fun e => e.1.id) = s.ids := by
 rw [← recs_id s p, ← all_recs s p d, List.map_map]; rfl
def insE (p : Int) (i : Nat) (u : I) (e : I × Int × Nat) : I × Int × Nat := (e.1.ins p i u, e.2)
theorem insE_none {p : Int} {i : Nat} {u s : I} (h : p ∉ s.ids) : ∀ (q : Int) (d : Nat), (s.all q d).map (insE p i u) = s.all q d := by
 have key : ∀ (s : I) (q : Int) (d : Nat), p ∉ s.ids → (s.all q d).map (insE p i u) = s.all q d := ind' fun s ih q d h => by
  have hk : ∀ v ∈ s.kids, p ∉ v.ids := fun v hv hm => h (kid_ids hv hm)
  rw [all_eq, List.map_cons, map_flatMap_congr (fun v hv => ih v hv s.id (d + 1) (hk v hv))]
  unfold insE
  rw [ins_none s i u h]
 exact fun q d => key s q d h
theorem nodup_kids {s : I} (h : s.ids.Nodup) : s.id ∉ s.kids.flatMap ids ∧ (s.kids.flatMap ids).Nodup := by
 rw [ids_eq] at h; exact List.nodup_cons.1 h
theorem nodup_kid {ks : List I} (h : (ks.flatMap ids).Nodup) : ∀ u ∈ ks, u.ids.Nodup := fun u hu => by
 obtain ⟨a, b, rfl⟩ := List.append_of_mem hu
 rw [List.flatMap_append, List.flatMap_cons] at h
 exact (List.nodup_append.1 (List.nodup_append.1 h).2.1).1
theorem insE_kids {ks : List I} {p : Int} {i : Nat} {u : I} (h : p ∉ ks.flatMap ids) (q : Int) (d : Nat) : (ks.flatMap fun v => v.all q d).map (insE p i u) = ks.flatMap fun v => v.all q d :=
 map_flatMap_congr fun v hv => insE_none (fun hm => h (List.mem_flatMap.2 ⟨v, hv, hm⟩)) q d
theorem ins_kids (p : Int) (i : Nat) (u : I) (q : Int) (d dp : Nat) : ∀ (ks : List I), (∀ v ∈ ks, v.ids.Nodup → p ∈ v.ids → (∀ f ∈ v.all q d, f.1.id = p → f.2.2 = dp) → ((v.ins p i u).all q d).Perm ((v.all q d).map (insE p i u) ++ u.all p (dp + 1))) → (ks.flatMap ids).Nodup → p ∈ ks.flatMap ids → (∀ v ∈ ks, ∀ f ∈ v.all q d, f.1.id = p → f.2.2 = dp) →
  ((ks.map (fun v => v.ins p i u)).flatMap fun v => v.all q d).Perm ((ks.flatMap fun v => v.all q d).map (insE p i u) ++ u.all p (dp + 1))
 |[], _, _, h, _ => by cases h
 |v :: r, ih, hn, hm, hd => by
  rw [List.flatMap_cons] at hn hm
  obtain ⟨n1, n2, n3⟩ := List.nodup_append.1 hn
  rw [List.map_cons, List.flatMap_cons, List.flatMap_cons, List.map_append]
  rcases List.mem_append.1 hm with h | h
  ·have hr : p ∉ r.flatMap ids := fun hx => n3 p h p hx rfl
   have e1 : r.map (fun v => v.ins p i u) = r := map_self fun x hx => ins_none x i u fun hy => hr (List.mem_flatMap.2 ⟨x, hx, hy⟩)
   rw [e1, insE_kids hr q d]
   refine ((ih v (by simp) n1 h (hd v (by simp))).append_right _).trans ?_
   rw [List.append_assoc, List.append_assoc]
   exact List.Perm.append_left _ List.perm_append_comm
  ·have hv : p ∉ v.ids := fun hx => n3 p hx p h rfl
   rw [ins_none v i u hv, insE_none hv q d, List.append_assoc]
   exact List.Perm.append_left _ (ins_kids p i u q d dp r (fun x hx => ih x (by simp [hx])) n2 h fun x hx => hd x (by simp [hx]))
theorem ins_all : ∀ (s : I) {p : Int} (i : Nat) (u : I) (q : Int) (d dp : Nat), s.ids.Nodup → p ∈ s.ids → (∀ f ∈ s.all q d, f.1.id = p → f.2.2 = dp) → ((s.ins p i u).all q d).Perm ((s.all q d).map (insE p i u) ++ u.all p (dp + 1)) := ind' fun s ih p i u q d dp hn hm hd => by
 obtain ⟨h1, h2⟩ := nodup_kids hn
 rw [all_eq, all_eq s, List.map_cons, List.cons_append, ins_id]
 rw [all_eq] at hd
 refine List.Perm.cons _ ?_
 by_cases h : s.id = p
 ·have hk : (s.ins p i u).kids = insAt i u s.kids := by rw [ins_here i u h]; rfl
  have hdp : d = dp := hd _ (List.mem_cons_self ..) h
  rw [hk, insE_kids (by rw [← h]; exact h1), ← h, ← hdp]
  exact insAt_flatMap _ _ _ _
 ·have hk : (s.ins p i u).kids = s.kids.map (fun v => v.ins p i u) := by rw [ins_deep i u h]; rfl
  rw [hk]
  refine ins_kids p i u s.id (d + 1) dp s.kids (fun v hv hvn hvm hvd => ih v hv i u s.id (d + 1) dp hvn hvm hvd) h2 ?_ fun v hv f hf => hd f (List.mem_cons_of_mem _ (List.mem_flatMap.2 ⟨v, hv, hf⟩))
  rw [ids_eq] at hm
  rcases List.mem_cons.1 hm with e | hm
  ·exact absurd e.symm h
  ·exact hm
theorem all_inj {s : I} {p : Int} {d : Nat} (hn : s.ids.Nodup) {e f : I × Int × Nat} (he : e ∈ s.all p d) (hf : f ∈ s.all p d) (h : e.1.id = f.1.id) : e = f := by
 rw [← all_ids s p d] at hn
 exact inj_of_nodup hn he hf h
theorem all_mem {s : I} {x : Int} (h : x ∈ s.ids) (p : Int) (d : Nat) : ∃ e ∈ s.all p d, e.1.id = x := by
 rw [← all_ids s p d] at h
 exact List.mem_map.1 h
theorem mem_all {s : I} {p : Int} {d : Nat} {e : I × Int × Nat} (h : e ∈ s.all p d) : e.1.id ∈ s.ids := by
 rw [← all_ids s p d]; exact List.mem_map_of_mem (f := fun e : I × Int × Nat => e.1.id) h
theorem ins_recs (s : I) {p : Int} (i : Nat) (u : I) (q : Int) (hn : s.ids.Nodup) (hm : p ∈ s.ids) : ((s.ins p i u).recs q).Perm ((s.recs q).map (insK p i u.id) ++ u.recs p) := by
 obtain ⟨f, hf, hfp⟩ := all_mem hm q 1
 have h := (ins_all s i u q 1 f.2.2 hn hm fun g hg hgp => by rw [all_inj hn hg hf (hgp.trans hfp.symm)]).map fun e => e.1.rec0 e.2.1
 rw [List.map_append, List.map_map, all_recs, all_recs] at h
 rw [show ((fun e : I × Int × Nat => e.1.rec0 e.2.1) ∘ insE p i u) = (insK p i u.id) ∘ (fun e : I × Int × Nat => e.1.rec0 e.2.1) from funext fun e => rec0_ins e.1 p i u e.2.1, ← List.map_map, all_recs] at h
 exact h
theorem ins_ids {s : I} {p : Int} (i : Nat) (u : I) (hn : s.ids.Nodup) (hm : p ∈ s.ids) : (s.ins p i u).ids.Perm (s.ids ++ u.ids) := by
 have h := (ins_recs s i u 0 hn hm).map Rec.id
 rw [List.map_append, List.map_map] at h
 rw [show (Rec.id ∘ insK p i u.id) = Rec.id from funext fun r => insK_id p i u.id r] at h
 rw [recs_id, recs_id, recs_id] at h
 exact h
def del (x : Int) : I → I | .node id k n t a ks => .node id k n t a ((ks.attach.filter fun v => decide (v.1.id ≠ x)).map fun ⟨v, _⟩ => del x v)
theorem attach_filter_map {α β : Type} (P : α → Bool) (f : α → β) (l : List α) : ((l.attach.filter fun v => P v.1).map fun v => f v.1) = (l.filter P).map f := by
 have h : ((l.attach.filter fun v => P v.1).map fun v => v.1) = l.filter P := by
  rw [show (fun v : { x // x ∈ l } => P v.1) = P ∘ Subtype.val from rfl, ← List.filter_map, List.attach_map_subtype_val]
 rw [← h, List.map_map]; rfl
theorem del_eq (s : I) (x : Int) : s.del x = .node s.id s.kind s.name s.text s.attrs ((s.kids.filter fun v => decide (v.id ≠ x)).map (del x)) := by
 cases s with
 |node id k n t a ks =>
  rw [del]
  have := attach_filter_map (fun v : I => decide (v.id ≠ x)) (del x) ks
  simp only [mk_id, mk_kind, mk_name, mk_text, mk_attrs, mk_kids]
  rw [← this]
theorem del_none : ∀ (s : I) {x : Int}, x ∉ s.ids ∨ (x = s.id ∧ x ∉ s.kids.flatMap ids) → s.del x = s := ind' fun s ih x h => by
 have hk : x ∉ s.kids.flatMap ids := by
  rcases h with h | h
  ·rw [ids_eq] at h; exact fun hm => h (List.mem_cons_of_mem _ hm)
  ·exact h.2
 have e1 : (s.kids.filter fun v => decide (v.id ≠ x)) = s.kids := filter_all fun v hv => by
  have : v.id ≠ x := fun e => hk (List.mem_flatMap.2 ⟨v, hv, e ▸ id_mem v⟩)
  simpa using this
 have e2 : s.kids.map (del x) = s.kids := map_self fun v hv => ih v hv (.inl fun hm => hk (List.mem_flatMap.2 ⟨v, hv, hm⟩))
 rw [del_eq, e1, e2, eta]
theorem del_ins : ∀ (s : I) {p : Int} (i : Nat) (u : I), s.ids.Nodup → u.id ∉ s.ids → (s.ins p i u).del u.id = s := ind' fun s ih p i u hn hu => by
 obtain ⟨h1, h2⟩ := nodup_kids hn
 have hk : u.id ∉ s.kids.flatMap ids := fun hm => hu (by rw [ids_eq]; exact List.mem_cons_of_mem _ hm)
 have hd : ∀ v ∈ s.kids, v.id ≠ u.id := fun v hv e => hk (List.mem_flatMap.2 ⟨v, hv, e ▸ id_mem v⟩)
 have e2 : s.kids.map (del u.id) = s.kids := map_self fun v hv => del_none v (.inl fun hm => hk (List.mem_flatMap.2 ⟨v, hv, hm⟩))
 rw [del_eq]
 by_cases h : s.id = p
 ·rw [ins_here i u h]
  simp only [mk_id, mk_kind, mk_name, mk_text, mk_attrs, mk_kids]
  rw [insAt_filter (fun v hv => by simpa using hd v hv) (by simp), e2]
  exact eta s
 ·rw [ins_deep i u h]
  simp only [mk_id, mk_kind, mk_name, mk_text, mk_attrs, mk_kids]
  rw [filter_all (fun v hv => by
   obtain ⟨v', hv', rfl⟩ := List.mem_map.1 hv
   simpa [ins_id] using hd v' hv'), List.map_map]
  rw [map_self (f := del u.id ∘ fun v => v.ins p i u) (fun v hv => ih v hv i u (nodup_kid h2 v hv) fun hm => hk (List.mem_flatMap.2 ⟨v, hv, hm⟩))]
  exact eta s
theorem parts : ∀ (s : I) {x : Int}, s.ids.Nodup → x ∈ s.ids → x ≠ s.id → ∃ (s0 : I) (p : Int) (i : Nat) (u : I), s = s0.ins p i u ∧ u.id = x ∧ p ∈ s0.ids ∧ s0.id = s.id ∧ (s0.ids ++ u.ids).Perm s.ids := ind' fun s ih x hn hm hx => by
 obtain ⟨h1, h2⟩ := nodup_kids hn
 have hm' := hm
 rw [ids_eq] at hm'
 rcases List.mem_cons.1 hm' with e | hm'
 ·exact absurd e hx
 obtain ⟨v, hv, hxv⟩ := List.mem_flatMap.1 hm'
 obtain ⟨j, hj, hjv⟩ := List.getElem_of_mem hv
 have hjv' : s.kids[j]? = some v := by rw [List.getElem?_eq_getElem hj, hjv]
 have hcut := insAt_cut hjv'
 have hvn := nodup_kid h2 v hv
 by_cases hvx : v.id = x
 ·have e : s = (I.node s.id s.kind s.name s.text s.attrs (s.kids.take j ++ s.kids.drop (j + 1))).ins s.id j v := by
   rw [ins_here j v (show (I.node s.id s.kind s.name s.text s.attrs (s.kids.take j ++ s.kids.drop (j + 1))).id = s.id from rfl)]
   simp only [mk_id, mk_kind, mk_name, mk_text, mk_attrs, mk_kids]
   rw [hcut, eta]
  refine ⟨_, s.id, j, v, e, hvx, id_mem _, rfl, ?_⟩
  rw [ids_eq, ids_eq s]
  simp only [mk_id, mk_kids]
  refine List.Perm.cons _ ?_
  have := insAt_flatMap ids j v (s.kids.take j ++ s.kids.drop (j + 1))
  rw [hcut] at this
  exact this.symm
 ·obtain ⟨v0, p, i, u, e, hux, hp, hid, hperm⟩ := ih v hv hvn hxv (fun e => hvx e.symm)
  have hpv : p ∈ v.ids := hperm.mem_iff.1 (List.mem_append_left _ hp)
  have hps : s.id ≠ p := fun e => h1 (e ▸ List.mem_flatMap.2 ⟨v, hv, hpv⟩)
  have hsplit : s.kids = s.kids.take j ++ v :: s.kids.drop (j + 1) := by
   rw [← hjv, ← List.drop_eq_getElem_cons hj, List.take_append_drop]
  have hout : p ∉ (s.kids.take j).flatMap ids ∧ p ∉ (s.kids.drop (j + 1)).flatMap ids := by
   rw [hsplit, List.flatMap_append, List.flatMap_cons] at h2
   obtain ⟨_, n2, n3⟩ := List.nodup_append.1 h2
   obtain ⟨_, _, n6⟩ := List.nodup_append.1 n2
   exact ⟨fun hm => n3 p hm p (List.mem_append_left _ hpv) rfl, fun hm => n6 p hpv p hm rfl⟩
  have m1 : (s.kids.take j).map (fun v => v.ins p i u) = s.kids.take j := map_self fun y hy => ins_none y i u fun hm => hout.1 (List.mem_flatMap.2 ⟨y, hy, hm⟩)
  have m2 : (s.kids.drop (j + 1)).map (fun v => v.ins p i u) = s.kids.drop (j + 1) := map_self fun y hy => ins_none y i u fun hm => hout.2 (List.mem_flatMap.2 ⟨y, hy, hm⟩)
  refine ⟨.node s.id s.kind s.name s.text s.attrs (s.kids.take j ++ v0 :: s.kids.drop (j + 1)), p, i, u, ?_, hux, ?_, rfl, ?_⟩
  ·rw [ins_deep i u (show (I.node s.id s.kind s.name s.text s.attrs (s.kids.take j ++ v0 :: s.kids.drop (j + 1))).id ≠ p from hps)]
   simp only [mk_id, mk_kind, mk_name, mk_text, mk_attrs, mk_kids]
   rw [List.map_append, List.map_cons, m1, m2, ← e, ← hsplit, eta]
  ·rw [ids_eq]
   refine List.mem_cons_of_mem _ (List.mem_flatMap.2 ⟨v0, ?_, hp⟩)
   simp [kids]
  ·rw [ids_eq, ids_eq s]
   simp only [mk_id, mk_kids]
   rw [List.cons_append]
   refine List.Perm.cons _ ?_
   have e3 : s.kids.flatMap ids = (s.kids.take j).flatMap ids ++ (v.ids ++ (s.kids.drop (j + 1)).flatMap ids) := (congrArg (fun l => List.flatMap ids l) hsplit).trans (by rw [List.flatMap_append, List.flatMap_cons])
   rw [e3, List.flatMap_append, List.flatMap_cons, List.append_assoc, List.append_assoc]
   refine List.Perm.append_left _ ?_
   refine List.Perm.trans ?_ (hperm.append_right _)
   rw [List.append_assoc]
   exact List.Perm.append_left _ List.perm_append_comm
end I
end
section
open Go.RowKit
def look (L : List Rec) (x : Int) : Option Rec := L.find? fun r => decide (r.id = x)
namespace I
def find (s : I) (x : Int) : Option (I × Int × Nat) := (s.all (-1) 1).find? fun e => decide (e.1.id = x)
theorem find_some {s : I} {x : Int} {e : I × Int × Nat} (h : s.find x = some e) : e ∈ s.all (-1) 1 ∧ e.1.id = x :=
 ⟨List.mem_of_find?_eq_some h, by simpa using List.find?_some h⟩
theorem find_none {s : I} {x : Int} : s.find x = none ↔ x ∉ s.ids := by
 rw [← all_ids s (-1) 1]
 unfold find
 rw [List.find?_eq_none]
 simp
theorem find_of {s : I} (hn : s.ids.Nodup) {e : I × Int × Nat} (h : e ∈ s.all (-1) 1) : s.find e.1.id = some e := by
 cases hl : s.find e.1.id with
 |none => exact absurd (mem_all h) (find_none.1 hl)
 |some q =>
  obtain ⟨h1, h2⟩ := find_some hl
  rw [all_inj hn h1 h h2]
theorem find_root (s : I) : s.find s.id = some (s, -1, 1) := by
 unfold find
 rw [all_eq, List.find?_cons_of_pos]
 simp
theorem all_up : ∀ (s : I) (p : Int) (d : Nat), ∀ e ∈ s.all p d, e = (s, p, d) ∨ ∃ f ∈ s.all p d, f.1.id = e.2.1 ∧ f.2.2 + 1 = e.2.2 ∧ e.1 ∈ f.1.kids := ind' fun s ih p d e he => by
 rw [all_eq] at he ⊢
 rcases List.mem_cons.1 he with rfl | he
 ·exact .inl rfl
 ·right
  obtain ⟨u, hu, heu⟩ := List.mem_flatMap.1 he
  rcases ih u hu s.id (d + 1) e heu with rfl | ⟨f, hf, h⟩
  ·exact ⟨(s, p, d), List.mem_cons_self .., rfl, rfl, hu⟩
  ·exact ⟨f, List.mem_cons_of_mem _ (List.mem_flatMap.2 ⟨u, hu, hf⟩), h⟩
theorem all_self (s : I) (p : Int) (d : Nat) : (s, p, d) ∈ s.all p d := by rw [all_eq]; exact List.mem_cons_self ..
theorem all_sub : ∀ (s : I) (p : Int) (d : Nat), ∀ e ∈ s.all p d, ∀ f ∈ e.1.all e.2.1 e.2.2, f ∈ s.all p d := ind' fun s ih p d e he f hf => by
 rw [all_eq] at he
 rcases List.mem_cons.1 he with rfl | he
 ·exact hf
 ·obtain ⟨u, hu, heu⟩ := List.mem_flatMap.1 he
  rw [all_eq]
  exact List.mem_cons_of_mem _ (List.mem_flatMap.2 ⟨u, hu, ih u hu s.id (d + 1) e heu f hf⟩)
theorem all_kid {s : I} {p : Int} {d : Nat} {e : I × Int × Nat} (he : e ∈ s.all p d) {u : I} (hu : u ∈ e.1.kids) : (u, e.1.id, e.2.2 + 1) ∈ s.all p d := by
 refine all_sub s p d e he _ ?_
 rw [all_eq e.1]
 exact List.mem_cons_of_mem _ (List.mem_flatMap.2 ⟨u, hu, all_self _ _ _⟩)
theorem all_ge : ∀ (s : I) (p : Int) (d : Nat), ∀ e ∈ s.all p d, d ≤ e.2.2 := ind' fun s ih p d e he => by
 rw [all_eq] at he
 rcases List.mem_cons.1 he with rfl | he
 ·exact Nat.le_refl _
 ·obtain ⟨u, hu, heu⟩ := List.mem_flatMap.1 he
  have := ih u hu s.id (d + 1) e heu
  omega
theorem sub_ids {s : I} {p : Int} {d : Nat} {e : I × Int × Nat} (he : e ∈ s.all p d) : ∀ x ∈ e.1.ids, x ∈ s.ids := fun x hx => by
 obtain ⟨f, hf, rfl⟩ := all_mem hx e.2.1 e.2.2
 exact mem_all (all_sub s p d e he f hf)
theorem sub_nodup : ∀ (s : I), s.ids.Nodup → ∀ (p : Int) (d : Nat), ∀ e ∈ s.all p d, e.1.ids.Nodup := ind' fun s ih hn p d e he => by
 rw [all_eq] at he
 rcases List.mem_cons.1 he with rfl | he
 ·exact hn
 ·obtain ⟨u, hu, heu⟩ := List.mem_flatMap.1 he
  exact ih u hu (nodup_kid (nodup_kids hn).2 u hu) s.id (d + 1) e heu
theorem size_ids : ∀ s : I, s.toT.size = s.ids.length := ind' fun s ih => by
 rw [toT_eq, T.size_eq, ids_eq, List.length_cons, List.length_flatMap]
 simp only [T.kids, List.map_map]
 rw [show s.kids.map (T.size ∘ toT) = s.kids.map (fun u => u.ids.length) from List.map_congr_left fun u hu => ih u hu]
 omega
theorem kid_depth {s u : I} (h : u ∈ s.kids) : u.toT.depth + 1 ≤ s.toT.depth := by
 have e : s.toT.depth = 1 + ((s.kids.map toT).map T.depth).foldr max 0 := by rw [toT_eq s, T.depth_eq]; rfl
 rw [e]
 have : u.toT.depth ≤ ((s.kids.map toT).map T.depth).foldr max 0 := by
  have key : ∀ (l : List Nat) (x : Nat), x ∈ l → x ≤ l.foldr max 0 := fun l x hx => by
   induction l with
   |nil => cases hx
   |cons a r ih =>
    simp only [List.foldr_cons]
    rcases List.mem_cons.1 hx with rfl | hx
    ·omega
    ·have := ih hx; omega
  exact key _ _ (List.mem_map_of_mem (List.mem_map_of_mem h))
 omega
theorem depth_sub : ∀ (s : I) (p : Int) (d : Nat), ∀ e ∈ s.all p d, e.2.2 + e.1.toT.depth ≤ d + s.toT.depth := ind' fun s ih p d e he => by
 rw [all_eq] at he
 rcases List.mem_cons.1 he with rfl | he
 ·exact Nat.le_refl _
 ·obtain ⟨u, hu, heu⟩ := List.mem_flatMap.1 he
  have h1 := ih u hu s.id (d + 1) e heu
  have h2 := kid_depth hu
  omega
theorem depth_pos (s : I) : 1 ≤ s.toT.depth := by rw [T.depth_eq]; omega
theorem depth_le : ∀ (s : I) (p : Int) (d B : Nat), (∀ e ∈ s.all p d, e.2.2 ≤ B) → d + s.toT.depth ≤ B + 1 := ind' fun s ih p d B h => by
 have h0 : d ≤ B := h _ (all_self s p d)
 have e : s.toT.depth = 1 + ((s.kids.map toT).map T.depth).foldr max 0 := by rw [toT_eq s, T.depth_eq]; rfl
 rw [e]
 have : ((s.kids.map toT).map T.depth).foldr max 0 ≤ B - d := T.foldr_max_le fun x hx => by
  obtain ⟨t, ht, rfl⟩ := List.mem_map.1 hx
  obtain ⟨u, hu, rfl⟩ := List.mem_map.1 ht
  have := ih u hu s.id (d + 1) B fun e he => h e (by rw [all_eq]; exact List.mem_cons_of_mem _ (List.mem_flatMap.2 ⟨u, hu, he⟩))
  omega
 omega
theorem depth_ins {s u : I} {p : Int} (i : Nat) {f : I × Int × Nat} {B : Nat} (hn : s.ids.Nodup) (hf : f ∈ s.all (-1) 1) (hp : f.1.id = p) (h1 : s.toT.depth ≤ B) (h2 : f.2.2 + u.toT.depth ≤ B) : (s.ins p i u).toT.depth ≤ B := by
 have hm : p ∈ s.ids := hp ▸ mem_all hf
 have hperm := ins_all s i u (-1) 1 f.2.2 hn hm fun g hg hgp => by rw [all_inj hn hg hf (hgp.trans hp.symm)]
 have := depth_le (s.ins p i u) (-1) 1 B fun e he => by
  rcases List.mem_append.1 (hperm.mem_iff.1 he) with h | h
  ·obtain ⟨g, hg, rfl⟩ := List.mem_map.1 h
   have := depth_sub s (-1) 1 g hg
   have := depth_pos g.1
   show g.2.2 ≤ B
   omega
  ·have := depth_sub u p (f.2.2 + 1) e h
   have := depth_pos e.1
   omega
 omega
theorem depth_out {s u : I} {p : Int} (i : Nat) (hn : s.ids.Nodup) (hm : p ∈ s.ids) : s.toT.depth ≤ (s.ins p i u).toT.depth := by
 obtain ⟨f, hf, hp⟩ := all_mem hm (-1) 1
 have hperm := ins_all s i u (-1) 1 f.2.2 hn hm fun g hg hgp => by rw [all_inj hn hg hf (hgp.trans hp.symm)]
 have := depth_le s (-1) 1 (s.ins p i u).toT.depth fun e he => by
  have h1 : insE p i u e ∈ (s.ins p i u).all (-1) 1 := hperm.mem_iff.2 (List.mem_append_left _ (List.mem_map_of_mem he))
  have := depth_sub (s.ins p i u) (-1) 1 _ h1
  have := depth_pos (insE p i u e).1
  have e2 : (insE p i u e).2.2 = e.2.2 := rfl
  omega
 omega
theorem ins_mem {s u : I} {p : Int} (i : Nat) {f : I × Int × Nat} (hn : s.ids.Nodup) (hf : f ∈ s.all (-1) 1) (hp : f.1.id = p) : (u, p, f.2.2 + 1) ∈ (s.ins p i u).all (-1) 1 :=
 (ins_all s i u (-1) 1 f.2.2 hn (hp ▸ mem_all hf) fun g hg hgp => by rw [all_inj hn hg hf (hgp.trans hp.symm)]).mem_iff.2 (List.mem_append_right _ (all_self _ _ _))
theorem ins_other {s u : I} {p : Int} (i : Nat) {f : I × Int × Nat} (hn : s.ids.Nodup) (hm : p ∈ s.ids) (hf : f ∈ s.all (-1) 1) : insE p i u f ∈ (s.ins p i u).all (-1) 1 := by
 obtain ⟨g, hg, hp⟩ := all_mem hm (-1) 1
 exact (ins_all s i u (-1) 1 g.2.2 hn hm fun k hk hkp => by rw [all_inj hn hk hg (hkp.trans hp.symm)]).mem_iff.2 (List.mem_append_left _ (List.mem_map_of_mem hf))
theorem toT_kind (s : I) : s.toT.kind = s.kind := by rw [toT_eq]; rfl
theorem toT_name (s : I) : s.toT.name = s.name := by rw [toT_eq]; rfl
theorem toT_text (s : I) : s.toT.text = s.text := by rw [toT_eq]; rfl
theorem toT_attrs (s : I) : s.toT.attrs = s.attrs := by rw [toT_eq]; rfl
theorem toT_kids (s : I) : s.toT.kids = s.kids.map toT := by rw [toT_eq]; rfl
theorem kidsOk_toT (s : I) : kidsOk s.toT = s.kids.all fun u => nodeOk u.toT && !(decide (u.kind = 5) && !(decide (s.kind = 1))) := by
 unfold kidsOk
 rw [toT_kids, List.all_map, toT_kind]
 congr 1
 funext u
 simp only [Function.comp_apply, toT_kind]
def nodes (s : I) : List I := (s.all 0 0).map fun e => e.1
theorem all_nodes : ∀ (s : I) (p : Int) (d : Nat), (s.all p d).map (fun e => e.1) = s.nodes := ind' fun s ih p d => by
 unfold nodes
 rw [all_eq, all_eq s 0 0, List.map_cons, List.map_cons, map_flatMap_congr (fun u hu => ih u hu s.id (d + 1)), map_flatMap_congr (fun u hu => ih u hu s.id (0 + 1))]
theorem nodes_eq (s : I) : s.nodes = s :: s.kids.flatMap nodes := by
 unfold nodes
 rw [all_eq, List.map_cons, map_flatMap_congr (fun u _ => all_nodes u s.id (0 + 1))]; rfl
theorem mem_nodes {s : I} {p : Int} {d : Nat} {e : I × Int × Nat} (h : e ∈ s.all p d) : e.1 ∈ s.nodes := by
 rw [← all_nodes s p d]; exact List.mem_map_of_mem (f := fun e : I × Int × Nat => e.1) h
theorem nodes_all {s v : I} (h : v ∈ s.nodes) (p : Int) (d : Nat) : ∃ e ∈ s.all p d, e.1 = v := by
 rw [← all_nodes s p d] at h
 exact List.mem_map.1 h
theorem kid_nodes {s u v : I} (h : u ∈ s.kids) (hv : v ∈ u.nodes) : v ∈ s.nodes := by
 rw [nodes_eq]; exact List.mem_cons_of_mem _ (List.mem_flatMap.2 ⟨u, h, hv⟩)
theorem self_nodes (s : I) : s ∈ s.nodes := by rw [nodes_eq]; exact List.mem_cons_self ..
theorem node_el {s : I} (h : s.kind = 2) : nodeOk s.toT = true ↔ (nameOk s.name && s.text.isEmpty && (decide (s.attrs.length ≤ 12) && attrsOk [] s.attrs)) = true ∧ ∀ u ∈ s.kids, nodeOk u.toT = true ∧ u.kind ≠ 5 := by
 rw [nodeOk_el (by rw [toT_kind]; exact h), kidsOk_toT, toT_name, toT_text, toT_attrs, Bool.and_eq_true, List.all_eq_true]
 refine and_congr Iff.rfl (forall_congr' fun u => imp_congr Iff.rfl ?_)
 simp [h]
theorem node_ne {s : I} (h : s.kind ≠ 2) : nodeOk s.toT = true → s.kids = [] := fun hk => by
 rw [nodeOk_ne (by rw [toT_kind]; exact h)] at hk
 simp only [Bool.and_eq_true] at hk
 have := hk.1.2
 rw [toT_kids] at this
 simpa using this
theorem ins_ok : ∀ (s : I) {p : Int} (i : Nat) (u : I), (∀ v ∈ s.nodes, v.id = p → v.kind = 2) → u.kind ≠ 5 → nodeOk u.toT = true → nodeOk s.toT = true → nodeOk (s.ins p i u).toT = true := ind' fun s ih p i u hp hu5 hu hs => by
 by_cases h2 : s.kind = 2
 ·obtain ⟨h3, h4⟩ := (node_el h2).1 hs
  by_cases h : s.id = p
  ·rw [ins_here i u h]
   refine (node_el (s := .node s.id s.kind s.name s.text s.attrs (insAt i u s.kids)) h2).2 ⟨h3, fun v hv => ?_⟩
   rw [mk_kids] at hv
   rcases insAt_mem.1 hv with rfl | hv
   ·exact ⟨hu, hu5⟩
   ·exact h4 v hv
  ·rw [ins_deep i u h]
   refine (node_el (s := .node s.id s.kind s.name s.text s.attrs (s.kids.map fun v => v.ins p i u)) h2).2 ⟨h3, fun v hv => ?_⟩
   rw [mk_kids] at hv
   obtain ⟨v', hv', rfl⟩ := List.mem_map.1 hv
   exact ⟨ih v' hv' i u (fun v hvn => hp v (kid_nodes hv' hvn)) hu5 hu (h4 v' hv').1, by rw [ins_kind]; exact (h4 v' hv').2⟩
 ·have hk := node_ne h2 hs
  have h : s.id ≠ p := fun e => h2 (hp s (self_nodes s) e)
  rw [ins_deep i u h, hk]
  have e : I.node s.id s.kind s.name s.text s.attrs (([] : List I).map fun v => v.ins p i u) = s := by rw [List.map_nil, ← hk, eta]
  rw [e]; exact hs
theorem ins_out : ∀ (s : I) {p : Int} (i : Nat) (u : I), nodeOk (s.ins p i u).toT = true → nodeOk s.toT = true := ind' fun s ih p i u hs => by
 by_cases h : s.id = p
 ·rw [ins_here i u h] at hs
  by_cases h2 : s.kind = 2
  ·obtain ⟨h3, h4⟩ := (node_el (s := .node s.id s.kind s.name s.text s.attrs (insAt i u s.kids)) h2).1 hs
   exact (node_el h2).2 ⟨h3, fun v hv => h4 v (by rw [mk_kids]; exact insAt_mem.2 (.inr hv))⟩
  ·have hk := node_ne (s := .node s.id s.kind s.name s.text s.attrs (insAt i u s.kids)) h2 hs
   rw [mk_kids] at hk
   have := insAt_len i u s.kids
   rw [hk] at this
   simp at this
 ·rw [ins_deep i u h] at hs
  by_cases h2 : s.kind = 2
  ·obtain ⟨h3, h4⟩ := (node_el (s := .node s.id s.kind s.name s.text s.attrs (s.kids.map fun v => v.ins p i u)) h2).1 hs
   rw [mk_kids] at h4
   refine (node_el h2).2 ⟨h3, fun v hv => ?_⟩
   have := h4 _ (List.mem_map_of_mem hv)
   exact ⟨ih v hv i u this.1, by have := this.2; rwa [ins_kind] at this⟩
  ·have hk := node_ne (s := .node s.id s.kind s.name s.text s.attrs (s.kids.map fun v => v.ins p i u)) h2 hs
   rw [mk_kids] at hk
   have hk' : s.kids = [] := by simpa using hk
   rw [hk'] at hs
   have e : I.node s.id s.kind s.name s.text s.attrs (([] : List I).map fun v => v.ins p i u) = s := by rw [List.map_nil, ← hk', eta]
   rw [e] at hs; exact hs
theorem sub_ok : ∀ (s : I), nodeOk s.toT = true → ∀ v ∈ s.nodes, nodeOk v.toT = true ∧ (v ≠ s → v.kind ≠ 5) := ind' fun s ih hs v hv => by
 rw [nodes_eq] at hv
 rcases List.mem_cons.1 hv with rfl | hv
 ·exact ⟨hs, fun h => absurd rfl h⟩
 ·obtain ⟨u, hu, hvu⟩ := List.mem_flatMap.1 hv
  by_cases h2 : s.kind = 2
  ·obtain ⟨_, h4⟩ := (node_el h2).1 hs
   have := ih u hu (h4 u hu).1 v hvu
   refine ⟨this.1, fun _ => ?_⟩
   by_cases e : v = u
   ·rw [e]; exact (h4 u hu).2
   ·exact this.2 e
  ·rw [node_ne h2 hs] at hu; cases hu
theorem check_iff {s : I} : s.toT.check = true ↔ s.kind = 1 ∧ s.ids.length ≤ 300 ∧ s.toT.depth ≤ 60 ∧ s.name = [] ∧ s.text = [] ∧ s.attrs = [] ∧ ∀ u ∈ s.kids, nodeOk u.toT = true := by
 unfold T.check
 rw [kidsOk_toT, size_ids, toT_kind, toT_name, toT_text, toT_attrs]
 simp only [Bool.and_eq_true, decide_eq_true_eq, List.all_eq_true, List.isEmpty_iff]
 constructor
 ·rintro ⟨⟨⟨⟨⟨h1, h2⟩, h3⟩, h4, h5⟩, h6⟩, h7⟩
  exact ⟨h1, h2, h3, h4, h5, h6, fun u hu => (h7 u hu).1⟩
 ·rintro ⟨h1, h2, h3, h4, h5, h6, h7⟩
  exact ⟨⟨⟨⟨⟨h1, h2⟩, h3⟩, h4, h5⟩, h6⟩, fun u hu => ⟨h7 u hu, by simp [h1]⟩⟩
structure Okay (s : I) : Prop where
 check : s.toT.check = true
 nodup : s.ids.Nodup
 rng : ∀ x ∈ s.ids, 0 ≤ x ∧ x ≤ 1048576
 root : s.id = 0
def holds (a b : Int) : Bool := decide (a = 1) || (decide (a = 2) && !(decide (b = 5)))
theorem root_kind {s : I} (h : s.Okay) : ∀ f ∈ s.all (-1) 1, f.1.kind = 1 → f.1 = s := fun f hf hk => by
 obtain ⟨h1, _, _, _, _, _, h7⟩ := check_iff.1 h.check
 rw [all_eq] at hf
 rcases List.mem_cons.1 hf with rfl | hf
 ·rfl
 ·obtain ⟨u, hu, hfu⟩ := List.mem_flatMap.1 hf
  have h8 := sub_ok u (h7 u hu) f.1 (mem_nodes hfu)
  have h9 := h8.1
  rw [nodeOk_ne (by rw [toT_kind, hk]; decide), toT_kind, hk] at h9
  simp at h9
theorem Okay.ins {s u : I} {p : Int} (i : Nat) {f : I × Int × Nat} (h : s.Okay) (hf : f ∈ s.all (-1) 1) (hp : f.1.id = p) (hh : holds f.1.kind u.kind = true) (hu : nodeOk u.toT = true) (hun : (s.ids ++ u.ids).Nodup) (hur : ∀ x ∈ u.ids, 0 ≤ x ∧ x ≤ 1048576) (hsz : s.ids.length + u.ids.length ≤ 300) (hd : f.2.2 + u.toT.depth ≤ 60) : (s.ins p i u).Okay := by
 have hm : p ∈ s.ids := hp ▸ mem_all hf
 have hperm := ins_ids i u h.nodup hm
 obtain ⟨h1, h2, h3, h4, h5, h6, h7⟩ := check_iff.1 h.check
 have hx : ∀ t : I, (t.ins p i u).name = t.name ∧ (t.ins p i u).text = t.text ∧ (t.ins p i u).attrs = t.attrs := fun t => by
  by_cases e : t.id = p
  ·rw [ins_here i u e]; exact ⟨rfl, rfl, rfl⟩
  ·rw [ins_deep i u e]; exact ⟨rfl, rfl, rfl⟩
 refine ⟨check_iff.2 ⟨by rw [ins_kind]; exact h1, by rw [hperm.length_eq, List.length_append]; exact hsz, depth_ins i h.nodup hf hp h3 hd, by rw [(hx s).1]; exact h4, by rw [(hx s).2.1]; exact h5, by rw [(hx s).2.2]; exact h6, fun v hv => ?_⟩, hperm.nodup_iff.2 hun, fun x hx => ?_, by rw [ins_id]; exact h.root⟩
 ·by_cases e : s.id = p
  ·rw [ins_here i u e, mk_kids] at hv
   rcases insAt_mem.1 hv with rfl | hv
   ·exact hu
   ·exact h7 v hv
  ·rw [ins_deep i u e, mk_kids] at hv
   obtain ⟨v', hv', rfl⟩ := List.mem_map.1 hv
   have hf2 : f.1.kind = 2 ∧ u.kind ≠ 5 := by
    unfold holds at hh
    by_cases hk : f.1.kind = 1
    ·exact absurd (by rw [← hp, root_kind h f hf hk]) e
    ·simp [hk] at hh; exact hh
   refine ins_ok v' i u (fun g hg hgp => ?_) hf2.2 hu (h7 v' hv')
   obtain ⟨k, hk, rfl⟩ := nodes_all (kid_nodes hv' hg) (-1) 1
   rw [all_inj h.nodup hk hf (hgp.trans hp.symm)]
   exact hf2.1
 ·rcases List.mem_append.1 (hperm.mem_iff.1 hx) with hx | hx
  ·exact h.rng x hx
  ·exact hur x hx
theorem Okay.out {s u : I} {p : Int} (i : Nat) (h : (s.ins p i u).Okay) (hn : s.ids.Nodup) (hm : p ∈ s.ids) : s.Okay := by
 have hperm := ins_ids i u hn hm
 obtain ⟨h1, h2, h3, h4, h5, h6, h7⟩ := check_iff.1 h.check
 have hx : ∀ t : I, (t.ins p i u).name = t.name ∧ (t.ins p i u).text = t.text ∧ (t.ins p i u).attrs = t.attrs := fun t => by
  by_cases e : t.id = p
  ·rw [ins_here i u e]; exact ⟨rfl, rfl, rfl⟩
  ·rw [ins_deep i u e]; exact ⟨rfl, rfl, rfl⟩
 rw [hperm.length_eq, List.length_append] at h2
 refine ⟨check_iff.2 ⟨by rwa [ins_kind] at h1, by omega, by have := depth_out (u := u) i hn hm; omega, by rwa [(hx s).1] at h4, by rwa [(hx s).2.1] at h5, by rwa [(hx s).2.2] at h6, fun v hv => ?_⟩, hn, fun x hx => h.rng x (hperm.mem_iff.2 (List.mem_append_left _ hx)), by have := h.root; rwa [ins_id] at this⟩
 by_cases e : s.id = p
 ·exact h7 v (by rw [ins_here i u e, mk_kids]; exact insAt_mem.2 (.inr hv))
 ·exact ins_out v i u (h7 _ (by rw [ins_deep i u e, mk_kids]; exact List.mem_map_of_mem hv))
theorem Okay.part {s u : I} {p : Int} (i : Nat) {f : I × Int × Nat} (h : (s.ins p i u).Okay) (hn : s.ids.Nodup) (hf : f ∈ s.all (-1) 1) (hp : f.1.id = p) : nodeOk u.toT = true ∧ f.2.2 + u.toT.depth ≤ 60 ∧ (s.ids ++ u.ids).Nodup ∧ s.ids.length + u.ids.length ≤ 300 ∧ (∀ x ∈ u.ids, 0 ≤ x ∧ x ≤ 1048576) ∧ u.kind ≠ 1 := by
 have hm : p ∈ s.ids := hp ▸ mem_all hf
 have hperm := ins_ids i u hn hm
 obtain ⟨h1, h2, h3, h4, h5, h6, h7⟩ := check_iff.1 h.check
 have hmem := ins_mem (u := u) i hn hf hp
 have hnd : (s.ids ++ u.ids).Nodup := hperm.nodup_iff.1 h.nodup
 have hne : u ≠ s.ins p i u := fun e => by
  have h8 : u.id ∈ s.ids := by
   have : (s.ins p i u).id ∈ s.ids := by rw [ins_id]; exact id_mem s
   rwa [← e] at this
  exact (List.nodup_append.1 hnd).2.2 _ h8 _ (id_mem u) rfl
 have hok : nodeOk u.toT = true := by
  rw [all_eq] at hmem
  rcases List.mem_cons.1 hmem with e | hmem
  ·exact absurd (congrArg (·.1) e) hne
  ·obtain ⟨v, hv, hvu⟩ := List.mem_flatMap.1 hmem
   exact (sub_ok v (h7 v hv) u (mem_nodes hvu)).1
 have hdd := depth_sub _ _ _ _ hmem
 rw [hperm.length_eq, List.length_append] at h2
 refine ⟨hok, by simp only at hdd; omega, hnd, h2, fun x hx => h.rng x (hperm.mem_iff.2 (List.mem_append_right _ hx)), fun hk => hne (root_kind h _ hmem hk)⟩
mutual
def num : T → Nat → I
 |.node k n x a ks, i => .node (i : Int) k n x a (numL ks (i + 1))
def numL : List T → Nat → List I
 |[], _ => []
 |t :: r, i => num t i :: numL r (i + t.size)
end
theorem num_eq (t : T) (i : Nat) : num t i = .node (i : Int) t.kind t.name t.text t.attrs (numL t.kids (i + 1)) := by cases t; rw [num]; rfl
theorem num_id (t : T) (i : Nat) : (num t i).id = i := by rw [num_eq]; rfl
theorem numL_toT : ∀ (ks : List T), (∀ t ∈ ks, ∀ i, (num t i).toT = t) → ∀ i, (numL ks i).map toT = ks
 |[], _, i => by rw [numL]; rfl
 |t :: r, h, i => by
  rw [numL, List.map_cons, h t (by simp) i, numL_toT r (fun u hu => h u (by simp [hu])) (i + t.size)]
theorem num_toT : ∀ (t : T) (i : Nat), (num t i).toT = t := T.ind' fun t ih i => by
 rw [num_eq, toT_eq]
 simp only [mk_kind, mk_name, mk_text, mk_attrs, mk_kids]
 rw [numL_toT t.kids ih]
 cases t; rfl
theorem numL_ids : ∀ (ks : List T), (∀ t ∈ ks, ∀ i, (num t i).ids = (List.range' i t.size).map fun n : Nat => (n : Int)) → ∀ i, (numL ks i).flatMap ids = (List.range' i (ks.map T.size).sum).map fun n : Nat => (n : Int)
 |[], _, i => by rw [numL]; rfl
 |t :: r, h, i => by
  rw [numL, List.flatMap_cons, h t (by simp) i, numL_ids r (fun u hu => h u (by simp [hu])) (i + t.size), ← List.map_append, List.map_cons, List.sum_cons]
  rw [List.range'_append_1]
theorem num_ids : ∀ (t : T) (i : Nat), (num t i).ids = (List.range' i t.size).map fun n : Nat => (n : Int) := T.ind' fun t ih i => by
 rw [ids_eq, num_eq]
 simp only [mk_id, mk_kids]
 rw [numL_ids t.kids ih, T.size_eq t, Nat.add_comm 1, List.range'_succ, List.map_cons]
theorem num_okay {t : T} (h : t.check = true) : (num t 0).Okay := by
 have hs : t.size ≤ 300 := by
  unfold T.check at h
  simp only [Bool.and_eq_true, decide_eq_true_eq] at h
  exact h.1.1.1.1.2
 refine ⟨by rw [num_toT]; exact h, ?_, fun x hx => ?_, by rw [num_id]; rfl⟩
 ·rw [num_ids]
  exact List.Pairwise.map (fun n : Nat => (n : Int)) (fun a b (hab : a ≠ b) => show (a : Int) ≠ (b : Int) by omega) (show List.Pairwise (· ≠ ·) (List.range' 0 t.size) from List.nodup_range' 1)
 ·rw [num_ids] at hx
  obtain ⟨n, hn, rfl⟩ := List.mem_map.1 hx
  have := List.mem_range'_1.1 hn
  omega
end I
end
section
open Go.RowKit Go.MapKept
structure Nd where
 r : Rec
 sa : Sl
 sk : Sl
def ndc (x : Nd) : List Value := [.int .i64 x.r.id, .int .i64 x.r.par, .int .i64 x.r.kind, .string (Bs x.r.name), .string (Bs x.r.text), x.sa.v, Sl.nil.v, x.sk.v]
def numV (z : Int) : Value := .int .i64 z
theorem keyNum (z : Int) : IsKey (.int .i64) (numV z) := rfl
theorem numV_inj (x y : Int) (h : numV x = numV y) : x = y := by injection h
theorem tiNum : TI Tryz.prog 3 (.int .i64 0) 1 8 := TI.of (by kernel_rfl)
def findAt : List Nd → Int → Nat → Option Nat
 |[], _, _ => none
 |x :: r, k, i => if x.r.id = k then some i else findAt r k (i + 1)
theorem findAt_spec : ∀ (X : List Nd) (k : Int) (i : Nat), (findAt X k i = none ∧ ∀ x ∈ X, x.r.id ≠ k) ∨ ∃ j x, findAt X k i = some (i + j) ∧ X[j]? = some x ∧ x.r.id = k
 |[], k, i => .inl ⟨rfl, by simp⟩
 |y :: r, k, i => by
  rw [findAt]
  by_cases h : y.r.id = k
  ·rw [if_pos h]; exact .inr ⟨0, y, rfl, rfl, h⟩
  ·rw [if_neg h]
   rcases findAt_spec r k (i + 1) with ⟨h1, h2⟩ | ⟨j, x, h1, h2, h3⟩
   ·exact .inl ⟨h1, fun x hx => by rcases List.mem_cons.1 hx with rfl | hx; exact h; exact h2 x hx⟩
   ·exact .inr ⟨j + 1, x, by rw [h1]; congr 1; omega, by simpa using h2, h3⟩
structure Arena (A : List Nat) (w : World) (D : Nat) (l : Sl) (M : Nat) (m : List (Int × Value)) (X : List Nd) : Prop where
 box : Box w D 84 [l.v, .map (some M)]
 dA : D ∉ A
 mA : M ∉ A
 row : Own A w l 8 88 (X.map ndc)
 sa : ∀ x ∈ X, Own A w x.sa 2 63 (x.r.attrs.map ac)
 sk : ∀ x ∈ X, Own A w x.sk 1 3 (x.r.kids.map ic)
 apart : ∀ (i j : Nat) (x y : Nd), i ≠ j → X[i]? = some x → X[j]? = some y → (∀ b ∈ x.sa.blk, b ∉ y.sa.blk) ∧ ∀ b ∈ x.sk.blk, b ∉ y.sk.blk
 map : MapIs numV (.int .i64) w M m
 keys : ∀ k, mget m k = (findAt X k 0).map fun i => numV (i : Int)
 mkeys : (m.map fun p => p.1).Nodup
 nodup : (X.map fun x => x.r.id).Nodup
 few : X.length ≤ 1000000
 fit : ∀ x ∈ X, x.r.attrs.length ≤ 1000000 ∧ x.r.kids.length ≤ 1000000
theorem MapIs.box {κ : Type} {f : κ → Value} {d : TypeDesc} {w : World} {M B : Nat} {m : List (κ × Value)} {T : TypeId} {cs : List Value} (h : MapIs f d w M m) (hB : Box w B T cs) : M ≠ B := by
 obtain ⟨es, clock, h1, _⟩ := h.at_
 intro e
 unfold Box at hB
 rw [e, hB] at h1; cases h1
theorem Own.box {A : List Nat} {w : World} {s : Sl} {size : Nat} {T : TypeId} {vs : List (List Value)} (h : Own A w s size T vs) : s = Sl.nil ∨ ∃ g cur, s.a = some ⟨g, 0, none⟩ ∧ s.blk = [g] ∧ Box w g T cur := by
 rcases h.at_ with e | ⟨g, cur, h1, _, h3, _⟩
 ·exact .inl e
 ·exact .inr ⟨g, cur, h1, by simp [Sl.blk, h1], h3⟩
theorem Own.noMap {κ : Type} {A : List Nat} {w : World} {s : Sl} {size : Nat} {T : TypeId} {vs : List (List Value)} {f : κ → Value} {d : TypeDesc} {M : Nat} {m : List (κ × Value)} (h : Own A w s size T vs) (k : MapIs f d w M m) : M ∉ s.blk := by
 rcases h.box with e | ⟨g, cur, h1, h2, h3⟩
 ·rw [e]; simp [Sl.blk, Sl.nil]
 ·rw [h2]; simpa using k.box h3
section
variable {A : List Nat} {w w' : World} {D : Nat} {l : Sl} {M : Nat} {m : List (Int × Value)} {X : List Nd}
theorem Arena.chg {F : List Nat} (h : Arena A w D l M m X) (c : Chg F w w') (hF : ∀ b ∈ F, b ∈ A) : Arena A w' D l M m X :=
 ⟨h.box.keep c (fun hm => h.dA (hF _ hm)), h.dA, h.mA, h.row.chg c hF, fun x hx => (h.sa x hx).chg c hF, fun x hx => (h.sk x hx).chg c hF, h.apart, h.map.chg c (fun hm => h.mA (hF _ hm)), h.keys, h.mkeys, h.nodup, h.few, h.fit⟩
theorem Arena.ext (h : Arena A w D l M m X) (c : Ext w w') : Arena A w' D l M m X := h.chg c (by simp)
theorem Arena.wide {A' : List Nat} (h : Arena A w D l M m X) (hA : ∀ b ∈ A', b ∈ A ∨ w.heap.size ≤ b) : Arena A' w D l M m X := by
 have av : ∀ {s : Sl} {size : Nat} {T : TypeId} {vs : List (List Value)}, Own A w s size T vs → Own A' w s size T vs := fun ho => ho.avoid fun b hb hm => by
  have h2 := ho.blk b hb
  rcases hA b hm with h3 | h3
  ·exact h2.1 h3
  ·omega
 refine ⟨h.box, fun hm => ?_, fun hm => ?_, av h.row, fun x hx => av (h.sa x hx), fun x hx => av (h.sk x hx), h.apart, h.map, h.keys, h.mkeys, h.nodup, h.few, h.fit⟩
 ·rcases hA _ hm with h3 | h3
  ·exact h.dA h3
  ·have := h.box.lt; omega
 ·rcases hA _ hm with h3 | h3
  ·exact h.mA h3
  ·have := h.map.lt; omega
theorem Arena.at (h : Arena A w D l M m X) {i : Nat} {x : Nd} (hi : X[i]? = some x) : ∃ g, l.a = some ⟨g, 0, none⟩ ∧ l.blk = [g] ∧ Cells w ⟨g, i * 8, none⟩ (ndc x) := by
 obtain ⟨hil, _⟩ := List.getElem?_eq_some_iff.1 hi
 rcases h.row.box with e | ⟨g, cur, h1, h2, h3⟩
 ·have := h.row.len
  rw [e] at this; simp [Sl.nil] at this; omega
 ·refine ⟨g, h1, h2, ?_⟩
  have := h.row.row.cells1 (i := i) (by simpa using hil) h1
  rw [Addr.add_lit, Nat.zero_add] at this
  rwa [List.getD_eq_getElem?_getD, List.getElem?_map, hi] at this
theorem getNd {X : List Nd} {k : Int} (hn : (X.map fun x => x.r.id).Nodup) {i j : Nat} {x y : Nd} (hi : X[i]? = some x) (hj : X[j]? = some y) (hx : x.r.id = k) (hy : y.r.id = k) : i = j ∧ x = y := by
 have hxy : x = y := inj_of_nodup hn (List.mem_of_getElem? hi) (List.mem_of_getElem? hj) (hx.trans hy.symm)
 refine ⟨?_, hxy⟩
 obtain ⟨hi1, hi2⟩ := List.getElem?_eq_some_iff.1 hi
 obtain ⟨hj1, hj2⟩ := List.getElem?_eq_some_iff.1 hj
 have hp := List.pairwise_iff_getElem.1 (show List.Pairwise (· ≠ ·) (X.map fun x => x.r.id) from hn)
 rcases Nat.lt_trichotomy i j with h | h | h
 ·exact ((hp i j (by simpa using hi1) (by simpa using hj1) h) (by simp only [List.getElem_map, hi2, hj2, hxy])).elim
 ·exact h
 ·exact ((hp j i (by simpa using hj1) (by simpa using hi1) h) (by simp only [List.getElem_map, hi2, hj2, hxy])).elim
theorem domNode (h : Arena A w D l M m X) (id : Int) :
  Calls Tryz.prog 61 #[.pointer (some ⟨D, 0, none⟩), .int .i64 id] w (Ret fun v w' => Ext w w' ∧ (((∀ x ∈ X, x.r.id ≠ id) ∧ v = .pointer none) ∨ ∃ i x g, X[i]? = some x ∧ x.r.id = id ∧ l.a = some ⟨g, 0, none⟩ ∧ v = .pointer (some ⟨g, i * 8, none⟩))) := by
 refine dom_Dom_node.ok _ _ ?_
 unfold dom_Dom_node.vc
 have hlk := (lookup_run keyNum numV_inj Tryz.underlying81 Tryz.underlying3 (tiNum.zeroValue w) h.map id).1
 rw [h.keys] at hlk
 have hc := h.box.cell
 rcases findAt_spec X id 0 with ⟨h1, h2⟩ | ⟨i, x, h1, h2, h3⟩
 ·rw [h1] at hlk
  exact ⟨some M, by rw [Addr.add_lit]; exact hc 1 _ rfl, 0, false, hlk, fun _ => ⟨Chg.refl _ _, .inl ⟨h2, rfl⟩⟩, fun hb => by cases hb⟩
 ·rw [h1, Nat.zero_add] at hlk
  obtain ⟨g, hg, _, _⟩ := h.at h2
  have hn := h.row.len
  rw [List.length_map] at hn
  obtain ⟨hil, _⟩ := List.getElem?_eq_some_iff.1 h2
  refine ⟨some M, by rw [Addr.add_lit]; exact hc 1 _ rfl, (i : Int), true, hlk, fun hb => (by cases hb), fun _ => ⟨l, by rw [Addr.add_lit]; exact hc 0 _ rfl, ⟨by omega, by omega⟩, ⟨g, 0, none⟩, hg, Chg.refl _ _, .inr ⟨i, x, g, h2, h3, hg, ?_⟩⟩⟩
  rw [Addr.add_lit, Nat.zero_add, Int.toNat_natCast]
end
def Dom (A : List Nat) (w : World) (D : Nat) (R : I) : Prop := ∃ l M m X, Arena A w D l M m X ∧ (X.map Nd.r).Perm (R.recs (-1)) ∧ R.Okay
section
variable {A : List Nat} {w w' : World} {D : Nat} {R : I}
theorem Dom.ext (h : Dom A w D R) (c : Ext w w') : Dom A w' D R := by
 obtain ⟨l, M, m, X, h1, h2⟩ := h; exact ⟨l, M, m, X, h1.ext c, h2⟩
theorem Dom.chg {F : List Nat} (h : Dom A w D R) (c : Chg F w w') (hF : ∀ b ∈ F, b ∈ A) : Dom A w' D R := by
 obtain ⟨l, M, m, X, h1, h2⟩ := h; exact ⟨l, M, m, X, h1.chg c hF, h2⟩
theorem Dom.wide {A' : List Nat} (h : Dom A w D R) (hA : ∀ b ∈ A', b ∈ A ∨ w.heap.size ≤ b) : Dom A' w D R := by
 obtain ⟨l, M, m, X, h1, h2⟩ := h; exact ⟨l, M, m, X, h1.wide hA, h2⟩
theorem Dom.okay (h : Dom A w D R) : R.Okay := by obtain ⟨l, M, m, X, h1, h2, h3⟩ := h; exact h3
theorem recOf {X : List Nd} (hp : (X.map Nd.r).Perm (R.recs (-1))) (hR : R.Okay) {i : Nat} {x : Nd} (hi : X[i]? = some x) : ∃ e, R.find x.r.id = some e ∧ x.r = e.1.rec0 e.2.1 := by
 have hm : x.r ∈ R.recs (-1) := hp.mem_iff.1 (List.mem_map_of_mem (List.mem_of_getElem? hi))
 unfold I.recs at hm
 obtain ⟨e, he, hx⟩ := List.mem_map.1 hm
 refine ⟨e, ?_, hx.symm⟩
 rw [← hx]
 exact I.find_of hR.nodup he
theorem recNone {X : List Nd} (hp : (X.map Nd.r).Perm (R.recs (-1))) {id : Int} (h : ∀ x ∈ X, x.r.id ≠ id) : R.find id = none := by
 rw [I.find_none, ← I.recs_id R (-1), ← (hp.map Rec.id).mem_iff, List.map_map]
 intro hm
 obtain ⟨x, hx, e⟩ := List.mem_map.1 hm
 exact h x hx e
theorem domHas (h : Dom A w D R) (id : Int) : Calls Tryz.prog 63 #[.pointer (some ⟨D, 0, none⟩), .int .i64 id] w (Ret fun v w' => Ext w w' ∧ v = .bool (R.find id).isSome) := by
 obtain ⟨l, M, m, X, h1, h2, h3⟩ := h
 refine dom_Dom_Has.ok _ _ ?_
 unfold dom_Dom_Has.vc
 refine CallK.ext (domNode h1 id) ?_
 rintro v w1 hE1 (⟨hn, rfl⟩ | ⟨i, x, g, hi, hx, hg, rfl⟩)
 ·exact ⟨none, rfl, hE1, by rw [recNone h2 hn]; rfl⟩
 ·obtain ⟨e, he, _⟩ := recOf h2 h3 hi
  exact ⟨some ⟨g, i * 8, none⟩, rfl, hE1, by rw [← hx, he]; rfl⟩
def parOf (R : I) (id : Int) : Int := match R.find id with
 |some e => e.2.1
 |none => -1
theorem domParent (h : Dom A w D R) (id : Int) : Calls Tryz.prog 92 #[.pointer (some ⟨D, 0, none⟩), .int .i64 id] w (Ret fun v w' => Ext w w' ∧ v = .int .i64 (parOf R id)) := by
 obtain ⟨l, M, m, X, h1, h2, h3⟩ := h
 refine dom_Dom_Parent.ok _ _ ?_
 unfold dom_Dom_Parent.vc
 refine CallK.ext (domNode h1 id) ?_
 rintro v w1 hE1 (⟨hn, rfl⟩ | ⟨i, x, g, hi, hx, hg, rfl⟩)
 ·exact ⟨none, rfl, fun _ => ⟨hE1, by unfold parOf; rw [recNone h2 hn]⟩, fun hb => by cases hb⟩
 ·obtain ⟨e, he, hr⟩ := recOf h2 h3 hi
  obtain ⟨g', hg', _, hc⟩ := (h1.ext hE1).at hi
  rw [hg] at hg'; cases hg'
  refine ⟨some ⟨g, i * 8, none⟩, rfl, fun hb => (by cases hb), fun _ => ⟨_, rfl, x.r.par, hc 1 _ rfl, hE1, ?_⟩⟩
  unfold parOf
  rw [← hx, he, hr]; rfl
end
end
section
open Go.RowKit Go.MapKept
def lev (R : I) (x : Int) : Nat := match R.find x with
 |some e => e.2.2
 |none => 0
theorem not_ids {R : I} (hR : R.Okay) : (-1 : Int) ∉ R.ids := fun h => by have := (hR.rng _ h).1; omega
theorem find_none_root {R : I} (hR : R.Okay) : R.find (-1) = none := I.find_none.2 (not_ids hR)
theorem up {R : I} (hR : R.Okay) {e : I × Int × Nat} (he : e ∈ R.all (-1) 1) : (e = (R, -1, 1)) ∨ ∃ f, R.find e.2.1 = some f ∧ f.1.id = e.2.1 ∧ f.2.2 + 1 = e.2.2 ∧ e.1 ∈ f.1.kids := by
 rcases I.all_up R (-1) 1 e he with h | ⟨f, hf, h1, h2, h3⟩
 ·exact .inl h
 ·exact .inr ⟨f, by rw [← h1]; exact I.find_of hR.nodup hf, h1, h2, h3⟩
theorem lev_par {R : I} (hR : R.Okay) {x : Int} {e : I × Int × Nat} (he : R.find x = some e) : lev R (parOf R x) + 1 = lev R x := by
 have h1 := (I.find_some he).1
 have h2 : parOf R x = e.2.1 := by unfold parOf; rw [he]
 have h3 : lev R x = e.2.2 := by unfold lev; rw [he]
 rw [h2, h3]
 rcases up hR h1 with rfl | ⟨f, hf, _, h, _⟩
 ·unfold lev; rw [find_none_root hR]
 ·unfold lev; rw [hf]; exact h
theorem lev_le {R : I} (hR : R.Okay) (x : Int) : lev R x ≤ 60 := by
 unfold lev
 cases h : R.find x with
 |none => simp
 |some e =>
  have h1 := I.depth_sub R (-1) 1 e (I.find_some h).1
  have h2 := I.depth_pos e.1
  have h3 := (I.check_iff.1 hR.check).2.2.1
  simp only; omega
def within (R : I) (x y : Int) : Bool := match R.find x with
 |some e => decide (y ∈ e.1.ids)
 |none => false
theorem within_self {R : I} {x : Int} {e : I × Int × Nat} (h : R.find x = some e) : within R x x = true := by
 unfold within; rw [h]
 have := (I.find_some h).2
 exact decide_eq_true (this ▸ I.id_mem e.1)
theorem within_par {R : I} (hR : R.Okay) {x y : Int} {e g : I × Int × Nat} (he : R.find x = some e) (hg : R.find y = some g) (hne : y ≠ x) : within R x (parOf R y) = within R x y := by
 obtain ⟨e1, e2⟩ := I.find_some he
 obtain ⟨g1, g2⟩ := I.find_some hg
 have hp : parOf R y = g.2.1 := by unfold parOf; rw [hg]
 rw [hp]
 unfold within
 rw [he]
 refine decide_eq_decide.2 ⟨fun h => ?_, fun h => ?_⟩
 ·rcases up hR g1 with rfl | ⟨f, hf, f1, _, f3⟩
  ·exact absurd (I.sub_ids e1 _ h) (not_ids hR)
  ·obtain ⟨k, hk, hk1⟩ := I.all_mem h e.2.1 e.2.2
   have hk2 := I.all_sub R (-1) 1 e e1 k hk
   have : k = f := I.all_inj hR.nodup hk2 (I.find_some hf).1 (hk1.trans f1.symm)
   subst this
   have := I.mem_all (I.all_kid hk f3)
   rw [← g2]; exact this
 ·obtain ⟨k, hk, hk1⟩ := I.all_mem h e.2.1 e.2.2
  have hk2 := I.all_sub R (-1) 1 e e1 k hk
  have hkg : k = g := I.all_inj hR.nodup hk2 g1 (hk1.trans g2.symm)
  rcases I.all_up e.1 e.2.1 e.2.2 k hk with rfl | ⟨q, hq, q1, _, _⟩
  ·exact absurd (hk1.symm.trans e2) hne
  ·rw [← hkg, ← q1]; exact I.mem_all hq
section
variable {A : List Nat} {w w' : World} {D : Nat} {R : I}
theorem domLevel (h : Dom A w D R) (id : Int) : Calls Tryz.prog 65 #[.pointer (some ⟨D, 0, none⟩), .int .i64 id] w (Ret fun v w' => Ext w w' ∧ v = .int .i64 (lev R id : Int)) := by
 have hR := h.okay
 refine dom_Dom_level.ok _ _ ?_
 unfold dom_Dom_level.vc
 refine ⟨fun x n w' => ∃ k : Nat, n = (k : Int) ∧ k + lev R x = lev R id ∧ Ext w w', fun x _ _ => lev R x, ⟨0, rfl, by omega, Chg.refl _ _⟩, ?_⟩
 rintro x _ w1 ⟨k, rfl, hk, hE⟩
 have hb := lev_le hR id
 refine CallK.exact (domHas (h.ext hE) x) fun w2 hE2 => ⟨_, rfl, fun hx => ⟨⟨by omega, by omega⟩, CallK.exact (domParent (h.ext (hE.trans hE2)) x) fun w3 hE3 => ⟨_, rfl, ⟨k + 1, by omega, ?_, (hE.trans hE2).trans hE3⟩, ?_⟩⟩, fun hx => ⟨hE.trans hE2, ?_⟩⟩
 ·obtain ⟨e, he⟩ := Option.isSome_iff_exists.1 hx
  have := lev_par hR he; omega
 ·obtain ⟨e, he⟩ := Option.isSome_iff_exists.1 hx
  have := lev_par hR he; dsimp only; omega
 ·have h0 : lev R x = 0 := by
   unfold lev
   cases hf : R.find x with
   |none => rfl
   |some e => rw [hf] at hx; cases hx
  rw [show k = lev R id by omega]
theorem domWithin (h : Dom A w D R) (x y : Int) : Calls Tryz.prog 69 #[.pointer (some ⟨D, 0, none⟩), .int .i64 x, .int .i64 y] w (Ret fun v w' => Ext w w' ∧ v = .bool (within R x y)) := by
 have hR := h.okay
 refine dom_Dom_Within.ok _ _ _ ?_
 unfold dom_Dom_Within.vc
 refine ⟨fun z w' => within R x z = within R x y ∧ Ext w w', fun z _ => lev R z, ⟨rfl, Chg.refl _ _⟩, ?_⟩
 rintro z w1 ⟨hz, hE⟩
 refine CallK.exact (domHas (h.ext hE) x) fun w2 hE2 => ⟨_, rfl, _, fun _ => domHas (h.ext (hE.trans hE2)) z, fun w3 hE3 => ⟨fun hb => ⟨fun hzx => ⟨(hE.trans hE2).trans hE3, ?_⟩, fun hne => CallK.exact (domParent (h.ext ((hE.trans hE2).trans hE3)) z) fun w4 hE4 => ⟨_, rfl, ⟨?_, ((hE.trans hE2).trans hE3).trans hE4⟩, ?_⟩⟩, fun hb => ⟨(hE.trans hE2).trans hE3, ?_⟩⟩⟩
 ·obtain ⟨e, he⟩ := Option.isSome_iff_exists.1 hb.1
  subst hzx
  rw [← hz, within_self he]
 ·obtain ⟨e, he⟩ := Option.isSome_iff_exists.1 hb.1
  obtain ⟨g, hg⟩ := Option.isSome_iff_exists.1 hb.2
  rw [within_par hR he hg hne]; exact hz
 ·obtain ⟨g, hg⟩ := Option.isSome_iff_exists.1 hb.2
  have := lev_par hR hg; dsimp only; omega
 ·congr 1
  rw [← hz]
  unfold within
  cases hf : R.find x with
  |none => rfl
  |some e =>
   refine (decide_eq_false fun hm => ?_).symm
   rcases hb with hb | hb
   ·rw [hf] at hb; cases hb
   ·have := I.sub_ids (I.find_some hf).1 _ hm
    cases hg : R.find z with
    |none => exact I.find_none.1 hg this
    |some g => rw [hg] at hb; cases hb
theorem nodup_len : ∀ {l m : List Int}, l.Nodup → (∀ x ∈ l, x ∈ m) → l.length ≤ m.length
 |[], m, _, _ => Nat.zero_le _
 |a :: r, m, hn, hs => by
  obtain ⟨h1, h2⟩ := List.nodup_cons.1 hn
  have ha := hs a (by simp)
  have ih := nodup_len (l := r) (m := m.erase a) h2 fun x hx => (List.mem_erase_of_ne (fun e => h1 (by rw [← e]; exact hx))).2 (hs x (by simp [hx]))
  have := List.length_erase_of_mem ha
  have := List.length_pos_of_mem ha
  simp only [List.length_cons]; omega
theorem maxI {l : List I} {k : Nat} (h : k < l.length) : ((l.take (k + 1)).map fun u => u.toT.depth).foldr max 0 = max (((l.take k).map fun u => u.toT.depth).foldr max 0) l[k].toT.depth := by
 rw [List.take_succ_eq_append_getElem h, List.map_append]; exact foldr_max_snoc _ _
theorem kids_few (hR : R.Okay) {e : I × Int × Nat} (he : e ∈ R.all (-1) 1) : e.1.kids.length ≤ 300 := by
 have h1 := (I.check_iff.1 hR.check).2.1
 have h2 : e.1.kids.length ≤ e.1.ids.length := by
  rw [I.ids_eq, List.length_cons, List.length_flatMap]
  have : ∀ l : List I, l.length ≤ (l.map fun a => a.ids.length).sum := fun l => by
   induction l with
   |nil => simp
   |cons a r ih =>
    have := List.length_pos_of_mem (I.id_mem a)
    simp only [List.map_cons, List.sum_cons, List.length_cons]; omega
  have := this e.1.kids; omega
 have h3 : e.1.ids.length ≤ R.ids.length := by
  have hs := I.sub_nodup R hR.nodup (-1) 1 e he
  have := I.sub_ids he
  exact nodup_len hs this
 omega
theorem domHeight : ∀ (s : I) {w : World}, Dom A w D R → ∀ (p : Int) (d : Nat), (s, p, d) ∈ R.all (-1) 1 → Calls Tryz.prog 70 #[.pointer (some ⟨D, 0, none⟩), .int .i64 s.id] w (Ret fun v w' => Ext w w' ∧ v = .int .i64 (s.toT.depth : Int)) := I.ind' fun s ih w h p d hs => by
 have hR := h.okay
 have h0 := h
 obtain ⟨l, M, m, X, h1, h2, h3⟩ := h
 refine dom_Dom_height.ok _ _ ?_
 unfold dom_Dom_height.vc
 refine CallK.ext (domNode h1 s.id) ?_
 rintro v w1 hE1 (⟨hn, rfl⟩ | ⟨i, x, g, hi, hx, hg, rfl⟩)
 ·have := recNone h2 hn
  rw [I.find_of hR.nodup hs] at this; cases this
 ·obtain ⟨e, he, hr⟩ := recOf h2 h3 hi
  rw [hx, I.find_of hR.nodup hs] at he
  cases he
  obtain ⟨g', hg', _, hc⟩ := (h1.ext hE1).at hi
  rw [hg] at hg'; cases hg'
  have hx' := List.mem_of_getElem? hi
  have hk := (h1.ext hE1).sk x hx'
  have hkr : x.r.kids = s.kids.map I.id := by rw [hr]; rfl
  rw [hkr] at hk
  have hkn := hk.len
  simp only [List.length_map] at hkn
  have hkf := kids_few hR hs
  refine ⟨some ⟨g, i * 8, none⟩, rfl, _, rfl, x.sk, hc 7 _ rfl, fun hh j w' => ∃ k : Nat, j = (k : Int) ∧ k ≤ s.kids.length ∧ hh = ((((s.kids.take k).map fun u => u.toT.depth).foldr max 0 : Nat) : Int) ∧ Ext w1 w', fun _ j _ => s.kids.length - j.toNat, ⟨0, rfl, by omega, rfl, Chg.refl _ _⟩, ?_⟩
  rintro _ _ w2 ⟨k, rfl, hkk, rfl, hE2⟩
  rw [Int.toNat_natCast]
  refine ⟨fun hlt => ?_, fun hge => ⟨?_, hE1.trans hE2, ?_⟩⟩
  ·have hk' : k < s.kids.length := by simp only at hkf hkn; omega
   obtain ⟨q, hq, hcq⟩ := (hk.ext hE2).row.int (k := k) (by simpa using hk')
   have hu : s.kids[k]? = some s.kids[k] := List.getElem?_eq_getElem hk'
   have hum : s.kids[k] ∈ s.kids := List.getElem_mem hk'
   have hgd : (s.kids.map I.id).getD k 0 = s.kids[k].id := by simp [List.getD_eq_getElem?_getD, hk']
   rw [hgd] at hcq
   refine ⟨⟨by omega, hlt⟩, q, hq, _, hcq, CallK.exact (ih _ hum (h0.ext (hE1.trans hE2)) s.id (d + 1) (I.all_kid hs hum)) fun w3 hE3 => ⟨_, rfl, ⟨by simp only at hkf; omega, by simp only at hkf; omega⟩, ⟨k + 1, by omega, by omega, ?_, hE2.trans hE3⟩, by dsimp only; omega⟩⟩
   rw [maxI hk']; omega
  ·have h60 := (I.check_iff.1 hR.check).2.2.1
   have := I.depth_sub R (-1) 1 _ hs
   have hfm : ((s.kids.take k).map fun u => u.toT.depth).foldr max 0 ≤ s.toT.depth := T.foldr_max_le fun y hy => by
    obtain ⟨u, hu, rfl⟩ := List.mem_map.1 hy
    have := I.kid_depth (List.mem_of_mem_take hu); omega
   simp only at this
   exact ⟨by omega, by omega⟩
  ·have hkl : k = s.kids.length := by simp only at hkf hkn; omega
   subst hkl
   rw [List.take_length]
   have : s.toT.depth = 1 + ((s.kids.map I.toT).map T.depth).foldr max 0 := by rw [I.toT_eq s, T.depth_eq]; rfl
   rw [this, List.map_map]
   congr 1
   rw [show (s.kids.map fun u => u.toT.depth) = s.kids.map (T.depth ∘ I.toT) from rfl]
   omega
end
end
section
open Go.RowKit Go.MapKept
theorem takeI {l : List I} {k : Nat} (h : k < l.length) : l.take (k + 1) = l.take k ++ [l[k]] := List.take_succ_eq_append_getElem h
section
variable {A : List Nat} {D : Nat} {R : I}
theorem domSub : ∀ (s : I) {w : World}, Dom A w D R → ∀ (p : Int) (d : Nat), (s, p, d) ∈ R.all (-1) 1 → Calls Tryz.prog 28 #[.pointer (some ⟨D, 0, none⟩), .int .i64 s.id] w (Ret fun v w' => Ext w w' ∧ ∃ sa sk : Sl, v = tv s.toT sa sk ∧ RdT (List.range w.heap.size) w' s.toT sa sk) := I.ind' fun s ih w h p d hs => by
 have hR := h.okay
 have h0 := h
 obtain ⟨l, M, m, X, h1, h2, h3⟩ := h
 refine dom_Dom_tree.ok _ _ ?_
 unfold dom_Dom_tree.vc
 intro w1 B1 hN1 hE1
 have hb1 := hN1.ge
 refine CallK.ext (domNode (h1.ext hE1) s.id) ?_
 rintro v w2 hE2 (⟨hn, rfl⟩ | ⟨i, x, g, hi, hx, hg, rfl⟩)
 ·have := recNone h2 hn
  rw [I.find_of hR.nodup hs] at this; cases this
 obtain ⟨e, he, hr⟩ := recOf h2 h3 hi
 rw [hx, I.find_of hR.nodup hs] at he
 cases he
 have hE02 := hE1.trans hE2
 obtain ⟨g', hg', hgb, hc⟩ := (h1.ext hE02).at hi
 rw [hg] at hg'; cases hg'
 have hx' := List.mem_of_getElem? hi
 have hfit := h1.fit x hx'
 refine ⟨some ⟨g, i * 8, none⟩, rfl, _, rfl, x.r.kind, x.r.name, x.r.text, x.sa, Sl.nil, ?_, fun w3 B3 hN3 hE3 => ?_⟩
 ·intro j v hv
  rw [Addr.add_add]
  refine hc (2 + j) v ?_
  have e : ndc x = [.int .i64 x.r.id, .int .i64 x.r.par] ++ ([.int .i64 x.r.kind, .string (Bs x.r.name), .string (Bs x.r.text), x.sa.v, Sl.nil.v] ++ [x.sk.v]) := rfl
  rw [e, List.getElem?_append_right (by simp), List.length_cons, List.length_singleton, show 2 + j - (1 + 1) = j by omega, List.getElem?_append_left (List.getElem?_eq_some_iff.1 hv).1]
  exact hv
 have hb3 := hN3.ge
 have hE03 := hE02.trans hE3
 refine CallK.ext (cloneAttrs ((h1.ext hE03).sa x hx').row (by omega)) ?_
 rintro v w4 hE4 ⟨sa', rfl, hsa⟩
 refine ⟨sa', rfl, _, rfl, fun w5 hC5 => ?_⟩
 have hE04 := hE03.trans hE4
 have h5E : Ext w w5 := Chg.fresh hE04 hC5 (by simp only [List.mem_singleton]; rintro b rfl; have := hE02.size; omega)
 have h35 : w3.heap.size ≤ w5.heap.size := Nat.le_trans hE4.size hC5.size
 have hsa5 : Own (List.range w3.heap.size) w5 sa' 2 63 (s.attrs.map ac) := by
  have := hsa.chg hC5 fun b hb => by simp only [List.mem_singleton] at hb; subst hb; exact List.mem_range.2 hN3.lt
  rwa [hr] at this
 obtain ⟨g', hg', hgb, hc5⟩ := (h1.ext h5E).at hi
 rw [hg] at hg'; cases hg'
 have hk5 := (h1.ext h5E).sk x hx'
 have hkr : x.r.kids = s.kids.map I.id := by rw [hr]; rfl
 rw [hkr] at hk5
 have hkn := hk5.len
 simp only [List.length_map] at hkn
 have hkf := kids_few hR hs
 simp only at hkf
 refine ⟨x.sk, hc5 7 _ rfl, fun j c w' => ∃ k : Nat, j = (k : Int) ∧ k ≤ s.kids.length ∧ Nur (List.range w3.heap.size) w' c ((s.kids.take k).map I.toT) ∧ Own (List.range w3.heap.size) w' sa' 2 63 (s.attrs.map ac) ∧ (∀ b ∈ c.blk, b ∉ sa'.blk) ∧ w5.heap.size ≤ w'.heap.size ∧ Ext w w', fun j _ _ => s.kids.length - j.toNat, ⟨0, rfl, by omega, Nur.nil _ _, hsa5, by simp [Sl.blk], Nat.le_refl _, h5E⟩, ?_⟩
 rintro _ c w6 ⟨k, rfl, hk, hNur, hA6, hdis, hsz, hE6⟩
 rw [Int.toNat_natCast]
 refine ⟨fun hlt => ?_, fun hge w7 hC7 => ?_⟩
 ·have hk' : k < s.kids.length := by omega
  have hum : s.kids[k] ∈ s.kids := List.getElem_mem hk'
  have hgd : (s.kids.map I.id).getD k 0 = s.kids[k].id := by simp [List.getD_eq_getElem?_getD, hk']
  have hk6 := (h1.ext hE6).sk x hx'
  rw [hkr] at hk6
  obtain ⟨q, hq, hcq⟩ := hk6.row.int (k := k) (by simpa using hk')
  rw [hgd] at hcq
  refine ⟨⟨by omega, hlt⟩, q, hq, _, hcq, fun w7 hE7 => ⟨fun kd n t a b w' => kd = s.kids[k].toT.kind ∧ n = s.kids[k].toT.name ∧ t = s.kids[k].toT.text ∧ RdT (List.range w7.heap.size) w' s.kids[k].toT a b, fun _ _ _ _ _ w' w'' hE hv => ⟨hv.1, hv.2.1, hv.2.2.1, hv.2.2.2.ext hE⟩, fun w' hE => ?_, ?_⟩⟩
  ·refine Ret.mono (ih _ hum (h0.ext (hE6.trans (hE7.trans hE))) s.id (d + 1) (I.all_kid hs hum)) ?_
   rintro v w'' ⟨h1, a, b, rfl, h2⟩
   exact ⟨h1, _, _, _, a, b, rfl, rfl, rfl, rfl, h2.less fun b hb => List.mem_range.2 (Nat.lt_of_lt_of_le (List.mem_range.1 hb) hE.size)⟩
  rintro w8 _ _ _ a b B8 hE8 ⟨rfl, rfl, rfl, hV⟩ hB8 hbox8 _
  have hE68 : Ext w6 w8 := hE7.trans hE8
  have hA8 : ∀ b ∈ List.range w3.heap.size, b < w8.heap.size := fun b hb => by
   have := List.mem_range.1 hb; have := hE68.size; omega
  refine (hNur.ext hE68).push hA8 hbox8 ?_ (by simp; omega) ?_ fun s' w9 hN hC hbl => ⟨s', rfl, ⟨by omega, by omega⟩, fun w10 hC10 => ⟨⟨k + 1, by omega, by omega, ?_, ?_, ?_, ?_, ?_⟩, by dsimp only; omega⟩⟩
  ·refine hV.less fun y hy => List.mem_range.2 ?_
   have := hE7.size
   rcases List.mem_append.1 hy with hy | hy
   ·have := (hNur.own.2.2.2 y hy).2; omega
   ·have := List.mem_range.1 hy; omega
  ·intro b hb
   simp only [List.mem_cons, List.not_mem_nil, or_false] at hb
   rcases hb with rfl | rfl
   ·exact List.mem_range.2 (by have := hN1.lt; have := hE2.size; have := hE3.size; omega)
   ·exact List.mem_range.2 hN3.lt
  ·have hF : ∀ b ∈ [B3], b ∈ List.range w3.heap.size := by simp only [List.mem_singleton]; rintro b rfl; exact List.mem_range.2 hN3.lt
   rw [takeI hk', List.map_append]; exact hN.chg hC10 hF
  ·have hF : ∀ b ∈ [B3], b ∈ List.range w3.heap.size := by simp only [List.mem_singleton]; rintro b rfl; exact List.mem_range.2 hN3.lt
   have := (hA6.ext hE68)
   have h2 : Own (c.own ++ List.range w3.heap.size) w8 sa' 2 63 (s.attrs.map ac) := this.avoid fun b hb hm => by
    rcases List.mem_append.1 hm with hm | hm
    ·exact hdis b (Sl.own_blk hm) hb
    ·exact (this.blk b hb).1 hm
   exact (Own.less (A' := List.range w3.heap.size) (h2.chg hC (fun b hb => List.mem_append_left _ hb)) (fun b hb => List.mem_append_right _ hb)).chg hC10 hF
  ·intro b hb hm
   rcases hbl b hb with h | h
   ·exact hdis b (Sl.own_blk h) hm
   ·have := (hA6.blk b hm).2
    have := hE68.size; omega
  ·have h1 := hE68.size; have h2 := hC.size; have h3 := hC10.size; omega
  ·refine Chg.fresh (Chg.fresh (hE6.trans hE68) hC fun y hy => ?_) hC10 (by simp only [List.mem_singleton]; rintro b rfl; have := hE02.size; omega)
   have := (hNur.own.2.2.2 y (Sl.own_blk hy)).1
   have h2 := hE03.size
   simp at this; omega
 ·have hkl : k = s.kids.length := by omega
  subst hkl
  rw [List.take_length] at hNur
  have hF : ∀ b ∈ [B1], b ∈ List.range w3.heap.size := by simp only [List.mem_singleton]; rintro b rfl; exact List.mem_range.2 (by have := hN1.lt; have := hE2.size; have := hE3.size; omega)
  have hrd := (hNur.chg hC7 hF).rd (k := s.kind) (n := s.name) (x := s.text) (hA6.chg hC7 hF).row
  refine ⟨Chg.fresh hE6 hC7 (by simp only [List.mem_singleton]; rintro b rfl; omega), sa', c, ?_, ?_⟩
  ·rw [I.toT_eq, hr]; rfl
  ·rw [I.toT_eq]
   exact hrd.less fun b hb => List.mem_range.2 (Nat.lt_of_lt_of_le (List.mem_range.1 hb) hE03.size)
theorem domTree {w : World} (h : Dom A w D R) : Calls Tryz.prog 20 #[.pointer (some ⟨D, 0, none⟩)] w (Ret fun v w' => Ext w w' ∧ ∃ sa sk : Sl, v = tv R.toT sa sk ∧ RdT (List.range w.heap.size) w' R.toT sa sk) := by
 refine dom_Dom_Tree.ok _ ?_
 unfold dom_Dom_Tree.vc
 intro w1 B1 hN1 hE1
 have hs := domSub R (h.ext hE1) (-1) 1 (I.all_self R (-1) 1)
 rw [h.okay.root] at hs
 have hb1 := hN1.ge
 refine CallK.ext hs ?_
 rintro v w2 hE2 ⟨sa, sk, rfl, hrd⟩
 refine ⟨_, _, _, sa, sk, rfl, fun w3 hC3 => ⟨Chg.fresh (hE1.trans hE2) hC3 (by simpa using hb1), sa, sk, rfl, ?_⟩⟩
 have hF : ∀ b ∈ [B1], b ∈ List.range w1.heap.size := by simp only [List.mem_singleton]; rintro b rfl; exact List.mem_range.2 hN1.lt
 exact (hrd.chg hC3 hF).less fun b hb => List.mem_range.2 (Nat.lt_of_lt_of_le (List.mem_range.1 hb) hE1.size)
end
end
section
open Go.RowKit Go.MapKept
structure Mod (A : List Nat) (w w' : World) : Prop where
 os : w'.os = w.os
 tape : w'.tape = w.tape
 output : w'.output = w.output
 size : w.heap.size ≤ w'.heap.size
 block : ∀ k, k < w.heap.size → k ∈ A → w'.heap[k]? = w.heap[k]?
def Free (A : List Nat) (w : World) : List Nat := (List.range w.heap.size).filter fun b => !A.contains b
theorem mem_free {A : List Nat} {w : World} {b : Nat} : b ∈ Free A w ↔ b < w.heap.size ∧ b ∉ A := by simp [Free]
section
variable {A A' F : List Nat} {a b c w w' : World}
theorem Mod.of (h : Chg F a b) (hF : ∀ x ∈ F, x ∉ A) : Mod A a b := ⟨h.os, h.tape, h.output, h.size, fun k hk hA => h.block k hk fun hm => hF k hm hA⟩
theorem Mod.ext (h : Ext a b) : Mod A a b := Mod.of h (by simp)
theorem Mod.refl (A : List Nat) (w : World) : Mod A w w := Mod.ext (Chg.refl _ _)
theorem Mod.trans (h : Mod A a b) (k : Mod A b c) : Mod A a c := ⟨k.os.trans h.os, k.tape.trans h.tape, k.output.trans h.output, Nat.le_trans h.size k.size, fun i hi hA => (k.block i (Nat.lt_of_lt_of_le hi h.size) hA).trans (h.block i hi hA)⟩
theorem Mod.less (h : Mod A a b) (hA : ∀ x ∈ A', x ∈ A) : Mod A' a b := ⟨h.os, h.tape, h.output, h.size, fun k hk hm => h.block k hk (hA k hm)⟩
theorem Mod.chg (h : Mod A a b) : Chg (Free A a) a b := ⟨h.os, h.tape, h.output, h.size, fun k hk hm => h.block k hk (by
 by_cases hA : k ∈ A
 ·exact hA
 ·exact absurd (mem_free.2 ⟨hk, hA⟩) hm)⟩
theorem Mod.fresh (h : Ext a b) (k : Mod A b c) (hA : ∀ x, x < a.heap.size → x ∈ A) : Ext a c := ⟨k.os.trans h.os, k.tape.trans h.tape, k.output.trans h.output, Nat.le_trans h.size k.size, fun i hi _ => (k.block i (Nat.lt_of_lt_of_le hi h.size) (hA i hi)).trans (h.block i hi (by simp))⟩
theorem Box.mod {B : Nat} {T : TypeId} {cs : List Value} (h : Box a B T cs) (k : Mod A a b) (hB : B ∈ A) : Box b B T cs := h.keep k.chg fun hm => (mem_free.1 hm).2 hB
theorem CallK.mod {P : Program} {f : FuncId} {args : Array Value} {bx : List Nat} {R K : Value → World → Prop}
  (h : Calls P f args w (Ret fun v w' => Mod A w w' ∧ R v w')) (hd : ∀ b ∈ bx, b ∈ A) (k : ∀ v w', Mod A w w' → R v w' → K v w') : CallK P f args w bx K :=
 Ret.mono h fun v w' ⟨he, hr⟩ => ⟨fun b hb hlt => he.block b hlt (hd b hb), he.size, k v w' he hr⟩
def Safe (A : List Nat) (w : World) (t : T) (sa sk : Sl) : Prop := RdT (Free A w) w t sa sk
theorem Safe.mod {t : T} {sa sk : Sl} (h : Safe A a t sa sk) (k : Mod A a b) : Safe A b t sa sk := by
 have h1 : RdT (Free A a) b t sa sk := RdT.chg k.chg (fun x hx => hx) h
 have h2 : RdT (Free A b) a t sa sk := RdT.wide h fun x hx => by
  have := mem_free.1 hx
  by_cases hlt : x < a.heap.size
  ·exact .inl (mem_free.2 ⟨hlt, this.2⟩)
  ·exact .inr (by omega)
 exact RdT.chg k.chg (fun x hx => by
  have h3 := mem_free.1 hx
  exact mem_free.2 ⟨Nat.lt_of_lt_of_le h3.1 k.size, h3.2⟩) h2
theorem Safe.of {X : List Nat} {t : T} {sa sk : Sl} (h : RdT X w t sa sk) (hA : ∀ x, x < w.heap.size → x ∈ A) : Safe A w t sa sk := RdT.wide h fun x hx => by
 have := mem_free.1 hx
 exact absurd (hA x this.1) this.2
theorem Safe.more {t : T} {sa sk : Sl} (h : Safe A w t sa sk) (hA : ∀ x ∈ A, x ∈ A') : Safe A' w t sa sk := RdT.less h fun x hx => by
 have := mem_free.1 hx
 exact mem_free.2 ⟨this.1, fun hm => this.2 (hA x hm)⟩
end
theorem findAt_congr : ∀ {X Y : List Nd}, (X.map fun x => x.r.id) = Y.map (fun x => x.r.id) → ∀ k i, findAt X k i = findAt Y k i
 |[], [], _, k, i => rfl
 |[], _ :: _, h, _, _ => by cases h
 |_ :: _, [], h, _, _ => by cases h
 |x :: r, y :: q, h, k, i => by
  simp only [List.map_cons, List.cons.injEq] at h
  rw [findAt, findAt, h.1, findAt_congr h.2]
theorem set_ids {X : List Nd} {i : Nat} {x x' : Nd} (hi : X[i]? = some x) (hid : x'.r.id = x.r.id) : ((X.set i x').map fun x => x.r.id) = X.map fun x => x.r.id := by
 apply List.ext_getElem?
 intro j
 rw [List.getElem?_map, List.getElem?_map, List.getElem?_set]
 by_cases h : i = j
 ·subst h
  obtain ⟨h1, _⟩ := List.getElem?_eq_some_iff.1 hi
  rw [if_pos rfl, if_pos h1, hi]
  simp [hid]
 ·rw [if_neg h]
theorem set_at {X : List Nd} {i : Nat} {x x' : Nd} (hi : X[i]? = some x) {j : Nat} {y : Nd} (hy : (X.set i x')[j]? = some y) : (j = i ∧ y = x') ∨ (j ≠ i ∧ X[j]? = some y) := by
 rw [List.getElem?_set] at hy
 by_cases h : i = j
 ·subst h
  obtain ⟨h1, _⟩ := List.getElem?_eq_some_iff.1 hi
  rw [if_pos rfl, if_pos h1] at hy
  exact .inl ⟨rfl, (Option.some.inj hy).symm⟩
 ·rw [if_neg h] at hy; exact .inr ⟨fun e => h e.symm, hy⟩
section
variable {A : List Nat} {w w1 w2 : World} {D : Nat} {l : Sl} {M : Nat} {m : List (Int × Value)} {X : List Nd}
theorem Arena.only (h : Arena A w D l M m X) {i : Nat} {x : Nd} (hi : X[i]? = some x) {b : Nat} (hb : b ∈ x.sa.blk ∨ b ∈ x.sk.blk) : b ∉ A ∧ b ≠ D ∧ b ≠ M ∧ b ∉ l.blk ∧ ∀ j y, j ≠ i → X[j]? = some y → b ∉ y.sa.blk ∧ b ∉ y.sk.blk := by
 have hx := List.mem_of_getElem? hi
 have ha := h.sa x hx
 have hk := h.sk x hx
 rcases hb with hb | hb
 ·refine ⟨(ha.blk b hb).1, fun e => (ha.other h.box (by decide)) (e ▸ hb), fun e => (ha.noMap h.map) (e ▸ hb), (ha.apart h.row (by decide)) b hb, fun j y hj hy => ⟨(h.apart i j x y (fun e => hj e.symm) hi hy).1 b hb, (ha.apart (h.sk y (List.mem_of_getElem? hy)) (by decide)) b hb⟩⟩
 ·refine ⟨(hk.blk b hb).1, fun e => (hk.other h.box (by decide)) (e ▸ hb), fun e => (hk.noMap h.map) (e ▸ hb), (hk.apart h.row (by decide)) b hb, fun j y hj hy => ⟨(hk.apart (h.sa y (List.mem_of_getElem? hy)) (by decide)) b hb, (h.apart i j x y (fun e => hj e.symm) hi hy).2 b hb⟩⟩
theorem Arena.upd (h : Arena A w D l M m X) {i : Nat} {x : Nd} (hi : X[i]? = some x) (x' : Nd) (hid : x'.r.id = x.r.id) {F : List Nat} (hC : Chg F w w1) (hF : ∀ b ∈ F, b ∈ x.sa.blk ∨ b ∈ x.sk.blk ∨ w.heap.size ≤ b)
  (hsa : Own A w1 x'.sa 2 63 (x'.r.attrs.map ac)) (hsk : Own A w1 x'.sk 1 3 (x'.r.kids.map ic)) (hba : ∀ b ∈ x'.sa.blk, b ∈ x.sa.blk ∨ w.heap.size ≤ b) (hbk : ∀ b ∈ x'.sk.blk, b ∈ x.sk.blk ∨ w.heap.size ≤ b) (hfit : x'.r.attrs.length ≤ 1000000 ∧ x'.r.kids.length ≤ 1000000)
  {g : Nat} {cur us : List Value} {o : Nat} (hg : l.a = some ⟨g, 0, none⟩) (hB : Box w1 g 88 cur) (hC2 : Chg [g] w1 w2) (hB2 : Box w2 g 88 (putAt cur (i * 8 + o) us)) (ho : o + us.length ≤ 8) (hput : putAt (ndc x) o us = ndc x') :
  Arena A w2 D l M m (X.set i x') ∧ Chg (g :: F) w w2 := by
 have hx := List.mem_of_getElem? hi
 have hgl : l.blk = [g] := by simp [Sl.blk, hg]
 have hgd : g ≠ D := fun e => (h.row.other h.box (by decide)) (by rw [hgl, e]; simp)
 have hgm : g ≠ M := fun e => (h.row.noMap h.map) (by rw [hgl, e]; simp)
 have hgA : g ∉ A := (h.row.blk g (by rw [hgl]; simp)).1
 have hglt : g < w.heap.size := (h.row.blk g (by rw [hgl]; simp)).2
 have hFn : ∀ {b : Nat}, b ∈ F → b < w.heap.size → b ∈ x.sa.blk ∨ b ∈ x.sk.blk := fun hb hlt => by
  rcases hF _ hb with h | h | h
  ·exact .inl h
  ·exact .inr h
  ·omega
 have hDF : D ∉ F := fun hm => (h.only hi (hFn hm h.box.lt)).2.1 rfl
 have hMF : M ∉ F := fun hm => (h.only hi (hFn hm h.map.lt)).2.2.1 rfl
 have hlF : ∀ b ∈ l.blk, b ∉ F := fun b hb hm => (h.only hi (hFn hm (h.row.blk b hb).2)).2.2.2.1 hb
 obtain ⟨hil, _⟩ := List.getElem?_eq_some_iff.1 hi
 have hil' : i < (X.map ndc).length := by simpa using hil
 have hgD : (X.map ndc).getD i [] = ndc x := by rw [List.getD_eq_getElem?_getD, List.getElem?_map, hi]; rfl
 have hrow := (h.row.keep hC hlF).put hg hB hil' ho hB2
 rw [hgD, hput, ← List.map_set] at hrow
 have oth : ∀ (j : Nat) (y : Nd), j ≠ i → X[j]? = some y → Own A w2 y.sa 2 63 (y.r.attrs.map ac) ∧ Own A w2 y.sk 1 3 (y.r.kids.map ic) := fun j y hj hy => by
  have hym := List.mem_of_getElem? hy
  have a1 := h.sa y hym
  have k1 := h.sk y hym
  refine ⟨(a1.keep hC fun b hb hm => ((h.only hi (hFn hm (a1.blk b hb).2)).2.2.2.2 j y hj hy).1 hb).keep hC2 fun b hb hm => ?_, (k1.keep hC fun b hb hm => ((h.only hi (hFn hm (k1.blk b hb).2)).2.2.2.2 j y hj hy).2 hb).keep hC2 fun b hb hm => ?_⟩
  ·simp at hm; exact (a1.apart h.row (by decide)) b hb (by rw [hgl, hm]; simp)
  ·simp at hm; exact (k1.apart h.row (by decide)) b hb (by rw [hgl, hm]; simp)
 have own : Own A w2 x'.sa 2 63 (x'.r.attrs.map ac) ∧ Own A w2 x'.sk 1 3 (x'.r.kids.map ic) := by
  refine ⟨hsa.keep hC2 fun b hb hm => ?_, hsk.keep hC2 fun b hb hm => ?_⟩
  ·simp at hm; exact (hsa.other hB (by decide)) (hm ▸ hb)
  ·simp at hm; exact (hsk.other hB (by decide)) (hm ▸ hb)
 have each : ∀ (j : Nat) (y : Nd), (X.set i x')[j]? = some y → Own A w2 y.sa 2 63 (y.r.attrs.map ac) ∧ Own A w2 y.sk 1 3 (y.r.kids.map ic) ∧ y.r.attrs.length ≤ 1000000 ∧ y.r.kids.length ≤ 1000000 := fun j y hy => by
  rcases set_at hi hy with ⟨_, rfl⟩ | ⟨hj, hy⟩
  ·exact ⟨own.1, own.2, hfit⟩
  ·exact ⟨(oth j y hj hy).1, (oth j y hj hy).2, h.fit y (List.mem_of_getElem? hy)⟩
 have eachM : ∀ y ∈ X.set i x', Own A w2 y.sa 2 63 (y.r.attrs.map ac) ∧ Own A w2 y.sk 1 3 (y.r.kids.map ic) ∧ y.r.attrs.length ≤ 1000000 ∧ y.r.kids.length ≤ 1000000 := fun y hy => by
  obtain ⟨j, hj, e⟩ := List.getElem_of_mem hy
  exact each j y (by rw [List.getElem?_eq_getElem hj, e])
 have newer : ∀ (j : Nat) (y : Nd), j ≠ i → X[j]? = some y → (∀ b ∈ x'.sa.blk, b ∉ y.sa.blk) ∧ ∀ b ∈ x'.sk.blk, b ∉ y.sk.blk := fun j y hj hy => by
  have hym := List.mem_of_getElem? hy
  refine ⟨fun b hb hm => ?_, fun b hb hm => ?_⟩
  ·rcases hba b hb with h1 | h1
   ·exact (h.apart i j x y (fun e => hj e.symm) hi hy).1 b h1 hm
   ·have := ((h.sa y hym).blk b hm).2; omega
  ·rcases hbk b hb with h1 | h1
   ·exact (h.apart i j x y (fun e => hj e.symm) hi hy).2 b h1 hm
   ·have := ((h.sk y hym).blk b hm).2; omega
 refine ⟨⟨(h.box.keep hC hDF).keep hC2 (by simpa using fun e => hgd e.symm), h.dA, h.mA, hrow, fun y hy => (eachM y hy).1, fun y hy => (eachM y hy).2.1, fun j k y z hjk hy hz => ?_, (h.map.chg hC hMF).chg hC2 (by simpa using fun e => hgm e.symm), fun k => ?_, h.mkeys, by rw [set_ids hi hid]; exact h.nodup, by rw [List.length_set]; exact h.few, fun y hy => (eachM y hy).2.2⟩, ?_⟩
 ·rcases set_at hi hy with ⟨e1, e2⟩ | ⟨hj, hy'⟩
  ·rcases set_at hi hz with ⟨e, _⟩ | ⟨hk, hz'⟩
   ·exact absurd (e1.trans e.symm) hjk
   ·rw [e2]; exact newer k z hk hz'
  ·rcases set_at hi hz with ⟨e1, e2⟩ | ⟨hk, hz'⟩
   ·have := newer j y hj hy'
    rw [e2]
    exact ⟨fun b hb hm => this.1 b hm hb, fun b hb hm => this.2 b hm hb⟩
   ·exact h.apart j k y z hjk hy' hz'
 ·rw [h.keys, findAt_congr (set_ids hi hid)]
 ·exact (hC.mono fun x hx => List.mem_cons_of_mem _ hx).trans (hC2.mono fun x hx => by simp only [List.mem_singleton] at hx; rw [hx]; exact List.mem_cons_self ..)
theorem mput_mem {κ : Type} [DecidableEq κ] {m : List (κ × Value)} {k : κ} {v : Value} {x : κ} : x ∈ (mput m k v).map (fun p => p.1) → x = k ∨ x ∈ m.map fun p => p.1 := by
 induction m with
 |nil => intro h; left; simpa [mput] using h
 |cons p r ih =>
  intro h
  by_cases hp : p.1 = k
  ·rw [mput, if_pos hp] at h
   rw [List.map_cons] at h
   rcases List.mem_cons.1 h with h | h
   ·exact .inl h
   ·exact .inr (by rw [List.map_cons]; exact List.mem_cons_of_mem _ h)
  ·rw [mput, if_neg hp, List.map_cons] at h
   rcases List.mem_cons.1 h with h | h
   ·exact .inr (by rw [List.map_cons, h]; exact List.mem_cons_self ..)
   ·exact (ih h).imp id fun h => by rw [List.map_cons]; exact List.mem_cons_of_mem _ h
theorem mput_keys {κ : Type} [DecidableEq κ] {m : List (κ × Value)} (k : κ) (v : Value) (h : (m.map fun p => p.1).Nodup) : ((mput m k v).map fun p => p.1).Nodup := by
 induction m with
 |nil => simp [mput]
 |cons p r ih =>
  rw [List.map_cons] at h
  obtain ⟨h1, h2⟩ := List.nodup_cons.1 h
  by_cases hp : p.1 = k
  ·rw [mput, if_pos hp, List.map_cons]
   exact List.nodup_cons.2 ⟨by rw [← hp]; exact h1, h2⟩
  ·rw [mput, if_neg hp, List.map_cons]
   refine List.nodup_cons.2 ⟨fun hm => ?_, ih h2⟩
   rcases mput_mem hm with e | hm
   ·exact hp e
   ·exact h1 hm
theorem Arena.push (h : Arena A w D l M m X) (x : Nd) (hid : ∀ y ∈ X, y.r.id ≠ x.r.id) {l' : Sl} {m' : List (Int × Value)} (hbox : Box w1 D 84 [l'.v, .map (some M)]) (hrow : Own A w1 l' 8 88 ((X ++ [x]).map ndc)) (hC : Mod A w w1)
  (oth : ∀ y ∈ X, Own A w1 y.sa 2 63 (y.r.attrs.map ac) ∧ Own A w1 y.sk 1 3 (y.r.kids.map ic)) (hsa : Own A w1 x.sa 2 63 (x.r.attrs.map ac)) (hsk : Own A w1 x.sk 1 3 (x.r.kids.map ic)) (hba : ∀ b ∈ x.sa.blk, w.heap.size ≤ b) (hbk : ∀ b ∈ x.sk.blk, w.heap.size ≤ b)
  (hfit : x.r.attrs.length ≤ 1000000 ∧ x.r.kids.length ≤ 1000000) (hmap : MapIs numV (.int .i64) w1 M m') (hm' : m' = mput m x.r.id (numV (X.length : Int))) (hfew : X.length + 1 ≤ 1000000) : Arena A w1 D l' M m' (X ++ [x]) := by
 have eachM : ∀ y ∈ X ++ [x], Own A w1 y.sa 2 63 (y.r.attrs.map ac) ∧ Own A w1 y.sk 1 3 (y.r.kids.map ic) ∧ y.r.attrs.length ≤ 1000000 ∧ y.r.kids.length ≤ 1000000 := fun y hy => by
  rcases List.mem_append.1 hy with hy | hy
  ·exact ⟨(oth y hy).1, (oth y hy).2, h.fit y hy⟩
  ·have : y = x := by simpa using hy
   subst this; exact ⟨hsa, hsk, hfit⟩
 have cases' : ∀ {j : Nat} {y : Nd}, (X ++ [x])[j]? = some y → (X[j]? = some y) ∨ (j = X.length ∧ y = x) := fun {j y} hy => by
  by_cases hj : j < X.length
  ·rw [List.getElem?_append_left hj] at hy; exact .inl hy
  ·rw [List.getElem?_append_right (by omega)] at hy
   have := (List.getElem?_eq_some_iff.1 hy).1
   have h0 : j - X.length = 0 := by simp at this; omega
   rw [h0] at hy
   exact .inr ⟨by omega, by simpa using hy.symm⟩
 have newer : ∀ y ∈ X, (∀ b ∈ x.sa.blk, b ∉ y.sa.blk) ∧ ∀ b ∈ x.sk.blk, b ∉ y.sk.blk := fun y hy =>
  ⟨fun b hb hm => by have := hba b hb; have := ((h.sa y hy).blk b hm).2; omega, fun b hb hm => by have := hbk b hb; have := ((h.sk y hy).blk b hm).2; omega⟩
 refine ⟨hbox, h.dA, h.mA, hrow, fun y hy => (eachM y hy).1, fun y hy => (eachM y hy).2.1, fun j k y z hjk hy hz => ?_, hmap, fun k => ?_, by rw [hm']; exact mput_keys _ _ h.mkeys, ?_, by rw [List.length_append]; exact hfew, fun y hy => (eachM y hy).2.2⟩
 ·rcases cases' hy with hy' | ⟨e1, e2⟩
  ·rcases cases' hz with hz' | ⟨_, e2⟩
   ·exact h.apart j k y z hjk hy' hz'
   ·have := newer y (List.mem_of_getElem? hy')
    rw [e2]
    exact ⟨fun b hb hm => this.1 b hm hb, fun b hb hm => this.2 b hm hb⟩
  ·rcases cases' hz with hz' | ⟨e3, _⟩
   ·rw [e2]; exact newer z (List.mem_of_getElem? hz')
   ·exact absurd (e1.trans e3.symm) hjk
 ·have hfa : ∀ (X : List Nd) (i : Nat), (∀ y ∈ X, y.r.id ≠ x.r.id) → findAt (X ++ [x]) k i = if k = x.r.id then some (i + X.length) else findAt X k i := fun X => by
   induction X with
   |nil =>
    intro i _
    show (if x.r.id = k then some i else none) = if k = x.r.id then some (i + 0) else none
    by_cases hk : k = x.r.id
    ·rw [if_pos hk, if_pos hk.symm]; rfl
    ·rw [if_neg hk, if_neg (fun e : x.r.id = k => hk e.symm)]
   |cons y r ih =>
    intro i hy
    rw [List.cons_append, findAt, ih (i + 1) fun z hz => hy z (by simp [hz])]
    by_cases hk : k = x.r.id
    ·rw [if_neg (fun e => hy y (by simp) (e.trans hk)), if_pos hk, if_pos hk, List.length_cons]
     congr 1; omega
    ·rw [if_neg hk, if_neg hk, findAt]
  rw [hm', mget_put, h.keys, hfa X 0 hid]
  by_cases hk : k = x.r.id
  ·rw [if_pos hk, if_pos hk, Nat.zero_add]; rfl
  ·rw [if_neg hk, if_neg hk]
 ·rw [List.map_append]
  refine List.nodup_append.2 ⟨h.nodup, by simp, fun a ha b hb e => ?_⟩
  simp only [List.map_cons, List.map_nil, List.mem_singleton] at hb
  obtain ⟨y, hy, rfl⟩ := List.mem_map.1 ha
  exact hid y hy (e.trans hb)
end
end
section
open Go.RowKit
namespace T
def span (t : T) : Nat := t.size + t.slots
theorem size_span (t : T) : t.size ≤ t.span := by unfold span; omega
theorem kid_span {t u : T} (h : u ∈ t.kids) : u.span < t.span := by
 unfold span
 rw [size_eq t, slots_eq t]
 have := mem_sum size h
 have := mem_sum slots h
 omega
theorem kids_span (t : T) : t.kids.length < t.span := by
 have h1 : t.kids.length ≤ (t.kids.map size).sum := by
  have h2 := sum_le (fun _ => 1) size t.kids fun u _ => by rw [size_eq]; omega
  have e : ∀ l : List T, (l.map fun _ => 1).sum = l.length := fun l => by induction l with
   |nil => rfl
   |cons a r ih => simp only [List.map_cons, List.sum_cons, ih, List.length_cons]; omega
  rw [e] at h2; exact h2
 unfold span
 rw [size_eq t]; omega
theorem attrs_span (t : T) : t.attrs.length ≤ t.span := by unfold span; rw [slots_eq]; omega
end T
theorem treeSizeS {A : List Nat} : ∀ t : T, t.span ≤ 1099511627776 → ∀ {w : World} {sa sk : Sl}, RdT A w t sa sk →
  Calls Tryz.prog 88 #[tv t sa sk] w (Ret fun v w' => Ext w w' ∧ v = .int .i64 (t.size : Int)) := T.ind' fun t ih hb w sa sk h => by
 refine tree_Size.ok _ _ _ _ _ ?_
 unfold tree_Size.vc
 have hn := h.nkids
 have hcp := h.caps
 have hl := T.kids_span t
 intro w1 B1 _ hE1
 refine ⟨fun n i w2 => ∃ k : Nat, i = (k : Int) ∧ k ≤ t.kids.length ∧ n = ((1 + ((t.kids.take k).map T.size).sum : Nat) : Int) ∧ Ext w w2, fun _ i _ => t.kids.length - i.toNat, ⟨0, rfl, Nat.zero_le _, by simp, hE1⟩, ?_⟩
 rintro _ _ w2 ⟨k, rfl, hk, rfl, hE⟩
 refine ⟨fun hi => ?_, fun hi => ⟨hE, ?_⟩⟩
 ·have hk' : k < t.kids.length := by omega
  obtain ⟨p, sa', sk', hp, _, hc, hr⟩ := (h.ext hE).kid hk'
  rw [Int.toNat_natCast]
  have hm := getD_mem (d := T.nul) hk'
  have hs := sum_take T.size hk'
  have hsl := sum_take_le T.size t.kids (k + 1)
  have ht := T.size_eq t
  have htb := T.size_span t
  refine ⟨⟨by omega, hi⟩, p, hp, _, _, _, sa', sk', hc, fun w3 B3 _ hE3 => CallK.exact (ih _ hm (by have := T.kid_span hm; omega) (hr.ext hE3)) fun w4 hE4 => ⟨_, rfl, ⟨by omega, by omega⟩, ⟨by omega, by omega⟩, ⟨k + 1, by omega, by omega, by omega, (hE.trans hE3).trans hE4⟩, by dsimp only; omega⟩⟩
 ·have hkl : k = t.kids.length := by omega
  subst hkl
  rw [List.take_of_length_le (Nat.le_refl _), T.size_eq t]
theorem treeDepthS {A : List Nat} : ∀ t : T, t.span ≤ 1099511627776 → ∀ {w : World} {sa sk : Sl}, RdT A w t sa sk →
  Calls Tryz.prog 89 #[tv t sa sk] w (Ret fun v w' => Ext w w' ∧ v = .int .i64 (t.depth : Int)) := T.ind' fun t ih hb w sa sk h => by
 refine tree_Depth.ok _ _ _ _ _ ?_
 unfold tree_Depth.vc
 have hn := h.nkids
 have hcp := h.caps
 have hl := T.kids_span t
 intro w1 B1 _ hE1
 refine ⟨fun n i w2 => ∃ k : Nat, i = (k : Int) ∧ k ≤ t.kids.length ∧ n = ((((t.kids.take k).map T.depth).foldr max 0 : Nat) : Int) ∧ Ext w w2, fun _ i _ => t.kids.length - i.toNat, ⟨0, rfl, Nat.zero_le _, by simp, hE1⟩, ?_⟩
 rintro _ _ w2 ⟨k, rfl, hk, rfl, hE⟩
 refine ⟨fun hi => ?_, fun hi => ?_⟩
 ·have hk' : k < t.kids.length := by omega
  obtain ⟨p, sa', sk', hp, _, hc, hr⟩ := (h.ext hE).kid hk'
  rw [Int.toNat_natCast]
  have hm := getD_mem (d := T.nul) hk'
  have hs := max_take T.depth hk'
  refine ⟨⟨by omega, hi⟩, p, hp, _, _, _, sa', sk', hc, fun w3 B3 _ hE3 => CallK.exact (ih _ hm (by have := T.kid_span hm; omega) (hr.ext hE3)) fun w4 hE4 => ⟨_, rfl, ⟨by omega, by omega⟩, ⟨k + 1, by omega, by omega, by omega, (hE.trans hE3).trans hE4⟩, by dsimp only; omega⟩⟩
 ·have hkl : k = t.kids.length := by omega
  subst hkl
  have h1 := T.depth_eq t
  have h2 := T.depth_size t
  have h3 := T.size_span t
  rw [List.take_of_length_le (Nat.le_refl _)]
  refine ⟨⟨by omega, by omega⟩, hE, ?_⟩
  rw [h1]; congr 1; omega
theorem treeKidsS {A : List Nat} (t : T) (hb : t.span ≤ 1099511627776)
  (ih : ∀ u ∈ t.kids, ∀ {w : World} {sa sk : Sl}, RdT A w u sa sk → Calls Tryz.prog 104 #[tv u sa sk] w (Ret fun v w' => Ext w w' ∧ v = .bool (nodeOk u))) {w : World} {sa sk : Sl} (h : RdT A w t sa sk) :
  Calls Tryz.prog 91 #[tv t sa sk] w (Ret fun v w' => Ext w w' ∧ v = .bool (kidsOk t)) := by
 refine tree_kids.ok _ _ _ _ _ ?_
 unfold tree_kids.vc
 have hn := h.nkids
 have hcp := h.caps
 have hl := T.kids_span t
 intro w1 B1 _ hE1
 refine ⟨fun i w2 => ∃ k : Nat, i = (k : Int) ∧ k ≤ t.kids.length ∧ kidsOk t = (t.kids.drop k).all (fun u => nodeOk u && !(decide (u.kind = 5) && !(decide (t.kind = 1)))) ∧ Ext w w2, fun i _ => t.kids.length - i.toNat, ⟨0, rfl, Nat.zero_le _, rfl, hE1⟩, ?_⟩
 rintro _ w2 ⟨k, rfl, hk, heq, hE⟩
 refine ⟨fun hi => ?_, fun hi => ⟨hE, ?_⟩⟩
 ·have hk' : k < t.kids.length := by omega
  obtain ⟨p, sa', sk', hp, _, hc, hr⟩ := (h.ext hE).kid hk'
  rw [Int.toNat_natCast]
  have hm := getD_mem (d := T.nul) hk'
  rw [List.drop_eq_getElem_cons hk', List.all_cons, show t.kids[k] = t.kids.getD k T.nul by rw [List.getD_eq_getElem?_getD, List.getElem?_eq_getElem hk']; rfl] at heq
  refine ⟨⟨by omega, hi⟩, p, hp, _, _, _, sa', sk', hc, fun w3 B3 _ hE3 => CallK.exact (ih _ hm (hr.ext hE3)) fun w4 hE4 => ⟨_, rfl, fun hbad => ⟨(hE.trans hE3).trans hE4, ?_⟩, fun hgood => ⟨⟨by omega, by omega⟩, ⟨k + 1, by omega, by omega, ?_, (hE.trans hE3).trans hE4⟩, by dsimp only; omega⟩⟩⟩
  ·rw [heq]
   rcases hbad with hb | ⟨hb1, hb2⟩
   ·rw [hb]; rfl
   ·rw [decide_eq_true hb1, decide_eq_false hb2]; simp
  ·rw [heq, hgood.1]
   rcases hgood.2 with hb | hb
   ·rw [decide_eq_false hb]; simp
   ·rw [decide_eq_true (Classical.not_not.1 hb)]; simp
 ·have hkl : k = t.kids.length := by omega
  subst hkl
  rw [heq, List.drop_length]; rfl
theorem treeNodeS {A : List Nat} : ∀ t : T, t.span ≤ 1099511627776 → ∀ {w : World} {sa sk : Sl}, RdT A w t sa sk →
  Calls Tryz.prog 104 #[tv t sa sk] w (Ret fun v w' => Ext w w' ∧ v = .bool (nodeOk t)) := T.ind' fun t ih hb w sa sk h => by
 refine tree_node.ok _ _ _ _ _ ?_
 unfold tree_node.vc
 have hn := h.nkids
 have hna := h.nattrs
 refine ⟨fun h2 => ?_, fun h2 => ?_⟩
 ·rw [nodeOk_el h2]
  intro w1 B1 _ hE1
  refine CallK.exact (treeName t.name) fun w2 hE2 => ⟨_, rfl, _, fun _ => treeAttrs (h.attrs.ext (hE1.trans hE2)), fun w3 hE3 => ⟨kidsOk t, fun _ => treeKidsS t hb (fun u hu _ _ _ hr => ih u hu (by have := T.kid_span hu; omega) hr) (h.ext ((hE1.trans hE2).trans hE3)), fun w4 hE4 => ⟨((hE1.trans hE2).trans hE3).trans hE4, ?_⟩⟩⟩
  rw [isEmpty_dec]
 ·rw [nodeOk_ne h2]
  refine ⟨fun hbad w1 B1 _ hE1 => ⟨hE1, ?_⟩, fun hgood => ?_⟩
  ·have : (t.attrs.isEmpty && t.kids.isEmpty) = false := by
    rcases hbad with hb | hb
    ·have : t.attrs.isEmpty = false := by cases hx : t.attrs <;> simp_all
     rw [this]; rfl
    ·have : t.kids.isEmpty = false := by cases hx : t.kids <;> simp_all
     rw [this, Bool.and_false]
   rw [this, Bool.false_and]
  ·have ha : t.attrs.isEmpty = true := by cases hx : t.attrs <;> simp_all
   have hk : t.kids.isEmpty = true := by cases hx : t.kids <;> simp_all
   rw [ha, hk, Bool.true_and, Bool.true_and]
   have l4 := le_dec t.text 4096
   have l3 := le_dec t.name 32
   rw [show ((4096 : Nat) : Int) = 4096 from rfl] at l4
   rw [show ((32 : Nat) : Int) = 32 from rfl] at l3
   refine ⟨fun h3 w1 B1 _ hE1 => ⟨hE1, ?_⟩, fun h3 => ⟨fun h4 w1 B1 _ hE1 => ⟨hE1, ?_⟩, fun h4 => ⟨fun h5 w1 B1 _ hE1 => ⟨hE1, ?_⟩, fun h5 w1 B1 _ hE1 => ⟨hE1, ?_⟩⟩⟩⟩
   ·rw [if_pos h3, isEmpty_dec, isEmpty_ndec, l4]
   ·rw [if_neg h3, if_pos h4, isEmpty_dec, l4]
   ·rw [if_neg h3, if_neg h4, if_pos h5, isEmpty_dec, l3]
   ·rw [if_neg h3, if_neg h4, if_neg h5]
theorem treeCheckS {A : List Nat} (t : T) (hb : t.span ≤ 1099511627776) {w : World} {sa sk : Sl} (h : RdT A w t sa sk) :
  Calls Tryz.prog 59 #[tv t sa sk] w (Ret fun v w' => Ext w w' ∧ v = .bool t.check) := by
 refine tree_Check.ok _ _ _ _ _ ?_
 unfold tree_Check.vc
 have hna := h.nattrs
 intro w1 B1 _ hE1
 refine ⟨_, fun _ => treeSizeS t hb (h.ext hE1), fun w2 hE2 => ⟨_, fun _ => treeDepthS t hb (h.ext (hE1.trans hE2)), fun w3 hE3 w4 hE4 B4 _ hB4 => ?_⟩⟩
 have hE14 := ((hE1.trans hE2).trans hE3).trans hE4
 refine ⟨(t.name.isEmpty && t.text.isEmpty), fun hg => ?_, fun w5 hE5 => ⟨kidsOk t, fun _ => treeKidsS t hb (fun u hu _ _ _ hr => treeNodeS u (by have := T.kid_span hu; omega) hr) (h.ext (hE14.trans hE5)), fun w6 hE6 => ⟨(hE14.trans hE5).trans hE6, ?_⟩⟩⟩
 ·have := treeEmpty (Box.strs (l := [t.name, t.text]) (hB4 hg) (by simp))
  simpa using this
 ·unfold T.check
  have e1 : decide ((t.size : Int) ≤ 300) = decide (t.size ≤ 300) := by rw [Bool.eq_iff_iff]; simp; omega
  have e2 : decide ((t.depth : Int) ≤ 60) = decide (t.depth ≤ 60) := by rw [Bool.eq_iff_iff]; simp; omega
  have e3 : decide ((sa.n : Int) = 0) = t.attrs.isEmpty := by
   rw [hna]; cases t.attrs with
   |nil => rfl
   |cons a r => simp; omega
  rw [e1, e2, e3]
end
end Go.Proofs.YtghmgfkdnolcdaaGreat
