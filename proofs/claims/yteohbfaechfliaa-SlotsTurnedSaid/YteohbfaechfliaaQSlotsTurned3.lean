/-
  What the proof of the statement leans on: texts one behind the other.
-/
import Derived.Test.YteohbfaechfliaaQSlotsTurned2
import Derived.Test.YteohbfaechfliaaQSlotsTurnedGref05
import Derived.Test.YteohbfaechfliaaQSlotsTurnedGref04
import Derived.Test.YteohbfaechfliaaQSlotsTurnedGref19
import Derived.Test.YteohbfaechfliaaQSlotsTurnedGref21
import Derived.Test.YteohbfaechfliaaQSlotsTurnedGref25
import Derived.Test.YteohbfaechfliaaQSlotsTurnedGlaw25same
import Derived.Test.YteohbfaechfliaaQSlotsTurnedGlaw25all
import Derived.Test.YteohbfaechfliaaQSlotsTurnedGref07
import Derived.Test.YteohbfaechfliaaQSlotsTurnedGref20P1
import Derived.Test.YteohbfaechfliaaQSlotsTurnedGref20P2
import Derived.Test.YteohbfaechfliaaQSlotsTurnedGlaw25SlotsTurned
namespace Go.Proofs.Yteohbfaechfliaa
section
open Go.RowKit
theorem refSize {A : List Nat} : ∀ t : T, t.bulk ≤ 1099511627776 → ∀ {w : World} {sa sk : Sl}, RdT A w t sa sk →
  Calls Try.prog 15 #[tv t sa sk] w (Ret fun v w' => Ext w w' ∧ v = .int .i64 (t.size : Int)) := T.ind' fun t ih hb w sa sk h => by
 refine ref05_Size.ok _ _ _ _ _ ?_
 unfold ref05_Size.vc
 have hn := h.nkids
 have hcp := h.caps
 have hl := T.kids_len t
 intro w1 B1 _ hE1
 refine ⟨fun n i w2 => ∃ k : Nat, i = (k : Int) ∧ k ≤ t.kids.length ∧ n = ((1 + ((t.kids.take k).map T.size).sum : Nat) : Int) ∧ Ext w w2, fun _ i _ => t.kids.length - i.toNat, ⟨0, rfl, Nat.zero_le _, by simp, hE1⟩, ?_⟩
 rintro _ _ w2 ⟨k, rfl, hk, rfl, hE⟩
 refine ⟨fun hi => ?_, fun hi => ⟨hE, ?_⟩⟩
 ·have hk' : k < t.kids.length := by omega
  obtain ⟨p, sa', sk', hp, _, hc, hr⟩ := (h.ext hE).kid hk'
  rw [Int.toNat_natCast]
  have hm := getD_mem (d := T.nul) hk'
  have hs := sum_take T.size hk'
  have hsl := sum_take_le T.size t.kids (k + 1)
  have ht := T.size_eq t
  have htb := T.size_bulk t
  refine ⟨⟨by omega, hi⟩, p, hp, _, _, _, sa', sk', hc, CallK.exact (ih _ hm (by have := T.kid_bulk hm; omega) hr) fun w4 hE4 => ⟨_, rfl, ⟨by omega, by omega⟩, ⟨by omega, by omega⟩, ⟨k + 1, by omega, by omega, by omega, hE.trans hE4⟩, by dsimp only; omega⟩⟩
 ·have hkl : k = t.kids.length := by omega
  subst hkl
  rw [List.take_of_length_le (Nat.le_refl _), T.size_eq t]
theorem refDepth {A : List Nat} : ∀ t : T, t.bulk ≤ 1099511627776 → ∀ {w : World} {sa sk : Sl}, RdT A w t sa sk →
  Calls Try.prog 50 #[tv t sa sk] w (Ret fun v w' => Ext w w' ∧ v = .int .i64 (t.depth : Int)) := T.ind' fun t ih hb w sa sk h => by
 refine ref05_Depth.ok _ _ _ _ _ ?_
 unfold ref05_Depth.vc
 have hn := h.nkids
 have hcp := h.caps
 have hl := T.kids_len t
 intro w1 B1 _ hE1
 refine ⟨fun n i w2 => ∃ k : Nat, i = (k : Int) ∧ k ≤ t.kids.length ∧ n = ((((t.kids.take k).map T.depth).foldr max 0 : Nat) : Int) ∧ Ext w w2, fun _ i _ => t.kids.length - i.toNat, ⟨0, rfl, Nat.zero_le _, by simp, hE1⟩, ?_⟩
 rintro _ _ w2 ⟨k, rfl, hk, rfl, hE⟩
 refine ⟨fun hi => ?_, fun hi => ?_⟩
 ·have hk' : k < t.kids.length := by omega
  obtain ⟨p, sa', sk', hp, _, hc, hr⟩ := (h.ext hE).kid hk'
  rw [Int.toNat_natCast]
  have hm := getD_mem (d := T.nul) hk'
  have hs := max_take T.depth hk'
  refine ⟨⟨by omega, hi⟩, p, hp, _, _, _, sa', sk', hc, CallK.exact (ih _ hm (by have := T.kid_bulk hm; omega) hr) fun w4 hE4 => ⟨_, rfl, ⟨by omega, by omega⟩, ⟨k + 1, by omega, by omega, by omega, hE.trans hE4⟩, by dsimp only; omega⟩⟩
 ·have hkl : k = t.kids.length := by omega
  subst hkl
  have h1 := T.depth_eq t
  have h2 := T.depth_size t
  have h3 := T.size_bulk t
  rw [List.take_of_length_le (Nat.le_refl _)]
  refine ⟨⟨by omega, by omega⟩, hE, ?_⟩
  rw [h1]; congr 1; omega
theorem refBlank {w : World} (c : Int) : Calls Try.prog 90 #[.int .u8 c] w (Ret fun v w' => Ext w w' ∧ v = .bool ((((decide (c = 9)) || (decide (c = 10))) || (decide (c = 12))) || (decide (c = 32)))) := by
 refine ref04_Blank.ok _ ?_
 unfold ref04_Blank.vc
 exact ⟨Chg.refl _ _, rfl⟩
theorem refName {w : World} (s : Str) : Calls Try.prog 82 #[.string (Bs s)] w (Ret fun v w' => Ext w w' ∧ v = .bool (nameOk s)) := by
 refine ref05_Name.ok _ ?_
 unfold ref05_Name.vc
 refine ⟨fun hc => ⟨Chg.refl _ _, ?_⟩, fun hc => ?_⟩
 ·have : nameOk s = false := by
   unfold nameOk
   rcases hc with hc | hc
   ·have : s = [] := List.eq_nil_of_length_eq_zero (by omega)
    subst this; rfl
   ·simp; omega
  rw [this]
 ·obtain ⟨h0, h32⟩ := hc
  refine ⟨fun i w1 => ∃ k : Nat, i = (k : Int) ∧ k ≤ s.length ∧ (s.take k).all byteOk = true ∧ Ext w w1, fun i _ => s.length - i.toNat, ⟨0, rfl, Nat.zero_le _, rfl, Chg.refl _ _⟩, ?_⟩
  rintro _ w1 ⟨k, rfl, hk, hall, hE⟩
  rw [Int.toNat_natCast]
  refine ⟨fun hi => ?_, fun hi => ⟨hE, ?_⟩⟩
  ·have hk' : k < s.length := by omega
   have hbad : byteOk (s.getD k 0) = false → nameOk s = false := fun hb => by
    have hm : s.getD k 0 ∈ s := by rw [List.getD_eq_getElem?_getD, List.getElem?_eq_getElem hk']; exact List.getElem_mem hk'
    unfold nameOk
    have : s.all byteOk = false := by
     rw [List.all_eq_false]; exact ⟨_, hm, fun h => by rw [hb] at h; cases h⟩
    rw [this, Bool.and_false]
   generalize hx : s.getD k 0 = c at hbad
   refine ⟨⟨by omega, hi⟩, CallK.exact (refBlank _) fun w2 hE2 => ⟨_, rfl, fun hset => ⟨hE.trans hE2, ?_⟩, fun hset => ⟨⟨by omega, by omega⟩, ⟨k + 1, by omega, by omega, ?_, hE.trans hE2⟩, by dsimp only; omega⟩⟩⟩
   ·rw [hbad ?_]
    unfold byteOk
    simp only [Bool.or_eq_true, decide_eq_true_eq] at hset
    simp; omega
   ·rw [List.take_succ_eq_append_getElem hk', List.all_append, hall]
    have : s[k] = c := by rw [← hx, List.getD_eq_getElem?_getD, List.getElem?_eq_getElem hk']; rfl
    rw [this]
    simp only [List.all_cons, List.all_nil, Bool.and_true, Bool.true_and]
    unfold byteOk
    simp only [Bool.or_eq_false_iff, decide_eq_false_iff_not] at hset
    simp; omega
  ·have hkl : k = s.length := by omega
   subst hkl
   rw [List.take_of_length_le (Nat.le_refl _)] at hall
   unfold nameOk
   rw [hall]
   have : s.isEmpty = false := by cases s <;> simp_all
   simp [this]; omega
theorem refAttr {A : List Nat} {w : World} {s : Sl} {l : List (Str × Str)} (h : Row A w s 2 (l.map ac)) (nm : Str) :
  Calls Try.prog 13 #[s.v, .string (Bs nm)] w (Ret fun v w' => Ext w w' ∧ v = .tuple #[.string (Bs (attrGet l nm).1), .bool (attrGet l nm).2]) := by
 refine ref05_Attr.ok _ _ ?_
 unfold ref05_Attr.vc
 have hl := h.len
 have hm := h.most
 have hc := h.cap
 simp only [List.length_map] at hl
 simp only [maxLen] at hm
 refine ⟨fun i w2 => ∃ k : Nat, i = (k : Int) ∧ k ≤ l.length ∧ attrGet l nm = attrGet (l.drop k) nm ∧ Ext w w2, fun i _ => l.length - i.toNat, ⟨0, rfl, Nat.zero_le _, rfl, Chg.refl _ _⟩, ?_⟩
 rintro _ w2 ⟨k, rfl, hk, heq, hE⟩
 rw [Int.toNat_natCast]
 refine ⟨fun hi => ?_, fun hi => ⟨hE, ?_⟩⟩
 ·have hk' : k < l.length := by omega
  obtain ⟨p, hp, _, hcell, _⟩ := (h.ext hE).at_ k (by simpa using hk')
  have e : (l.map ac).getD k [] = ac (l.getD k ([], [])) := by simp [List.getD_eq_getElem?_getD, hk']
  rw [e] at hcell
  have hd : l.drop k = l.getD k ([], []) :: l.drop (k + 1) := by
   rw [List.drop_eq_getElem_cons hk', List.getD_eq_getElem?_getD, List.getElem?_eq_getElem hk']; rfl
  rw [hd] at heq
  generalize l.getD k ([], []) = q at hcell heq
  obtain ⟨qn, qv⟩ := q
  refine ⟨⟨by omega, hi⟩, p, hp, qn, hcell 0 _ rfl, fun he => ⟨⟨by omega, hi⟩, p, hp, qv, hcell 1 _ rfl, hE, ?_⟩, fun hne => ⟨⟨by omega, by omega⟩, ⟨k + 1, by omega, by omega, ?_, hE⟩, by dsimp only; omega⟩⟩
  ·rw [heq, attrGet, if_pos he]
  ·rw [heq, attrGet, if_neg hne]
 ·have hkl : k = l.length := by omega
  subst hkl
  rw [heq, List.drop_length]; rfl
theorem attrsOk_nil {p : Str × Str} {r : List (Str × Str)} : attrsOk [] (p :: r) = (nameOk p.1 && decide (p.2.length ≤ 4096) && attrsOk p.1 r) := by
 have h1 : Op.bytesLess p.1 ([] : Str) = false := by cases p.1 <;> rfl
 rw [attrsOk, h1]
 by_cases h2 : p.1 = []
 ·have : nameOk p.1 = false := by rw [h2]; rfl
  simp [this]
 ·simp [h2]
theorem refAttrs {A : List Nat} {w : World} {s : Sl} {l : List (Str × Str)} (h : Row A w s 2 (l.map ac)) :
  Calls Try.prog 83 #[s.v] w (Ret fun v w' => Ext w w' ∧ v = .bool (decide (l.length ≤ 12) && attrsOk [] l)) := by
 refine ref05_attrs.ok _ ?_
 unfold ref05_attrs.vc
 have hl := h.len
 simp only [List.length_map] at hl
 refine ⟨fun hb => ⟨Chg.refl _ _, ?_⟩, fun hb => ?_⟩
 ·rw [decide_eq_false (show ¬ l.length ≤ 12 by omega)]; rfl
 rw [decide_eq_true (show l.length ≤ 12 by omega), Bool.true_and]
 refine ⟨fun i w1 => ∃ k : Nat, i = (k : Int) ∧ k ≤ l.length ∧ attrsOk [] l = attrsOk (if k = 0 then [] else (l.getD (k - 1) ([], [])).1) (l.drop k) ∧ Ext w w1, fun i _ => l.length - i.toNat, ⟨0, rfl, Nat.zero_le _, rfl, Chg.refl _ _⟩, ?_⟩
 rintro _ w1 ⟨k, rfl, hk, heq, hE⟩
 rw [Int.toNat_natCast]
 refine ⟨fun hi w2 hE2 => ?_, fun hi => ⟨hE, ?_⟩⟩
 ·have hk' : k < l.length := by omega
  have hE12 := hE.trans hE2
  obtain ⟨p, hp, _, hcell, _⟩ := (h.ext hE12).at_ k (by simpa using hk')
  have e : (l.map ac).getD k [] = ac (l.getD k ([], [])) := by simp [List.getD_eq_getElem?_getD, hk']
  rw [e] at hcell
  have hprev : ∃ q, 0 < k → s.a = some q ∧ w2.cell? ((q.add ((k - 1) * 2)).add 0) = some (.string (Bs (l.getD (k - 1) ([], [])).1)) := by
   by_cases h0 : 0 < k
   ·obtain ⟨q, hq, _, hqc, _⟩ := (h.ext hE12).at_ (k - 1) (by simp; omega)
    have e : (l.map ac).getD (k - 1) [] = ac (l.getD (k - 1) ([], [])) := by simp [List.getD_eq_getElem?_getD, show k - 1 < l.length by omega]
    rw [e] at hqc
    exact ⟨q, fun _ => ⟨hq, hqc 0 _ rfl⟩⟩
   ·exact ⟨p, fun h => absurd h h0⟩
  obtain ⟨q, hq⟩ := hprev
  have hnx : attrsOk (l.getD k ([], [])).1 (l.drop (k + 1)) = attrsOk (if k + 1 = 0 then [] else (l.getD (k + 1 - 1) ([], [])).1) (l.drop (k + 1)) := by rw [if_neg (by omega), Nat.add_sub_cancel]
  have hstep : attrsOk [] l = (nameOk (l.getD k ([], [])).1 && decide ((l.getD k ([], [])).2.length ≤ 4096) && (decide (k = 0) || (!(Op.bytesLess (l.getD k ([], [])).1 (l.getD (k - 1) ([], [])).1) && !(decide ((l.getD k ([], [])).1 = (l.getD (k - 1) ([], [])).1)))) && attrsOk (l.getD k ([], [])).1 (l.drop (k + 1))) := by
   by_cases h0 : k = 0
   ·subst h0
    rw [heq, if_pos rfl, drop_at l ([], []) hk', attrsOk_nil]; simp
   ·rw [heq, if_neg h0, attrsOk_drop hk']
    simp only [decide_eq_false h0, Bool.false_or]
    generalize Op.bytesLess (l.getD k ([], [])).1 (l.getD (k - 1) ([], [])).1 = x1
    generalize decide ((l.getD k ([], [])).1 = (l.getD (k - 1) ([], [])).1) = x2
    generalize nameOk (l.getD k ([], [])).1 = x3
    generalize decide ((l.getD k ([], [])).2.length ≤ 4096) = x4
    generalize attrsOk (l.getD k ([], [])).1 (l.drop (k + 1)) = x5
    cases x1 <;> cases x2 <;> cases x3 <;> cases x4 <;> rfl
  refine ⟨p, ⟨⟨by omega, hi⟩, hp⟩, _, hcell 0 _ rfl, _, fun w' _ => refName _, p, fun _ => ⟨⟨by omega, hi⟩, hp⟩, _, fun _ => hcell 1 _ rfl, p, fun _ => ⟨⟨by omega, hi⟩, hp⟩, _, fun _ => hcell 0 _ rfl, fun _ => ⟨by omega, by omega⟩, q, fun hg => ⟨⟨by omega, by omega⟩, (hq (by omega)).1⟩, (l.getD (k - 1) ([], [])).1, fun hg => ?_, fun hbad w3 hE3 => ⟨hE12.trans hE3, ?_⟩, fun hgood => ⟨⟨by omega, by omega⟩, fun w3 hE3 => ⟨⟨k + 1, by omega, by omega, ?_, hE12.trans hE3⟩, by dsimp only; omega⟩⟩⟩
  ·have := (hq (by omega)).2
   rw [show ((k : Int) - 1).toNat = k - 1 by omega]; exact this
  ·rw [hstep]
   rcases hbad with (hb | hb) | ⟨h0, hb⟩
   ·rw [hb]; rfl
   ·rw [decide_eq_false (show ¬ (l.getD k ([], [])).2.length ≤ 4096 by omega)]; simp
   ·rw [decide_eq_false (show ¬ k = 0 by omega)]
    rcases hb with hb | hb
    ·rw [hb]; simp
    ·rw [decide_eq_true hb]; simp
  ·rw [hstep, ← hnx]
   obtain ⟨⟨h1, h2⟩, h3⟩ := hgood
   rw [h1, decide_eq_true (show (l.getD k ([], [])).2.length ≤ 4096 by omega)]
   rcases h3 with h3 | ⟨h3, h4⟩
   ·rw [decide_eq_true (show k = 0 by omega)]; simp
   ·rw [h3, decide_eq_false h4]; simp
 ·have hkl : k = l.length := by omega
  subst hkl
  rw [heq, List.drop_length]; rfl
def mayOk (t : T) (top root : Bool) : Bool :=
 if t.kind = 1 then top && t.name.isEmpty && t.text.isEmpty && t.attrs.isEmpty
 else if t.kind = 2 then nameOk t.name && t.text.isEmpty && (decide (t.attrs.length ≤ 12) && attrsOk [] t.attrs)
 else if t.kind = 3 then t.name.isEmpty && t.attrs.isEmpty && t.kids.isEmpty && !t.text.isEmpty && decide (t.text.length ≤ 4096)
 else if t.kind = 4 then t.name.isEmpty && t.attrs.isEmpty && t.kids.isEmpty && decide (t.text.length ≤ 4096)
 else if t.kind = 5 then root && decide (t.name.length ≤ 32) && t.text.isEmpty && t.attrs.isEmpty && t.kids.isEmpty
 else false
theorem len_zero_dec {α : Type} (l : List α) (n : Nat) (h : n = l.length) : decide ((n : Int) = 0) = l.isEmpty := by
 subst h; cases l with
 |nil => rfl
 |cons a r => simp; omega
theorem refMay {A : List Nat} {w : World} {t : T} {sa sk : Sl} (h : RdT A w t sa sk) (top root : Bool) :
  Calls Try.prog 71 #[tv t sa sk, .bool top, .bool root] w (Ret fun v w' => Ext w w' ∧ v = .bool (mayOk t top root)) := by
 refine ref05_May.ok _ _ _ _ _ _ _ ?_
 unfold ref05_May.vc
 have hn := len_zero_dec t.kids sk.n h.nkids
 have ha := len_zero_dec t.attrs sa.n h.nattrs
 have l4 := le_dec t.text 4096
 have l3 := le_dec t.name 32
 rw [show ((4096 : Nat) : Int) = 4096 from rfl] at l4
 rw [show ((32 : Nat) : Int) = 32 from rfl] at l3
 have l1 : decide (1 ≤ (t.text.length : Int)) = !t.text.isEmpty := by cases t.text with
  |nil => rfl
  |cons a r => simp; omega
 rw [hn, ha, l4, l3, l1, isEmpty_dec, isEmpty_dec]
 unfold mayOk
 refine ⟨fun h1 w1 B1 _ hE1 => ⟨hE1, by rw [if_pos h1]⟩, fun h1 => ⟨fun h2 w1 B1 _ hE1 => ?_, fun h2 => ⟨fun h3 w1 B1 _ hE1 => ⟨hE1, by rw [if_neg h1, if_neg h2, if_pos h3]⟩, fun h3 => ⟨fun h4 w1 B1 _ hE1 => ⟨hE1, by rw [if_neg h1, if_neg h2, if_neg h3, if_pos h4]⟩, fun h4 =>
  ⟨fun h5 w1 B1 _ hE1 => ⟨hE1, by rw [if_neg h1, if_neg h2, if_neg h3, if_neg h4, if_pos h5]⟩, fun h5 w1 B1 _ hE1 => ⟨hE1, by rw [if_neg h1, if_neg h2, if_neg h3, if_neg h4, if_neg h5]⟩⟩⟩⟩⟩⟩
 rw [if_neg h1, if_pos h2]
 exact CallK.exact (refName _) fun w2 hE2 => ⟨_, rfl, _, fun _ => refAttrs ((h.ext (hE1.trans hE2)).attrs), fun w3 hE3 => ⟨(hE1.trans hE2).trans hE3, rfl⟩⟩
theorem may_false {t : T} {root : Bool} (h : mayOk t false root = false) : (nodeOk t && !(decide (t.kind = 5) && !root)) = false := by
 unfold mayOk at h
 by_cases h2 : t.kind = 2
 ·rw [if_neg (by omega), if_pos h2] at h
  rw [nodeOk_el h2, h]; rfl
 ·rw [nodeOk_ne h2]
  by_cases h1 : t.kind = 1
  ·rw [if_neg (by omega), if_neg (by omega), if_neg (by omega)]; simp
  ·rw [if_neg h1, if_neg h2] at h
   by_cases h3 : t.kind = 3
   ·rw [if_pos h3] at h ⊢
    generalize t.name.isEmpty = x1 at *
    generalize t.attrs.isEmpty = x2 at *
    generalize t.kids.isEmpty = x3 at *
    generalize t.text.isEmpty = x4 at *
    generalize decide (t.text.length ≤ 4096) = x5 at *
    cases x1 <;> cases x2 <;> cases x3 <;> cases x4 <;> cases x5 <;> simp_all
   ·rw [if_neg h3] at h ⊢
    by_cases h4 : t.kind = 4
    ·rw [if_pos h4] at h ⊢
     generalize t.name.isEmpty = x1 at *
     generalize t.attrs.isEmpty = x2 at *
     generalize t.kids.isEmpty = x3 at *
     generalize decide (t.text.length ≤ 4096) = x5 at *
     cases x1 <;> cases x2 <;> cases x3 <;> cases x5 <;> simp_all
    ·rw [if_neg h4] at h ⊢
     by_cases h5 : t.kind = 5
     ·rw [if_pos h5] at h ⊢
      rw [decide_eq_true h5]
      generalize t.attrs.isEmpty = x2 at *
      generalize t.kids.isEmpty = x3 at *
      generalize t.text.isEmpty = x4 at *
      generalize decide (t.name.length ≤ 32) = x5 at *
      cases x2 <;> cases x3 <;> cases x4 <;> cases x5 <;> cases root <;> simp_all
     ·rw [if_neg h5]; simp
theorem may_true {t : T} {root : Bool} (h : mayOk t false root = true) : (nodeOk t && !(decide (t.kind = 5) && !root)) = kidsOk t := by
 unfold mayOk at h
 by_cases h2 : t.kind = 2
 ·rw [if_neg (by omega), if_pos h2] at h
  rw [nodeOk_el h2, h, decide_eq_false (by omega : ¬ t.kind = 5)]; simp
 ·have key : t.kids.isEmpty = true → kidsOk t = true := fun hk => by
   unfold kidsOk; rw [List.isEmpty_iff.1 hk]; rfl
  rw [nodeOk_ne h2]
  by_cases h1 : t.kind = 1
  ·rw [if_pos h1] at h; simp at h
  ·rw [if_neg h1, if_neg h2] at h
   by_cases h3 : t.kind = 3
   ·rw [if_pos h3] at h ⊢
    rw [decide_eq_false (by omega : ¬ t.kind = 5)]
    simp only [Bool.and_eq_true] at h
    obtain ⟨⟨⟨⟨a1, a2⟩, a3⟩, a4⟩, a5⟩ := h
    rw [a1, a2, a3, a4, a5, key a3]; rfl
   ·rw [if_neg h3] at h ⊢
    by_cases h4 : t.kind = 4
    ·rw [if_pos h4] at h ⊢
     rw [decide_eq_false (by omega : ¬ t.kind = 5)]
     simp only [Bool.and_eq_true] at h
     obtain ⟨⟨⟨a1, a2⟩, a3⟩, a5⟩ := h
     rw [a1, a2, a3, a5, key a3]; rfl
    ·rw [if_neg h4] at h ⊢
     by_cases h5 : t.kind = 5
     ·rw [if_pos h5] at h ⊢
      simp only [Bool.and_eq_true] at h
      obtain ⟨⟨⟨⟨a1, a2⟩, a3⟩, a4⟩, a5⟩ := h
      rw [a1, a2, a3, a4, a5, key a5]; simp
     ·rw [if_neg h5] at h; cases h
theorem refAllLoop {A : List Nat} (t : T) (ih : ∀ u ∈ t.kids, ∀ (root : Bool) {w : World} {sa sk : Sl}, RdT A w u sa sk → Calls Try.prog 51 #[tv u sa sk, .bool false, .bool root] w (Ret fun v w' => Ext w w' ∧ v = .bool (nodeOk u && !(decide (u.kind = 5) && !root))))
  (top root r : Bool) (h0 : mayOk t top root = false → r = false) (h1 : mayOk t top root = true → r = kidsOk t) {w : World} {sa sk : Sl} (h : RdT A w t sa sk) :
  Calls Try.prog 51 #[tv t sa sk, .bool top, .bool root] w (Ret fun v w' => Ext w w' ∧ v = .bool r) := by
 refine ref05_all.ok _ _ _ _ _ _ _ ?_
 unfold ref05_all.vc
 have hn := h.nkids
 have hcp := h.caps
 simp only [maxLen] at hcp
 intro w1 B1 _ hE1
 refine CallK.exact (refMay (h.ext hE1) top root) fun w2 hE2 => ⟨_, rfl, fun hf => ⟨hE1.trans hE2, by rw [h0 hf]⟩, fun ht => ?_⟩
 rw [h1 ht]
 refine ⟨fun i w3 => ∃ k : Nat, i = (k : Int) ∧ k ≤ t.kids.length ∧ kidsOk t = (t.kids.drop k).all (fun u => nodeOk u && !(decide (u.kind = 5) && !(decide (t.kind = 1)))) ∧ Ext w w3, fun i _ => t.kids.length - i.toNat, ⟨0, rfl, Nat.zero_le _, rfl, hE1.trans hE2⟩, ?_⟩
 rintro _ w3 ⟨k, rfl, hk, heq, hE⟩
 rw [Int.toNat_natCast]
 refine ⟨fun hi w4 hE4 => ?_, fun hi => ⟨hE, ?_⟩⟩
 ·have hk' : k < t.kids.length := by omega
  have hE34 := hE.trans hE4
  obtain ⟨p, sa', sk', hp, _, hc, hr⟩ := (h.ext hE34).kid hk'
  have hm := getD_mem (d := T.nul) hk'
  rw [drop_at t.kids T.nul hk', List.all_cons] at heq
  refine ⟨p, ⟨⟨by omega, hi⟩, hp⟩, _, _, _, sa', sk', hc, _, fun w' hE' => ih _ hm _ (hr.ext hE'), fun hf w5 hE5 => ⟨hE34.trans hE5, ?_⟩, fun ht => ⟨⟨by omega, by omega⟩, fun w5 hE5 => ⟨⟨k + 1, by omega, by omega, ?_, hE34.trans hE5⟩, by dsimp only; omega⟩⟩⟩
  ·rw [heq, hf]; rfl
  ·rw [heq, ht]; rfl
 ·have hkl : k = t.kids.length := by omega
  subst hkl
  rw [heq, List.drop_length]; rfl
theorem refAll {A : List Nat} : ∀ t : T, ∀ (root : Bool) {w : World} {sa sk : Sl}, RdT A w t sa sk → Calls Try.prog 51 #[tv t sa sk, .bool false, .bool root] w (Ret fun v w' => Ext w w' ∧ v = .bool (nodeOk t && !(decide (t.kind = 5) && !root))) :=
 T.ind' fun t ih root _ _ _ h => refAllLoop t ih false root _ may_false may_true h
theorem refCheck {A : List Nat} (t : T) (hb : t.bulk ≤ 1099511627776) {w : World} {sa sk : Sl} (h : RdT A w t sa sk) :
  Calls Try.prog 28 #[tv t sa sk] w (Ret fun v w' => Ext w w' ∧ v = .bool t.check) := by
 refine ref05_Check.ok _ _ _ _ _ ?_
 unfold ref05_Check.vc
 intro w1 B1 _ hE1
 refine ⟨_, fun _ => refSize t hb (h.ext hE1), fun w2 hE2 => ⟨_, fun _ => refDepth t hb (h.ext (hE1.trans hE2)), fun w3 hE3 => ⟨(t.name.isEmpty && t.text.isEmpty && t.attrs.isEmpty && kidsOk t), fun hg => ?_, fun w4 hE4 => ⟨((hE1.trans hE2).trans hE3).trans hE4, ?_⟩⟩⟩⟩
 ·have hk := hg.1.1
  refine refAllLoop t (fun u _ root _ _ _ h => refAll u root h) true false _ (fun hf => ?_) (fun ht => ?_) (h.ext ((hE1.trans hE2).trans hE3))
  ·unfold mayOk at hf; rw [if_pos hk, Bool.true_and] at hf; rw [hf]; rfl
  ·unfold mayOk at ht; rw [if_pos hk, Bool.true_and] at ht; rw [ht]; simp
 ·unfold T.check
  have e1 : decide ((t.size : Int) ≤ 300) = decide (t.size ≤ 300) := by rw [Bool.eq_iff_iff]; simp; omega
  have e2 : decide ((t.depth : Int) ≤ 60) = decide (t.depth ≤ 60) := by rw [Bool.eq_iff_iff]; simp; omega
  rw [e1, e2]
  simp only [Bool.and_assoc]
theorem refSign {w : World} (x y : Bool) : Calls Try.prog 85 #[.bool x, .bool y] w (Ret fun v w' => Ext w w' ∧ v = .int .i64 (if x = true then -1 else if y = true then 1 else 0)) := by
 refine ref05_sign.ok _ _ ?_
 unfold ref05_sign.vc
 refine ⟨fun h => ⟨Chg.refl _ _, by rw [if_pos h]⟩, fun h => ⟨fun h2 => ⟨Chg.refl _ _, by rw [if_neg (by rw [h]; decide), if_pos h2]⟩, fun h2 => ⟨Chg.refl _ _, by rw [if_neg (by rw [h]; decide), if_neg (by rw [h2]; decide)]⟩⟩⟩
theorem sign_int (x y : Int) : (if decide (x < y) = true then (-1 : Int) else if decide (y < x) = true then 1 else 0) = cmpI x y := by
 unfold cmpI; simp
theorem cmpS_small (a b : Str) : -1 ≤ cmpS a b ∧ cmpS a b ≤ 1 := by
 unfold cmpS
 rw [compareBytes_lex]
 induction a generalizing b with
 |nil => cases b <;> simp [lexM]
 |cons x a ih =>
  cases b with
  |nil => simp [lexM]
  |cons y b =>
   have := ih b
   simp only [lexM, or2, cmpB, cmpI]
   split <;> (try split) <;> (try split) <;> omega
theorem sign_str (x y : Str) : (if Op.bytesLess x y = true then (-1 : Int) else if (!(Op.bytesLess x y || decide (x = y))) = true then 1 else 0) = cmpS x y := by
 rw [bytesLess_cmp]
 have h1 := cmpS_small x y
 have h2 := cmpS_zero x y
 by_cases a : cmpS x y < 0
 ·simp [a]; omega
 ·by_cases b : x = y
  ·have := h2.2 b; simp [b] at *; omega
  ·have : cmpS x y ≠ 0 := fun e => b (h2.1 e)
   simp [a, b]; omega
theorem sign_attr (p q : Str × Str) : (if (Op.bytesLess p.1 q.1 || (decide (p.1 = q.1) && Op.bytesLess p.2 q.2)) = true then (-1 : Int) else if ((!(Op.bytesLess p.1 q.1 || decide (p.1 = q.1))) || (decide (p.1 = q.1) && !(Op.bytesLess p.2 q.2 || decide (p.2 = q.2)))) = true then 1 else 0) = cmpA p q := by
 unfold cmpA or2
 have s1 := sign_str p.1 q.1
 have s2 := sign_str p.2 q.2
 have z := cmpS_zero p.1 q.1
 by_cases e : p.1 = q.1
 ·rw [if_pos (z.2 e), ← s2]
  have : Op.bytesLess p.1 q.1 = false := by rw [bytesLess_cmp]; simp [z.2 e]
  simp [e]
  have h3 : Op.bytesLess q.1 q.1 = false := by rw [e] at this; exact this
  simp [h3]
 ·rw [if_neg (fun h => e (z.1 h)), ← s1]
  simp [e]
theorem refNode {A : List Nat} {a b : T} {w : World} {sa sk ta tk : Sl} (ha : RdT A w a sa sk) (hb : RdT A w b ta tk) :
  Calls Try.prog 84 #[tv a sa sk, tv b ta tk] w (Ret fun v w' => Ext w w' ∧ v = .int .i64 (or2 (or2 (cmpI a.kind b.kind) (or2 (cmpS a.name b.name) (cmpS a.text b.text))) (lexM cmpA a.attrs b.attrs))) := by
 refine ref05_Node.ok _ _ _ _ _ _ _ _ _ _ ?_
 unfold ref05_Node.vc
 have hna := ha.nattrs
 have hnb := hb.nattrs
 have hca := ha.caps
 have hcb := hb.caps
 simp only [maxLen] at hca hcb
 intro w1 B1 B2 hN1 hN2 _ hE1
 refine CallK.exact (refSign _ _) fun w2 hE2 => ⟨_, rfl, ?_⟩
 rw [sign_int]
 refine ⟨fun c w3 => c = or2 (cmpI a.kind b.kind) (cmpS a.name b.name) ∧ Ext w w3, ⟨fun h0 => CallK.exact (refSign _ _) fun w3 hE3 => ⟨_, rfl, ?_, (hE1.trans hE2).trans hE3⟩, fun h0 => ⟨(or2_ne _ h0).symm, hE1.trans hE2⟩⟩, ?_⟩
 ·rw [sign_str, h0, or2_zero]
 rintro _ w3 ⟨rfl, hE3⟩
 generalize hx0 : or2 (cmpI a.kind b.kind) (or2 (cmpS a.name b.name) (cmpS a.text b.text)) = x0
 have hassoc : x0 = or2 (or2 (cmpI a.kind b.kind) (cmpS a.name b.name)) (cmpS a.text b.text) := by
  rw [← hx0]
  by_cases h : cmpI a.kind b.kind = 0
  ·rw [h, or2_zero, or2_zero]
  ·rw [or2_ne _ h, or2_ne (cmpS a.name b.name) h, or2_ne _ h]
 refine ⟨fun c w4 => c = x0 ∧ Ext w w4, ⟨fun h0 => CallK.exact (refSign _ _) fun w4 hE4 => ⟨_, rfl, ?_, hE3.trans hE4⟩, fun h0 => ⟨by rw [hassoc, or2_ne _ h0], hE3⟩⟩, ?_⟩
 ·rw [sign_str, hassoc, h0, or2_zero]
 rintro x0 w4 ⟨rfl, hE4⟩
 refine ⟨fun x i w3 => ∃ k : Nat, i = (k : Int) ∧ k ≤ a.attrs.length ∧ k ≤ b.attrs.length ∧ or2 x0 (lexM cmpA a.attrs b.attrs) = or2 x (lexM cmpA (a.attrs.drop k) (b.attrs.drop k)) ∧ Ext w w3, fun _ i _ => a.attrs.length - i.toNat, ⟨0, rfl, Nat.zero_le _, Nat.zero_le _, rfl, hE4⟩, ?_⟩
 rintro x _ w5 ⟨k, rfl, hk1, hk2, heq, hE5⟩
 rw [Int.toNat_natCast]
 refine ⟨fun hgo w6 hE6 => ?_, fun hend => ?_⟩
 ·obtain ⟨⟨hx, hi⟩, hj⟩ := hgo
  subst hx
  have hE56 := hE5.trans hE6
  obtain ⟨p, hp, _, hc⟩ := (ha.ext hE56).attr (i := k) (by omega)
  obtain ⟨q, hq, _, hd⟩ := (hb.ext hE56).attr (i := k) (by omega)
  rw [drop_at a.attrs ([], []) (by omega), drop_at b.attrs ([], []) (by omega), lexM_step, or2_zero] at heq
  refine ⟨p, ⟨⟨by omega, hi⟩, hp⟩, _, _, hc, q, ⟨⟨by omega, hj⟩, hq⟩, _, _, hd, fun w7 B7 B8 hE7 hB7 _ hB8 _ w8 hC8 => CallK.exact (refSign _ _) fun w9 hE9 => ⟨_, rfl, ⟨by omega, by omega⟩, ⟨k + 1, by omega, by omega, by omega, ?_, ?_⟩, by dsimp only; omega⟩⟩
  ·rw [sign_attr]; exact heq
  ·have hs := hE56.size
   exact (Chg.fresh (hE56.trans hE7) hC8 (by simp; omega)).trans hE9
 ·have hex : or2 x0 (lexM cmpA a.attrs b.attrs) = or2 x (cmpI (a.attrs.length : Int) (b.attrs.length : Int)) := by
   rw [heq]
   refine lexM_exit cmpA a.attrs b.attrs x k hk1 hk2 ?_
   rcases hend with (h | h) | h
   ·exact .inl h
   ·exact .inr (.inl (by omega))
   ·exact .inr (.inr (by omega))
  rw [hna, hnb, hex]
  refine ⟨fun h0 => CallK.exact (refSign _ _) fun w6 hE6 => ⟨_, rfl, hE5.trans hE6, ?_⟩, fun h0 => ⟨hE5, by rw [or2_ne _ h0]⟩⟩
  rw [sign_int, h0, or2_zero]
theorem refCompare {A : List Nat} : ∀ a : T, ∀ (b : T) {w : World} {sa sk ta tk : Sl}, RdT A w a sa sk → RdT A w b ta tk →
  Calls Try.prog 72 #[tv a sa sk, tv b ta tk] w (Ret fun v w' => Ext w w' ∧ v = .int .i64 (T.cmp a b)) := T.ind' fun a ih b w sa sk ta tk ha hb => by
 refine ref05_Compare.ok _ _ _ _ _ _ _ _ _ _ ?_
 unfold ref05_Compare.vc
 have hnk := ha.nkids
 have hnl := hb.nkids
 have hca := ha.caps
 have hcb := hb.caps
 simp only [maxLen] at hca hcb
 intro w1 B1 B2 _ _ _ hE1
 refine CallK.exact (refNode (ha.ext hE1) (hb.ext hE1)) fun w2 hE2 => ⟨_, rfl, ?_⟩
 rw [T.cmp_eq a b]
 generalize or2 (or2 (cmpI a.kind b.kind) (or2 (cmpS a.name b.name) (cmpS a.text b.text))) (lexM cmpA a.attrs b.attrs) = x1
 refine ⟨fun y i w7 => ∃ k : Nat, i = (k : Int) ∧ k ≤ a.kids.length ∧ k ≤ b.kids.length ∧ or2 x1 (lexM T.cmp a.kids b.kids) = or2 y (lexM T.cmp (a.kids.drop k) (b.kids.drop k)) ∧ Ext w w7, fun _ i _ => a.kids.length - i.toNat, ⟨0, rfl, Nat.zero_le _, Nat.zero_le _, rfl, hE1.trans hE2⟩, ?_⟩
 rintro y _ w7 ⟨j, rfl, hj1, hj2, heq2, hE7⟩
 rw [Int.toNat_natCast]
 refine ⟨fun hgo w8 hE8 => ?_, fun hend => ?_⟩
 ·obtain ⟨⟨hy, hi⟩, hj⟩ := hgo
  subst hy
  have hE78 := hE7.trans hE8
  have hj1' : j < a.kids.length := by omega
  have hj2' : j < b.kids.length := by omega
  obtain ⟨p, sa', sk', hp, _, hc, hr⟩ := (ha.ext hE78).kid hj1'
  obtain ⟨q, ta', tk', hq, _, hd, hs⟩ := (hb.ext hE78).kid hj2'
  rw [drop_at a.kids T.nul hj1', drop_at b.kids T.nul hj2', lexM_step, or2_zero] at heq2
  refine ⟨p, ⟨⟨by omega, hi⟩, hp⟩, _, _, _, sa', sk', hc, q, ⟨⟨by omega, hj⟩, hq⟩, _, _, _, ta', tk', hd, _, fun w' hE' => ih _ (getD_mem hj1') _ (hr.ext hE') (hs.ext hE'), ⟨by omega, by omega⟩, fun w9 hE9 => ⟨⟨j + 1, by omega, by omega, by omega, heq2, hE78.trans hE9⟩, by dsimp only; omega⟩⟩
 ·have hex2 : or2 x1 (lexM T.cmp a.kids b.kids) = or2 y (cmpI (a.kids.length : Int) (b.kids.length : Int)) := by
   rw [heq2]
   refine lexM_exit T.cmp a.kids b.kids y j hj1 hj2 ?_
   rcases hend with (h | h) | h
   ·exact .inl h
   ·exact .inr (.inl (by omega))
   ·exact .inr (.inr (by omega))
  rw [hnk, hnl, hex2]
  refine ⟨fun h0 => CallK.exact (refSign _ _) fun w6 hE6 => ⟨_, rfl, hE7.trans hE6, ?_⟩, fun h0 => ⟨hE7, by rw [or2_ne _ h0]⟩⟩
  rw [sign_int, h0, or2_zero]
theorem refSame {A : List Nat} (a b : T) {w : World} {sa sk ta tk : Sl} (ha : RdT A w a sa sk) (hb : RdT A w b ta tk) :
  Calls Try.prog 52 #[tv a sa sk, tv b ta tk] w (Ret fun v w' => Ext w w' ∧ v = .bool (decide (T.cmp a b = 0))) := by
 refine ref05_Same.ok _ _ _ _ _ _ _ _ _ _ ?_
 unfold ref05_Same.vc
 intro w1 B1 B2 _ _ _ hE1
 exact CallK.exact (refCompare a b (ha.ext hE1) (hb.ext hE1)) fun w2 hE2 => ⟨_, rfl, hE1.trans hE2, rfl⟩
end
section
open Go.RowKit Go.MapKept
theorem Cells.take {w : World} {p : Addr} {cs : List Value} (h : Cells w p cs) (n : Nat) : Cells w p (cs.take n) := fun j v hv => h j v (by
 rw [List.getElem?_take] at hv
 split at hv
 ·exact hv
 ·cases hv)
theorem RItems.at {w : World} {s : Sl} {t : T} (h : RItems w s t) : s.n = t.size ∧ ∃ p, s.a = some p ∧ ∀ w', Ext w w' → ∀ j, j < t.size → ∃ a sa sk : Sl, Cells w' (p.add (j * 15)) (rc (t.nd j) a sa sk (t.zAt j) (t.hAt j)) ∧ Own [] w' a 2 47 ((t.nd j).t.attrs.map ac) := by
 have hn := h.len
 obtain ⟨rows, ho, hr⟩ := h
 have hrl := hr.1
 rw [T.flat_len] at hrl
 have hpos := T.size_pos t
 obtain ⟨p, hp, _⟩ := ho.row.at_ 0 (by omega)
 refine ⟨hn, p, hp, fun w' hE j hj => ?_⟩
 have := (ho.ext hE).row.cells1 (i := j) (by omega) hp
 obtain ⟨u, hu⟩ : ∃ u, rows[j]? = some u := ⟨_, List.getElem?_eq_getElem (by omega)⟩
 obtain ⟨a, sa, sk, rfl, h2, _⟩ := hr.2 j _ u (t.flat_get hj) hu
 rw [List.getD_eq_getElem?_getD, hu] at this
 exact ⟨a, sa, sk, this, h2.ext hE⟩
theorem Row.pairAt {A : List Nat} {w : World} {l : Sl} {ps : List (Int × Int)} (h : Row A w l 2 (ps.map pc)) {k : Nat} (hk : k < ps.length) : ∃ p, l.a = some p ∧ Cells w (p.add (k * 2)) (pc (ps.getD k (0, 0))) := by
 obtain ⟨p, hp, _, hc, _⟩ := h.at_ k (by simpa using hk)
 refine ⟨p, hp, ?_⟩
 have e : (ps.map pc).getD k [] = pc (ps.getD k (0, 0)) := by simp [List.getD_eq_getElem?_getD, hk]
 rwa [e] at hc
theorem refKin {w : World} {e f : T} {a b : Sl} : Calls Try.prog 58 #[.agg #[.int .i64 e.kind, .string (Bs e.name), .string (Bs e.text), a.v, Sl.nil.v], .agg #[.int .i64 f.kind, .string (Bs f.name), .string (Bs f.text), b.v, Sl.nil.v]] w (Ret fun v w' => Ext w w' ∧ v = .bool (decide (e.kind = f.kind) && decide (e.name = f.name))) := by
 refine ref21_kin.ok _ _ _ _ _ _ _ _ _ _ ?_
 unfold ref21_kin.vc
 intro w1 B1 B2 _ _ _ hE
 exact ⟨hE, rfl⟩
theorem chkL_gt {x y : T} : ∀ (l : List (Int × Int)) (last : Int) (seen : List Int), chkL x y last l seen = true → ∀ p ∈ l, last < p.1
 |[], _, _, _, p, hp => by cases hp
 |q :: r, last, seen, h, p, hp => by
  rw [chkL] at h
  simp only [Bool.and_eq_true, decide_eq_true_eq] at h
  have h1 : last < q.1 := by obtain ⟨⟨⟨⟨⟨⟨h, _⟩, _⟩, _⟩, _⟩, _⟩, _⟩ := h; exact h
  rcases List.mem_cons.1 hp with rfl | hp
  ·exact h1
  ·have := chkL_gt r q.1 (q.2 :: seen) h.2 p hp
   omega
theorem chkL_head {x y : T} {l : List (Int × Int)} (h : chkL x y (-1) l [] = true) : decide ((0, 0) ∈ l) = decide (l.head? = some (0, 0)) := by
 cases l with
 |nil => rfl
 |cons q r =>
  congr 1
  rw [chkL] at h
  simp only [Bool.and_eq_true, decide_eq_true_eq] at h
  have h1 : -1 < q.1 := by obtain ⟨⟨⟨⟨⟨⟨h, _⟩, _⟩, _⟩, _⟩, _⟩, _⟩ := h; exact h
  have h2 := chkL_gt r q.1 _ h.2
  simp only [List.mem_cons, List.head?_cons, Option.some.injEq, eq_iff_iff]
  constructor
  ·rintro (h | h)
   ·exact h.symm
   ·have := h2 _ h
    simp only at this; omega
  ·intro h; exact .inl h.symm
theorem refCheck21 {A : List Nat} {w : World} {a b : T} {sa sk ta tk l : Sl} {ps : List (Int × Int)} (ha : RdT A w a sa sk) (hb : RdT A w b ta tk) (hl : Row A w l 2 (ps.map pc)) (na : a.bulk ≤ 400000000) (nb : b.bulk ≤ 400000000) (np : ps.length ≤ 1000000000) :
  Calls Try.prog 44 #[tv a sa sk, tv b ta tk, l.v] w (Ret fun v w' => Ext w w' ∧ v = .bool (chkP a b ps)) := by
 refine ref21_Check.ok _ _ _ _ _ _ _ _ _ _ _ ?_
 unfold ref21_Check.vc
 have hln := hl.len
 rw [List.length_map] at hln
 intro w1 B1 B2 _ _ _ hE1
 refine CallK.exact (refCheck a (by omega) (ha.ext hE1)) fun w2 hE2 => ⟨_, rfl, _, fun _ => refCheck b (by omega) (hb.ext (hE1.trans hE2)), fun w3 hE3 => ?_⟩
 have hE03 := (hE1.trans hE2).trans hE3
 refine ⟨fun hbad => ⟨hE03, ?_⟩, fun hg w4 hE4 => ?_⟩
 ·unfold chkP
  rcases hbad with h | h <;> rw [h] <;> simp
 have hE04 := hE03.trans hE4
 refine ⟨fun s w' => RItems w' s a, fun s w' w'' hE h => h.ext hE, fun w' hE => ?_, fun s w' => RItems w' s b, fun s w' w'' hE h => h.ext hE, fun w' hE => ?_, fun w5 x y hE5 hX hY => ?_⟩
 ·refine Ret.mono (refFlat0 na (ha.ext (hE04.trans hE))) ?_
  rintro v w'' ⟨h1, s, rfl, h2, _⟩
  exact ⟨h1, s, rfl, h2⟩
 ·refine Ret.mono (refFlat0 nb (hb.ext (hE04.trans hE))) ?_
  rintro v w'' ⟨h1, s, rfl, h2, _⟩
  exact ⟨h1, s, rfl, h2⟩
 obtain ⟨hxn, px, hpx, hxc⟩ := hX.at
 obtain ⟨hyn, py, hpy, hyc⟩ := hY.at
 have hE05 := hE04.trans hE5
 have hchk : chkP a b ps = (decide (ps.head? = some (0, 0)) && chkL a b (-1) ps []) := by
  unfold chkP; rw [hg.1, hg.2]; simp
 rw [hchk]
 refine ⟨fun root i w' => ∃ (k : Nat) (last : Int) (seen : List Int), i = (k : Int) ∧ k ≤ ps.length ∧ root = decide ((0, 0) ∈ ps.take k) ∧ -1 ≤ last ∧ (k = 0 → last = -1) ∧ (0 < k → last = (ps.getD (k - 1) (0, 0)).1) ∧ (∀ z, seen.contains z = true ↔ ∃ j, j < k ∧ (ps.getD j (0, 0)).2 = z) ∧ chkL a b (-1) ps [] = chkL a b last (ps.drop k) seen ∧ Ext w5 w', fun _ i _ => ps.length - i.toNat,
  ⟨0, -1, [], rfl, by omega, rfl, by omega, fun _ => rfl, by omega, fun z => by simp, rfl, Chg.refl _ _⟩, ?_⟩
 rintro root _ w6 ⟨k, last, seen, rfl, hk, hroot, hlast, hl0, hl1, hseen, heq, hE6⟩
 refine ⟨fun hi => ?_, fun hi => ⟨hE05.trans hE6, ?_⟩⟩
 ·have hk' : k < ps.length := by omega
  obtain ⟨p, hp, hc⟩ := (hl.ext (hE05.trans hE6)).pairAt hk'
  have hdr : ps.drop k = ps.getD k (0, 0) :: ps.drop (k + 1) := by
   rw [List.drop_eq_getElem_cons hk', List.getD_eq_getElem?_getD, List.getElem?_eq_getElem hk']; rfl
  rw [hdr] at heq
  have htk := take_snoc ps (0, 0) hk'
  have hkk : ps.getD k (0, 0) = ps.getD k (0, 0) := rfl
  generalize hq : ps.getD k (0, 0) = q at hc heq htk
  obtain ⟨qa, qb⟩ := q
  rw [chkL] at heq
  simp only at heq
  refine ⟨⟨by omega, hi⟩, p, hp, qa, qb, hc, fun w7 B7 hN7 hE7 => ?_⟩
  have hE67 := hE6.trans hE7
  have hprev : ∀ w', Ext w w' → 0 < k → w'.cell? ((p.add (((k : Int) - 1).toNat * 2)).add 0) = some (.int .i64 last) := fun w' hE h0 => by
   obtain ⟨p', hp', hc'⟩ := (hl.ext hE).pairAt (k := k - 1) (by omega)
   rw [hp] at hp'; cases hp'
   rw [show ((k : Int) - 1).toNat = k - 1 by omega, hl1 h0]
   exact hc' 0 _ rfl
  by_cases hgd : (0 ≤ qa ∧ qa < (a.size : Int)) ∧ (0 ≤ qb ∧ qb < (b.size : Int)) ∧ last < qa
  ·obtain ⟨⟨g1, g2⟩, ⟨g3, g4⟩, g5⟩ := hgd
   obtain ⟨xa, xs, xk, hxc, _⟩ := hxc w7 hE67 qa.toNat (by omega)
   obtain ⟨ya, ys, yk, hyc, _⟩ := hyc w7 hE67 qb.toNat (by omega)
   refine ⟨fun _ => ⟨by omega, by omega⟩, p, fun h => ⟨⟨by omega, by omega⟩, hp⟩, last, fun h => hprev w7 (hE05.trans hE67) (by omega), px, fun _ => ⟨⟨by omega, by omega⟩, hpx⟩, (a.nd qa.toNat).t.kind, (a.nd qa.toNat).t.name, (a.nd qa.toNat).t.text, xa, Sl.nil, fun _ => Cells.take (Cells.drop hxc 5) 5, py, fun _ => ⟨⟨by omega, by omega⟩, hpy⟩, (b.nd qb.toNat).t.kind, (b.nd qb.toNat).t.name, (b.nd qb.toNat).t.text, ya, Sl.nil, fun _ => Cells.take (Cells.drop hyc 5) 5, _, fun _ w' hE => refKin, ?_, ?_⟩
   ·intro hbad w8 hE8
    refine ⟨(hE05.trans hE67).trans hE8, ?_⟩
    have : (decide (last < qa) && decide (qa < (a.size : Int)) && decide (0 ≤ qb) && decide (qb < (b.size : Int)) && !seen.contains qb && decide ((a.nd qa.toNat).t.kind = (b.nd qb.toNat).t.kind ∧ (a.nd qa.toNat).t.name = (b.nd qb.toNat).t.name)) = false := by
     rcases hbad with ((((h | h) | h) | h) | h) | h
     ·omega
     ·omega
     ·omega
     ·omega
     ·omega
     ·simp only [Bool.and_eq_false_iff, decide_eq_false_iff_not] at h
      have hn : ¬ ((a.nd qa.toNat).t.kind = (b.nd qb.toNat).t.kind ∧ (a.nd qa.toNat).t.name = (b.nd qb.toNat).t.name) := fun h' => h.elim (fun h => h h'.1) (fun h => h h'.2)
      rw [decide_eq_false hn]; simp
    rw [heq, this]; simp
   ·intro hgood w8 hE8
    have hkn : (a.nd qa.toNat).t.kind = (b.nd qb.toNat).t.kind ∧ (a.nd qa.toNat).t.name = (b.nd qb.toNat).t.name := by simpa using hgood.2
    refine ⟨fun kk w' => ∃ j : Nat, kk = (j : Int) ∧ j ≤ k ∧ (∀ i, i < j → (ps.getD i (0, 0)).2 ≠ qb) ∧ Ext w5 w', fun kk _ => k - kk.toNat, ⟨0, rfl, by omega, by omega, hE67.trans hE8⟩, ?_⟩
    rintro _ w9 ⟨j, rfl, hj, hne, hE9⟩
    refine ⟨fun hjk w10 hE10 => ?_, fun hjk => ?_⟩
    ·have hjk' : j < k := by omega
     obtain ⟨p', hp', hc'⟩ := (hl.ext ((hE05.trans hE9).trans hE10)).pairAt (k := j) (by omega)
     refine ⟨p', ⟨⟨by omega, by omega⟩, hp'⟩, (ps.getD j (0, 0)).2, hc' 1 _ rfl, fun he w11 hE11 => ⟨((hE05.trans hE9).trans hE10).trans hE11, ?_⟩, fun hn => ⟨⟨by omega, by omega⟩, fun w11 hE11 => ⟨⟨j + 1, by omega, by omega, fun i hi' => ?_, (hE9.trans hE10).trans hE11⟩, by dsimp only; omega⟩⟩⟩
     ·have hs := (hseen qb).2 ⟨j, hjk', he⟩
      rw [heq, hs]; simp
     ·rcases Nat.lt_or_ge i j with h | h
      ·exact hne i h
      ·rw [show i = j by omega]; exact hn
    ·have hjk' : j = k := by omega
     subst hjk'
     have hs : seen.contains qb = false := by
      rw [Bool.eq_false_iff]; intro h
      obtain ⟨i, hi', he⟩ := (hseen qb).1 h
      exact hne i hi' he
     refine ⟨⟨by omega, by omega⟩, ⟨j + 1, qa, qb :: seen, by omega, by omega, ?_, by omega, by omega, fun _ => ?_, fun z => ?_, ?_, hE9⟩, by dsimp only; omega⟩
     ·rw [htk, hroot]
      simp only [List.mem_append, List.mem_singleton, Prod.mk.injEq]
      rw [Bool.decide_or]
      congr 1
      rw [decide_eq_decide]
      constructor
      ·rintro ⟨h1, h2⟩; exact ⟨h1.symm, h2.symm⟩
      ·rintro ⟨h1, h2⟩; exact ⟨h1.symm, h2.symm⟩
     ·rw [Nat.add_sub_cancel, hq]
     ·have hz := hseen z
      simp only [List.contains_cons, Bool.or_eq_true, beq_iff_eq]
      rw [hz]
      constructor
      ·rintro (h | ⟨i, h1, h2⟩)
       ·exact ⟨j, by omega, by rw [hq, h]⟩
       ·exact ⟨i, by omega, h2⟩
      ·rintro ⟨i, h1, h2⟩
       rcases Nat.lt_or_ge i j with h | h
       ·exact .inr ⟨i, h, h2⟩
       ·rw [show i = j by omega, hq] at h2; exact .inl h2.symm
     ·rw [heq, hs, decide_eq_true g5, decide_eq_true g2, decide_eq_true g3, decide_eq_true g4, decide_eq_true hkn]; rfl
  ·have hf : (decide (last < qa) && decide (qa < (a.size : Int)) && decide (0 ≤ qb) && decide (qb < (b.size : Int))) = false := by
    rw [Bool.eq_false_iff]; intro h
    simp only [Bool.and_eq_true, decide_eq_true_eq] at h
    omega
   refine ⟨fun _ => ⟨by omega, by omega⟩, p, fun h => ⟨⟨by omega, by omega⟩, hp⟩, last, fun h => hprev w7 (hE05.trans hE67) (by omega), px, fun h => by omega, 0, [], [], Sl.nil, Sl.nil, fun h => by omega, px, fun h => by omega, 0, [], [], Sl.nil, Sl.nil, fun h => by omega, false, fun h => by omega, fun _ w8 hE8 => ⟨(hE05.trans hE67).trans hE8, ?_⟩, fun h => (by cases h.2)⟩
   rw [heq, hf]; simp
 ·have hkl : k = ps.length := by omega
  subst hkl
  rw [List.drop_length, chkL] at heq
  rw [List.take_of_length_le (Nat.le_refl _)] at hroot
  rw [heq, hroot, chkL_head heq]; simp
theorem flatten_zc (vs : List Int) : (vs.map zc).flatten = vs.map fun n => .int .i64 n := by
 induction vs with
 |nil => rfl
 |cons x r ih => simp only [List.map_cons, List.flatten_cons, ih, zc, List.singleton_append]
theorem Own.setZ {A : List Nat} {w : World} {s : Sl} {S : TypeId} {vs : List Int} (h : Own A w s 1 S (vs.map zc)) {i : Nat} (hi : i < vs.length) :
  ∃ g cur, s.a = some ⟨g, 0, none⟩ ∧ Box w g S cur ∧ i + 1 ≤ cur.length ∧ ∀ w' (x : Int), Box w' g S (putAt cur i [.int .i64 x]) → Own A w' s 1 S ((vs.set i x).map zc) := by
 have hl := h.len
 rw [List.length_map] at hl
 rcases h.at_ with e | ⟨g, cur, h1, h2, h3, h4, h5⟩
 ·rw [e] at hl; simp [Sl.nil] at hl; omega
 ·have hc := h.cap
  refine ⟨g, cur, h1, h3, by omega, fun w' x hB => ⟨by simpa using hl, h.cap, h.most, ?_, .inr ⟨g, cur.set i (.int .i64 x), h1, h2, hB, by simpa using h4, ?_⟩⟩⟩
  ·intro u hu
   simp only [List.mem_map] at hu
   obtain ⟨y, _, rfl⟩ := hu; rfl
  ·rw [flatten_zc] at h5 ⊢
   rw [List.map_set, ← h5, List.take_set]
structure MRd (A : List Nat) (w : World) (B : Nat) (sa sb : Sl) (fa fb : List Int) : Prop where
 box : Box w B 74 [sa.v, sb.v]
 out : B ∉ A
 a : Own A w sa 1 3 (fa.map zc)
 b : Own A w sb 1 3 (fb.map zc)
 apart : ∀ x ∈ sa.blk, x ∉ sb.blk
theorem MRd.chg {A F : List Nat} {w w' : World} {B : Nat} {sa sb : Sl} {fa fb : List Int} (h : MRd A w B sa sb fa fb) (c : Chg F w w') (hF : ∀ b ∈ F, b ∈ A) : MRd A w' B sa sb fa fb :=
 ⟨h.box.keep c (fun hm => h.out (hF _ hm)), h.out, h.a.chg c hF, h.b.chg c hF, h.apart⟩
theorem MRd.ext {A : List Nat} {w w' : World} {B : Nat} {sa sb : Sl} {fa fb : List Int} (h : MRd A w B sa sb fa fb) (c : Ext w w') : MRd A w' B sa sb fa fb := h.chg c (by simp)
theorem MRd.less {A A' : List Nat} {w : World} {B : Nat} {sa sb : Sl} {fa fb : List Int} (h : MRd A w B sa sb fa fb) (hA : ∀ b ∈ A', b ∈ A) : MRd A' w B sa sb fa fb :=
 ⟨h.box, fun hm => h.out (hA _ hm), h.a.less hA, h.b.less hA, h.apart⟩
theorem refMNew {w : World} (m n : Nat) (hm : m ≤ 1000000000) (hn : n ≤ 1000000000) :
  Calls Try.prog 45 #[.int .i64 (m : Int), .int .i64 (n : Int)] w (Ret fun v w' => Ext w w' ∧ ∃ (B : Nat) (sa sb : Sl), v = .pointer (some ⟨B, 0, none⟩) ∧ MRd (List.range w.heap.size) w' B sa sb (List.replicate m (-1)) (List.replicate n (-1))) := by
 refine ref19_New.ok _ _ ?_
 unfold ref19_New.vc
 intro w1 B1 hN1 hE1
 have g1 := hN1.ge
 have l1 := hN1.lt
 refine ⟨fun i c w' => ∃ k : Nat, i = (k : Int) ∧ k ≤ m ∧ Own (B1 :: List.range w.heap.size) w' c 1 3 ((List.replicate k (-1 : Int)).map zc) ∧ Ext w w' ∧ B1 < w'.heap.size, fun i _ _ => m - i.toNat, ⟨0, rfl, by omega, Own.nil _ _ _ _, hE1, l1⟩, ?_⟩
 rintro _ c w2 ⟨k, rfl, hk, hO, hE2, hl2⟩
 refine ⟨fun hi w3 B3 hN3 hE3 hbox => ?_, fun hi => ?_⟩
 ·have hcn := hO.len
  simp only [List.length_map, List.length_replicate] at hcn
  have hbox' : Box w3 B3 3 (zc (-1)) := hbox
  have s3 := hE3.size
  refine App.runK Try.underlying22 ti_3 rfl (by decide) (.inl (hO.ext hE3)) (fun b hb => ?_) (Own.one (A := []) hbox' (by simp)).row (ones_zc _) (by simp) (by simp only [maxLen, List.length_singleton]; omega) (by simp only [List.length_singleton]; omega) (by simp) fun s' w4 ho4 hC4 hb4 => ⟨s', rfl, ⟨by omega, by omega⟩, fun w5 hC5 => ⟨⟨k + 1, by omega, by omega, ?_, ?_, ?_⟩, by dsimp only; omega⟩⟩
  ·have := hE2.size
   rcases List.mem_cons.1 hb with rfl | hb
   ·omega
   ·have := List.mem_range.1 hb; omega
  ·rw [List.replicate_succ', List.map_append]
   exact ho4.chg hC5 (by simp)
  ·have h4 : Ext w w4 := Chg.fresh (hE2.trans hE3) hC4 fun b hb => by
    have := (hO.blk b (Sl.own_blk hb)).1
    simp at this; omega
   exact Chg.fresh h4 hC5 (by simpa using g1)
  ·have := hC4.size; have := hC5.size; omega
 have hkm : k = m := by omega
 subst hkm
 refine ⟨fun i d w' => ∃ j : Nat, i = (j : Int) ∧ j ≤ n ∧ Own (B1 :: (c.blk ++ List.range w.heap.size)) w' d 1 3 ((List.replicate j (-1 : Int)).map zc) ∧ Own (B1 :: List.range w.heap.size) w' c 1 3 ((List.replicate k (-1 : Int)).map zc) ∧ Ext w w' ∧ B1 < w'.heap.size, fun i _ _ => n - i.toNat, ⟨0, rfl, by omega, Own.nil _ _ _ _, hO, hE2, hl2⟩, ?_⟩
 rintro _ d w3 ⟨j, rfl, hj, hD, hO3, hE3, hl3⟩
 refine ⟨fun hi w4 B4 hN4 hE4 hbox => ?_, fun hi hbox => ?_⟩
 ·have hdn := hD.len
  simp only [List.length_map, List.length_replicate] at hdn
  have hbox' : Box w4 B4 3 (zc (-1)) := hbox
  have s4 := hE4.size
  refine App.runK Try.underlying22 ti_3 rfl (by decide) (.inl (hD.ext hE4)) (fun b hb => ?_) (Own.one (A := []) hbox' (by simp)).row (ones_zc _) (by simp) (by simp only [maxLen, List.length_singleton]; omega) (by simp only [List.length_singleton]; omega) (by simp) fun s' w5 ho5 hC5 hb5 => ⟨s', rfl, ⟨by omega, by omega⟩, fun w6 hC6 => ⟨⟨j + 1, by omega, by omega, ?_, ?_, ?_, ?_⟩, by dsimp only; omega⟩⟩
  ·have := hE3.size
   rcases List.mem_cons.1 hb with rfl | hb
   ·omega
   rcases List.mem_append.1 hb with hb | hb
   ·have := (hO3.blk b hb).2; omega
   ·have := List.mem_range.1 hb; omega
  ·rw [List.replicate_succ', List.map_append]
   exact ho5.chg hC6 (by simp)
  ·exact ((hO3.ext hE4).keep hC5 (fun b hb hm => (hD.blk b (Sl.own_blk hm)).1 (by simp [hb]))).chg hC6 (by simp)
  ·have h4 : Ext w w5 := Chg.fresh (hE3.trans hE4) hC5 fun b hb => by
    have := (hD.blk b (Sl.own_blk hb)).1
    simp at this; omega
   exact Chg.fresh h4 hC6 (by simpa using g1)
  ·have := hC5.size; have := hC6.size; omega
 have hjn : j = n := by omega
 subst hjn
 refine ⟨hE3, B1, c, d, rfl, hbox, by simp; omega, hO3.less (fun b hb => List.mem_cons_of_mem _ hb), hD.less (fun b hb => List.mem_cons_of_mem _ (List.mem_append_right _ hb)), fun b hb hm => (hD.blk b hm).1 (by simp [hb])⟩
theorem refAdd {A : List Nat} {w : World} {B : Nat} {sa sb : Sl} {fa fb : List Int} (h : MRd A w B sa sb fa fb) {i j : Nat} (hi : i < fa.length) (hj : j < fb.length) :
  Calls Try.prog 32 #[.pointer (some ⟨B, 0, none⟩), .int .i64 (i : Int), .int .i64 (j : Int)] w (Ret fun v w' => Chg (sa.blk ++ sb.blk) w w' ∧ v = .tuple #[] ∧ MRd A w' B sa sb (fa.set i (j : Int)) (fb.set j (i : Int))) := by
 refine ref19_M_Add.ok _ _ _ ?_
 unfold ref19_M_Add.vc
 have hna := h.a.len
 have hnb := h.b.len
 rw [List.length_map] at hna hnb
 obtain ⟨ga, ca, ha1, ha2, ha3, ha4⟩ := h.a.setZ hi
 have hga : sa.blk = [ga] := by simp [Sl.blk, ha1]
 refine ⟨sa, h.box.cell 0 _ rfl, ⟨by omega, by omega⟩, _, ha1, ga, i, 3, ca, by simp [Addr.add_lit], ha2, by omega, by simp, fun w1 hC1 hb1 => ?_⟩
 have hBa : B ∉ [ga] := by
  have := h.a.other h.box (by decide)
  rw [hga] at this; exact this
 have hO1 := ha4 w1 (j : Int) hb1
 have hbox1 := h.box.keep hC1 hBa
 have hP1 : Own A w1 sb 1 3 (fb.map zc) := h.b.keep hC1 (fun b hb hm => h.apart b (by rw [hga]; exact hm) hb)
 obtain ⟨gb, cb, hb1', hb2, hb3, hb4⟩ := hP1.setZ hj
 have hgb : sb.blk = [gb] := by simp [Sl.blk, hb1']
 refine ⟨sb, hbox1.cell 1 _ rfl, ⟨by omega, by omega⟩, _, hb1', gb, j, 3, cb, by simp [Addr.add_lit], hb2, by omega, by simp, fun w2 hC2 hb2' => ?_⟩
 have hBb : B ∉ [gb] := by
  have := h.b.other h.box (by decide)
  rw [hgb] at this; exact this
 refine ⟨(hC1.mono (by simp [hga])).trans (hC2.mono (by simp [hgb])), rfl, hbox1.keep hC2 hBb, h.out, ?_, hb4 w2 (i : Int) hb2', h.apart⟩
 exact hO1.keep hC2 (fun b hb hm => h.apart b hb (by rw [hgb]; exact hm))
end
section
open Go.RowKit Go.MapKept
structure CRd (w : World) (c : Nat) (o x : T) (ro rx L : Sl) (m : Nat) (sa sb : Sl) (fa fb : List Int) : Prop where
 box : Box w c 91 [ro.v, rx.v, .pointer (some ⟨m, 0, none⟩), L.v]
 o : RItems w ro o
 x : RItems w rx x
 m : MRd [] w m sa sb fa fb
theorem CRd.ext {w w' : World} {c : Nat} {o x : T} {ro rx L : Sl} {m : Nat} {sa sb : Sl} {fa fb : List Int} (h : CRd w c o x ro rx L m sa sb fa fb) (k : Ext w w') : CRd w' c o x ro rx L m sa sb fa fb := ⟨h.box.ext k, h.o.ext k, h.x.ext k, h.m.ext k⟩
def idF (fb : List Int) (k : Nat) : Int := if 0 ≤ fb.getD k 0 then fb.getD k 0 else -2 - (k : Int)
theorem refId {w : World} {c : Nat} {o x : T} {ro rx L : Sl} {m : Nat} {sa sb : Sl} {fa fb : List Int} (h : CRd w c o x ro rx L m sa sb fa fb) {k : Nat} (hk : k < fb.length) (hb : fb.length ≤ 1000000000) :
  Calls Try.prog 67 #[.pointer (some ⟨c, 0, none⟩), .int .i64 (k : Int)] w (Ret fun v w' => Ext w w' ∧ v = .int .i64 (idF fb k)) := by
 refine ref25_C_id.ok _ _ ?_
 unfold ref25_C_id.vc
 obtain ⟨p, hp, hc⟩ := h.m.b.row.zAt hk
 have hn := h.m.b.len
 rw [List.length_map] at hn
 refine ⟨_, h.box.cell 2 _ rfl, _, rfl, sb, h.m.box.cell 1 _ rfl, ⟨by omega, by omega⟩, p, hp, fb.getD k 0, hc, fun h0 => ⟨_, h.box.cell 2 _ rfl, _, rfl, sb, h.m.box.cell 1 _ rfl, ⟨by omega, by omega⟩, p, hp, fb.getD k 0, hc, Chg.refl _ _, ?_⟩, fun h0 => ⟨⟨by omega, by omega⟩, Chg.refl _ _, ?_⟩⟩
 ·unfold idF; rw [if_pos h0]
 ·unfold idF; rw [if_neg h0]
theorem refKids25 {w : World} {c : Nat} {o x : T} {ro rx L : Sl} {m : Nat} {sa sb : Sl} {fa fb : List Int} (h : CRd w c o x ro rx L m sa sb fa fb) {p : Nat} (hp : p < x.size) (hx : x.size ≤ 1000000000) (hfb : fb.length = x.size) :
  Calls Try.prog 68 #[.pointer (some ⟨c, 0, none⟩), .int .i64 (p : Int)] w (Ret fun v w' => Ext w w' ∧ ∃ s : Sl, v = s.v ∧ Own (List.range w.heap.size) w' s 1 3 (((x.kidsAt p).map (idF fb)).map zc)) := by
 refine ref25_C_Kids.ok _ _ ?_
 unfold ref25_C_Kids.vc
 refine ⟨rx, h.box.cell 1 _ rfl, CallK.ext (refKids h.x hx hp) ?_⟩
 rintro v w1 hE1 ⟨s, rfl, hK⟩
 have hkl := x.kidsAt_lt hp
 have hkn := T.kidsAt_len x hp
 have hsn := hK.len
 rw [List.length_map] at hsn
 have hK' : Own (List.range w.heap.size) w1 s 1 3 (((x.kidsAt p).map fun k : Nat => (k : Int)).map zc) := by
  have e : (x.kidsAt p).map nc = ((x.kidsAt p).map fun k : Nat => (k : Int)).map zc := by simp [nc, zc]
  rwa [e] at hK
 refine ⟨s, rfl, fun i w' => ∃ k : Nat, i = (k : Int) ∧ k ≤ (x.kidsAt p).length ∧ Own (List.range w.heap.size) w' s 1 3 ((((x.kidsAt p).take k).map (idF fb) ++ ((x.kidsAt p).drop k).map fun k : Nat => (k : Int)).map zc) ∧ Ext w w', fun i _ => (x.kidsAt p).length - i.toNat, ⟨0, rfl, by omega, by simpa using hK', hE1⟩, ?_⟩
 rintro _ w2 ⟨k, rfl, hk, hO, hE2⟩
 refine ⟨fun hi => ?_, fun hi => ?_⟩
 ·have hk' : k < (x.kidsAt p).length := by omega
  have hlen : (((x.kidsAt p).take k).map (idF fb) ++ ((x.kidsAt p).drop k).map fun k : Nat => (k : Int)).length = (x.kidsAt p).length := by simp; omega
  obtain ⟨a, ha, hc⟩ := hO.row.zAt (k := k) (by omega)
  have hdr : (x.kidsAt p).drop k = (x.kidsAt p).getD k 0 :: (x.kidsAt p).drop (k + 1) := by
   rw [List.drop_eq_getElem_cons hk', List.getD_eq_getElem?_getD, List.getElem?_eq_getElem hk']; rfl
  have htk := take_snoc (x.kidsAt p) 0 hk'
  have hq := hkl _ (getD_mem (d := 0) hk')
  generalize (x.kidsAt p).getD k 0 = q at hdr htk hq
  have hget : (((x.kidsAt p).take k).map (idF fb) ++ ((x.kidsAt p).drop k).map fun k : Nat => (k : Int)).getD k 0 = (q : Int) := by
   rw [List.getD_eq_getElem?_getD, List.getElem?_append_right (by simp; omega), hdr]
   simp [Nat.min_eq_left hk]
  rw [hget] at hc
  refine ⟨⟨by omega, by omega⟩, a, ha, _, hc, CallK.exact (refId (h.ext hE2) (by omega) (by omega)) fun w3 hE3 => ⟨_, rfl, ⟨by omega, by omega⟩, a, ha, ?_⟩⟩
  obtain ⟨g, cur, hg1, hg2, hg3, hg4⟩ := (hO.ext hE3).setZ (i := k) (by omega)
  have hga : s.blk = [g] := by simp [Sl.blk, hg1]
  have hag : a = ⟨g, 0, none⟩ := by rw [hg1] at ha; exact (Option.some.inj ha).symm
  refine ⟨g, k, 3, cur, by rw [hag]; simp [Addr.add_lit], hg2, by omega, by simp, fun w4 hC4 hb4 => ⟨⟨by omega, by omega⟩, ⟨k + 1, by omega, by omega, ?_, ?_⟩, by dsimp only; omega⟩⟩
  ·have := hg4 w4 (idF fb q) (by simpa using hb4)
   rw [htk]
   have e : (((x.kidsAt p).take k).map (idF fb) ++ ((x.kidsAt p).drop k).map fun k : Nat => (k : Int)).set k (idF fb q) = (((x.kidsAt p).take k ++ [q]).map (idF fb) ++ ((x.kidsAt p).drop (k + 1)).map fun k : Nat => (k : Int)) := by
    rw [hdr, List.set_append_right _ _ (by simp; omega)]
    simp [Nat.min_eq_left hk]
   rwa [e] at this
  ·refine Chg.fresh (hE2.trans hE3) hC4 fun b hb => ?_
   have := (hO.blk b (by rw [hga]; exact hb)).1
   simp at this; omega
 ·have hkl' : k = (x.kidsAt p).length := by omega
  subst hkl'
  refine ⟨hE2, s, rfl, ?_⟩
  simpa using hO
def slotR (o x : T) (fa fb : List Int) (i : Nat) : SV := if fa.getD i 0 < 0 then ⟨true, false, [], [], 0, []⟩ else
 ⟨false, decide ((o.nd i).t.text ≠ (x.nd (fa.getD i 0).toNat).t.text), setOf (o.nd i).t.attrs (x.nd (fa.getD i 0).toNat).t.attrs, unsetOf (o.nd i).t.attrs (x.nd (fa.getD i 0).toNat).t.attrs, if 0 ≤ (x.nd (fa.getD i 0).toNat).par then idF fb (x.nd (fa.getD i 0).toNat).par.toNat else -1, (x.kidsAt (fa.getD i 0).toNat).map (idF fb)⟩
theorem attrs_le (t : T) {j : Nat} (hb : t.bulk ≤ 400000000) (hj : j < t.size) : (t.nd j).t.attrs.length ≤ 1000000000 := by
 have h1 := T.flat_bulk t _ (List.mem_of_getElem? (t.flat_get hj))
 have h2 := T.slots_bulk (t.nd j).t
 have h3 := T.slots_eq (t.nd j).t
 have h4 : (t.nd j).t.bulk ≤ t.bulk := h1
 omega
theorem refSlot {w : World} {c : Nat} {o x : T} {ro rx L : Sl} {m : Nat} {sa sb : Sl} {fa fb : List Int} (h : CRd w c o x ro rx L m sa sb fa fb) (no : o.bulk ≤ 400000000) (nx : x.bulk ≤ 400000000) (hfa : fa.length = o.size) (hfb : fb.length = x.size) {i : Nat} (hi : i < o.size) (hlt : ∀ z ∈ fa, z < x.size) :
  Calls Try.prog 46 #[.pointer (some ⟨c, 0, none⟩), .int .i64 (i : Int)] w (Ret fun v w' => Ext w w' ∧ ∃ se un ki : Sl, v = .agg (slc (slotR o x fa fb i) se un ki).toArray ∧ Own [] w' se 2 47 ((slotR o x fa fb i).set.map ac) ∧ Own [] w' un 1 9 ((slotR o x fa fb i).unset.map wc) ∧ Own [] w' ki 1 3 ((slotR o x fa fb i).kids.map zc)) := by
 refine ref25_C_slot.ok _ _ ?_
 unfold ref25_C_slot.vc
 have hso := T.size_bulk o
 have hsx := T.size_bulk x
 intro w1 B3 hN3 hE1
 have g3 := hN3.ge
 have h1 := h.ext hE1
 obtain ⟨p, hp, hc⟩ := h1.m.a.row.zAt (k := i) (by omega)
 have hn := h1.m.a.len
 rw [List.length_map] at hn
 have hmem := hlt _ (getD_mem (d := 0) (show i < fa.length by omega))
 refine ⟨_, h1.box.cell 2 _ rfl, _, rfl, sa, h1.m.box.cell 0 _ rfl, ⟨by omega, by omega⟩, p, hp, fa.getD i 0, hc, fun hneg w2 hC2 => ?_, fun hpos w2 hE2 => ?_⟩
 ·have e : slotR o x fa fb i = ⟨true, false, [], [], 0, []⟩ := by unfold slotR; rw [if_pos hneg]
  rw [e]
  exact ⟨Chg.fresh hE1 hC2 (by simpa using g3), Sl.nil, Sl.nil, Sl.nil, rfl, Own.nil _ _ _ _, Own.nil _ _ _ _, Own.nil _ _ _ _⟩
 have hsl : slotR o x fa fb i = slotR o x fa fb i := rfl
 conv at hsl => rhs; unfold slotR
 rw [if_neg hpos] at hsl
 rw [hsl]
 clear hsl
 generalize fa.getD i 0 = z at hmem hpos
 obtain ⟨j, rfl⟩ : ∃ j : Nat, z = (j : Int) := ⟨z.toNat, by omega⟩
 simp only [Int.toNat_natCast]
 have hj : j < x.size := by omega
 have h2 := h1.ext hE2
 have hE02 := hE1.trans hE2
 obtain ⟨hon, po, hpo, hoc⟩ := h2.o.at
 obtain ⟨hxn, px, hpx, hxc⟩ := h2.x.at
 obtain ⟨oa, oq, ok', hoc, hor⟩ := hoc w2 (Chg.refl _ _) i hi
 obtain ⟨xa, xq, xk, hxcj, hxr⟩ := hxc w2 (Chg.refl _ _) j hj
 have nao := attrs_le o no hi
 have nax := attrs_le x nx hj
 generalize hta : (o.nd i).t.attrs = aa at hor nao
 generalize htb : (x.nd j).t.attrs = bb at hxr nax
 refine ⟨ro, h2.box.cell 0 _ rfl, po, ⟨⟨by omega, by omega⟩, hpo⟩, (o.nd i).t.kind, (o.nd i).t.name, (o.nd i).t.text, oa, Sl.nil, ?_, rx, h2.box.cell 1 _ rfl, px, ⟨⟨by omega, by omega⟩, hpx⟩, (x.nd j).t.kind, (x.nd j).t.name, (x.nd j).t.text, xa, Sl.nil, ?_, ?_⟩
 ·exact Cells.take (Cells.drop hoc 5) 5
 ·exact Cells.take (Cells.drop hxcj 5) 5
 intro w3 B4 B5 hE3 g4 hb4 g5 hb5 w4 B6 hN6 hC4
 have g6 := hN6.ge
 have l6 := hN6.lt
 have s02 := hE02.size
 have s3 := hE3.size
 have hE24 : Ext w2 w4 := Chg.fresh hE3 hC4 (by simp; omega)
 have h4 := h2.ext hE24
 have hla := hor.len
 have hlb := hxr.len
 rw [List.length_map] at hla hlb
 have s24 := hE24.size
 have hB4 : B4 < w4.heap.size ∧ B5 < w4.heap.size ∧ B3 < w2.heap.size := by
  have := hN3.lt
  have := hb4.lt; have := hb5.lt; have := hC4.size; have := hE2.size; have := hN6.ge
  omega
 have hAs : ∀ w' : World, w4.heap.size ≤ w'.heap.size → ∀ b ∈ B3 :: B4 :: B5 :: B6 :: List.range w2.heap.size, b < w'.heap.size := fun w' hw b hb => by
  simp only [List.mem_cons, List.mem_range] at hb
  rcases hb with rfl | rfl | rfl | rfl | hb <;> omega
 have hAg : ∀ {s : Sl} {w' : World} {S : TypeId} {sz : Nat} {us : List (List Value)}, Own (B3 :: B4 :: B5 :: B6 :: List.range w2.heap.size) w' s sz S us → ∀ b ∈ s.own, w2.heap.size ≤ b := fun ho b hb => by
  have := (ho.blk b (Sl.own_blk hb)).1
  simp at this; omega
 have hO6 : ∀ {w' w'' : World}, Ext w2 w' → Chg [B6] w' w'' → Ext w2 w'' := fun h c => Chg.fresh h c (by simp; omega)
 refine ⟨fun i c w' => ∃ k : Nat, i = (k : Int) ∧ k ≤ bb.length ∧ Own (B3 :: B4 :: B5 :: B6 :: List.range w2.heap.size) w' c 2 47 (((bb.take k).filter (setKeep aa)).map ac) ∧ w4.heap.size ≤ w'.heap.size ∧ Ext w2 w', fun i _ _ => bb.length - i.toNat, ⟨0, rfl, by omega, Own.nil _ _ _ _, Nat.le_refl _, hE24⟩, ?_⟩
 rintro _ c1 w5 ⟨k, rfl, hk, hO, hsz, hE25⟩
 refine ⟨fun hi w6 hE6 => ?_, fun hi => ?_⟩
 ·have hk' : k < bb.length := by omega
  have hE26 := hE25.trans hE6
  obtain ⟨pp, hpp, hcc⟩ := (hxr.ext hE26).row.attrAt hk'
  have hcq : ∀ w', Ext w6 w' → Cells w' (pp.add (k * 2)) (ac (bb.getD k ([], []))) := fun w' hE => hcc.ext hE
  have hfs := filter_take_succ (setKeep aa) ([], []) hk'
  generalize bb.getD k ([], []) = q at hcq hcc hfs
  obtain ⟨qn, qv⟩ := q
  refine ⟨pp, ⟨⟨by omega, hi⟩, hpp⟩, qn, hcc 0 _ rfl, (attrGet aa qn).1, (attrGet aa qn).2, fun w' hE => refAttr (hor.ext (hE26.trans hE)).row qn, pp, fun _ => ⟨⟨by omega, hi⟩, hpp⟩, fun w7 hE7 => ⟨qv, fun _ => hcq w7 hE7 1 _ rfl, fun hset w8 hE8 => ⟨pp, ⟨⟨by omega, hi⟩, hpp⟩, qn, qv, hcq w8 (hE7.trans hE8), fun w9 B9 hE9 g9 hb9 _ => ?_⟩, fun hno => ⟨⟨by omega, by omega⟩, ⟨k + 1, by omega, by omega, ?_, ?_, hE26.trans hE7⟩, by dsimp only; omega⟩⟩⟩
  ·have hE59 := ((hE6.trans hE7).trans hE8).trans hE9
   have hkeep : setKeep aa (qn, qv) = true := by
    unfold setKeep
    rcases hset with h | h
    ·rw [show (attrGet aa qn).2 = false from h]; rfl
    ·rw [decide_eq_false (show ¬ (attrGet aa qn).1 = qv from h)]; simp
   have hcn := hO.len
   rw [List.length_map] at hcn
   have hcl : ((bb.take k).filter (setKeep aa)).length ≤ k := Nat.le_trans (List.length_filter_le _ _) (by simp; omega)
   have hbox' : Box w9 B9 47 (ac (qn, qv)) := hb9
   have s9 := hE59.size
   refine App.runK Try.underlying23 ti_47 rfl (by decide) (.inl (hO.ext hE59)) (hAs w9 (by omega)) (Own.one (A := []) hbox' (by simp)).row (ones_ac _) (by simp) (by simp only [maxLen, List.length_singleton]; omega) (by simp only [List.length_singleton]; omega) (fun x hx => by simp at hx ⊢; omega) fun s' w10 ho10 hC10 hb10 => ⟨s', rfl, ⟨by omega, by omega⟩, fun w11 hC11 => ⟨⟨k + 1, by omega, by omega, ?_, ?_, ?_⟩, by dsimp only; omega⟩⟩
   ·rw [hfs, hkeep, if_pos rfl, List.map_append]
    exact ho10.chg hC11 (by simp)
   ·have := hC10.size; have := hC11.size; omega
   ·exact hO6 (Chg.fresh (hE25.trans hE59) hC10 (hAg hO)) hC11
  ·have hkeep : setKeep aa (qn, qv) = false := by
    unfold setKeep
    rw [show (attrGet aa qn).2 = true from hno.1, show (attrGet aa qn).1 = qv from Classical.not_not.1 hno.2]; simp
   rw [hfs, hkeep]; simpa using (hO.ext (hE6.trans hE7))
  ·have := (hE6.trans hE7).size; omega
 have hkl : k = bb.length := by omega
 subst hkl
 rw [List.take_of_length_le (Nat.le_refl _)] at hO
 refine ⟨fun i u w' => ∃ k : Nat, i = (k : Int) ∧ k ≤ aa.length ∧ Own (B3 :: B4 :: B5 :: B6 :: List.range w2.heap.size) w' u 1 9 ((((aa.take k).filter fun p => !(attrGet bb p.1).2).map (·.1)).map wc) ∧ Own (B3 :: B4 :: B5 :: B6 :: List.range w2.heap.size) w' c1 2 47 ((setOf aa bb).map ac) ∧ w4.heap.size ≤ w'.heap.size ∧ Ext w2 w', fun i _ _ => aa.length - i.toNat, ⟨0, rfl, by omega, Own.nil _ _ _ _, hO, hsz, hE25⟩, ?_⟩
 rintro _ u w6 ⟨k, rfl, hk, hU, hO3, hsz3, hE26⟩
 refine ⟨fun hi w7 hE7 => ?_, fun hi => ?_⟩
 ·have hk' : k < aa.length := by omega
  have hE27 := hE26.trans hE7
  obtain ⟨pp, hpp, hcc⟩ := (hor.ext hE27).row.attrAt hk'
  have hcq : ∀ w', Ext w7 w' → Cells w' (pp.add (k * 2)) (ac (aa.getD k ([], []))) := fun w' hE => hcc.ext hE
  have hfs := filter_take_succ (fun p => !(attrGet bb p.1).2) ([], []) hk'
  generalize aa.getD k ([], []) = q at hcq hcc hfs
  obtain ⟨qn, qv⟩ := q
  refine ⟨pp, ⟨⟨by omega, hi⟩, hpp⟩, qn, hcc 0 _ rfl, (attrGet bb qn).1, (attrGet bb qn).2, fun w' hE => refAttr (hxr.ext (hE27.trans hE)).row qn, fun hset w8 hE8 => ⟨pp, ⟨⟨by omega, hi⟩, hpp⟩, qn, hcq w8 hE8 0 _ rfl, fun w9 B9 hE9 g9 hb9 _ => ?_⟩, fun hno => ⟨⟨by omega, by omega⟩, fun w8 hE8 => ⟨⟨k + 1, by omega, by omega, ?_, hO3.ext (hE7.trans hE8), ?_, hE27.trans hE8⟩, by dsimp only; omega⟩⟩⟩
  ·have hE69 := (hE7.trans hE8).trans hE9
   have hun := hU.len
   rw [List.length_map, List.length_map] at hun
   have hul : ((aa.take k).filter fun p => !(attrGet bb p.1).2).length ≤ k := Nat.le_trans (List.length_filter_le _ _) (by simp; omega)
   have hbox' : Box w9 B9 9 (wc qn) := hb9
   have s9 := hE69.size
   refine App.runK Try.underlying41 ti_9 rfl (by decide) (.inl (hU.ext hE69)) (hAs w9 (by omega)) (Own.one (A := []) hbox' (by simp)).row (ones_wc _) (by simp) (by simp only [maxLen, List.length_singleton]; omega) (by simp only [List.length_singleton]; omega) (fun x hx => by simp at hx ⊢; omega) fun s' w10 ho10 hC10 hb10 => ⟨s', rfl, ⟨by omega, by omega⟩, fun w11 hC11 => ⟨⟨k + 1, by omega, by omega, ?_, ?_, ?_, ?_⟩, by dsimp only; omega⟩⟩
   ·rw [hfs, show (!(attrGet bb (qn, qv).1).2) = true by rw [show (attrGet bb qn).2 = false from hset]; rfl, if_pos rfl, List.map_append, List.map_append]
    exact ho10.chg hC11 (by simp)
   ·have h9 := hO3.ext hE69
    exact (h9.keep hC10 (fun x hx hm => ((hU.ext hE69).apart h9 (by decide)) x (Sl.own_blk hm) hx)).chg hC11 (by simp)
   ·have := hC10.size; have := hC11.size; omega
   ·exact hO6 (Chg.fresh (hE26.trans hE69) hC10 (hAg hU)) hC11
  ·rw [hfs, show (!(attrGet bb (qn, qv).1).2) = false by rw [show (attrGet bb qn).2 = true from hno]; rfl]; simpa using (hU.ext (hE7.trans hE8))
  ·have := (hE7.trans hE8).size; omega
 have hkl : k = aa.length := by omega
 subst hkl
 rw [List.take_of_length_le (Nat.le_refl _)] at hU
 have h6 := h2.ext hE26
 obtain ⟨_, px', hpx', hxc'⟩ := h6.x.at
 rw [hpx] at hpx'; cases hpx'
 obtain ⟨_, _, _, hxcj', _⟩ := hxc' w6 (Chg.refl _ _) j hj
 have hpar := hxcj' 0 _ rfl
 have hpl : (x.nd j).par < j := T.flat_lt x (x.flat_get hj)
 refine ⟨rx, h6.box.cell 1 _ rfl, ⟨by omega, by omega⟩, px, hpx, (x.nd j).par, hpar, fun c' w' => c' = (if 0 ≤ (x.nd j).par then idF fb (x.nd j).par.toNat else -1) ∧ Own (B3 :: B4 :: B5 :: B6 :: List.range w2.heap.size) w' c1 2 47 ((setOf aa bb).map ac) ∧ Own (B3 :: B4 :: B5 :: B6 :: List.range w2.heap.size) w' u 1 9 ((unsetOf aa bb).map wc) ∧ Ext w2 w' ∧ w4.heap.size ≤ w'.heap.size, ⟨fun h0 => ⟨rx, h6.box.cell 1 _ rfl, ⟨by omega, by omega⟩, px, hpx, (x.nd j).par, hpar, ?_⟩, fun h0 => ⟨by rw [if_neg h0], hO3, hU, hE26, hsz3⟩⟩, ?_⟩
 ·have hid := refId h6 (k := (x.nd j).par.toNat) (by omega) (by omega)
  rw [show (((x.nd j).par.toNat : Nat) : Int) = (x.nd j).par by omega] at hid
  refine CallK.exact hid fun w7 hE7 => ⟨_, rfl, fun w8 hC8 => ⟨by rw [if_pos h0], (hO3.ext hE7).chg hC8 (by simp), (hU.ext hE7).chg hC8 (by simp), hO6 (hE26.trans hE7) hC8, by have := hE7.size; have := hC8.size; omega⟩⟩
 rintro c' w7 ⟨rfl, hO7, hU7, hE27, hsz7⟩
 refine CallK.ext (refKids25 (h2.ext hE27) hj (by omega) hfb) ?_
 rintro v w8 hE8 ⟨ki, rfl, hK⟩
 have hE28 := hE27.trans hE8
 refine ⟨ki, rfl, fun w9 hC9 => ⟨?_, c1, u, ki, rfl, ?_, ?_, ?_⟩⟩
 ·exact Chg.fresh (hE02.trans hE28) hC9 (by simp; omega)
 ·exact ((hO7.ext hE8).chg hC9 (by simp)).less (by simp)
 ·exact ((hU7.ext hE8).chg hC9 (by simp)).less (by simp)
 ·refine (hK.chg hC9 fun b hb => ?_).less (by simp)
  have := hE27.size
  simp only [List.mem_cons, List.not_mem_nil, or_false] at hb
  have := hE2.size
  rw [List.mem_range]
  rcases hb with rfl | rfl
  ·omega
  ·omega
theorem RItems.box {w w' : World} {s : Sl} {t : T} (h : RItems w s t) {B : Nat} {S : TypeId} {cs : List Value} (hB : Box w B S cs) (h1 : 38 ≠ S) (h2 : 47 ≠ S) (c : Chg [B] w w') : RItems w' s t := by
 obtain ⟨rows, ho, hr⟩ := h
 refine ⟨rows, ho.keep c fun b hb hm => ?_, hr.1, fun i e u he hu => ?_⟩
 ·have := ho.other hB h1
  simp at hm; subst hm; exact this hb
 ·obtain ⟨a, sa, sk, e1, e2, e3⟩ := hr.2 i e u he hu
  refine ⟨a, sa, sk, e1, e2.keep c (fun b hb hm => ?_), e3⟩
  have := e2.other hB h2
  simp at hm; subst hm; exact this hb
def setA (l : List Int) (p : Int × Int) : List Int := l.set p.1.toNat p.2
def faN (n : Nat) (ps : List (Int × Int)) : List Int := ps.foldl setA (List.replicate n (-1))
theorem faN_len (n : Nat) (ps : List (Int × Int)) : (faN n ps).length = n := by
 have key : ∀ (ps : List (Int × Int)) (l : List Int), (ps.foldl setA l).length = l.length := by
  intro ps
  induction ps with
  |nil => intro l; rfl
  |cons p r ih => intro l; rw [List.foldl_cons, ih]; simp [setA]
 unfold faN; rw [key]; simp
theorem faN_snoc (n : Nat) (ps : List (Int × Int)) (p : Int × Int) : faN n (ps ++ [p]) = (faN n ps).set p.1.toNat p.2 := by
 unfold faN; rw [List.foldl_append]; rfl
theorem faN_get (n : Nat) (i : Nat) (hi : i < n) (ps : List (Int × Int)) (hp : ∀ p ∈ ps, 0 ≤ p.1) : (faN n ps).getD i 0 = (toF ps i).getD (-1) := by
 have key : ∀ (r l : List (Int × Int)), (∀ p ∈ r, 0 ≤ p.1) → (faN n l).getD i 0 = (toF l i).getD (-1) → (faN n (l ++ r)).getD i 0 = (toF (l ++ r) i).getD (-1) := by
  intro r
  induction r with
  |nil => intro l _ h; simpa using h
  |cons p r ih =>
   intro l hp h
   have e : l ++ p :: r = (l ++ [p]) ++ r := by simp
   rw [e]
   refine ih (l ++ [p]) (fun q hq => hp q (by simp [hq])) ?_
   rw [faN_snoc, toF_snoc]
   have h0 := hp p (by simp)
   have hl := faN_len n l
   by_cases hq : (i : Int) = p.1
   ·rw [if_pos hq]
    rw [List.getD_eq_getElem?_getD, List.getElem?_set, if_pos (by omega), if_pos (by omega)]; rfl
   ·rw [if_neg hq, ← h, List.getD_eq_getElem?_getD, List.getElem?_set, if_neg (by omega), ← List.getD_eq_getElem?_getD]
 have := key ps [] hp (by simp [faN, toF, List.getD_eq_getElem?_getD, hi])
 simpa using this
theorem faN_lt (n m : Nat) : ∀ (ps : List (Int × Int)), (∀ p ∈ ps, p.2 < (m : Int)) → ∀ z ∈ faN n ps, z < m := by
 have key : ∀ (ps : List (Int × Int)) (l : List Int), (∀ p ∈ ps, p.2 < (m : Int)) → (∀ z ∈ l, z < m) → ∀ z ∈ ps.foldl setA l, z < m := by
  intro ps
  induction ps with
  |nil => intro l _ h; exact h
  |cons p r ih =>
   intro l hp h
   rw [List.foldl_cons]
   refine ih _ (fun q hq => hp q (by simp [hq])) fun z hz => ?_
   rcases List.mem_or_eq_of_mem_set hz with hz | hz
   ·exact h z hz
   ·rw [hz]; exact hp p (by simp)
 intro ps hp
 exact key ps _ hp fun z hz => by rw [(List.mem_replicate.1 hz).2]; omega
theorem slotR_eq {o x : T} {ps : List (Int × Int)} (hp : ∀ p ∈ ps, 0 ≤ p.1 ∧ p.1 < o.size ∧ 0 ≤ p.2 ∧ p.2 < x.size) {i : Nat} (hi : i < o.size) : slotR o x (faN o.size ps) (faN x.size (ps.map swapP)) i = slotOf o x ps i := by
 have hA := faN_get o.size i hi ps (fun p h => (hp p h).1)
 have hB : ∀ k, k < x.size → idF (faN x.size (ps.map swapP)) k = num ps (k : Int) := fun k hk => by
  have h := faN_get x.size k hk (ps.map swapP) (fun p h => by
   obtain ⟨q, hq, rfl⟩ := List.mem_map.1 h
   exact (hp q hq).2.2.1)
  unfold idF num
  rw [h]
  cases e : toF (ps.map swapP) k with
  |none => rfl
  |some z =>
   have hm := toF_mem e
   obtain ⟨q, hq, hqe⟩ := List.mem_map.1 hm
   have h0 := (hp q hq).1
   have : z = q.1 := by
    have := congrArg Prod.snd hqe
    exact this.symm
   simp only [Option.getD_some]
   rw [if_pos (by omega)]
 unfold slotR slotOf
 rw [hA]
 cases e : toF ps i with
 |none => rfl
 |some z =>
  have hm := hp _ (toF_mem e)
  simp only at hm
  simp only [Option.getD_some]
  rw [if_neg (by omega)]
  have hz : z.toNat < x.size := by omega
  have e1 : (x.kidsAt z.toNat).map (idF (faN x.size (ps.map swapP))) = (x.kidsAt z.toNat).map fun k : Nat => num ps (k : Int) := List.map_congr_left fun k hk => hB k (x.kidsAt_lt hz k hk).2
  rw [e1]
  by_cases h0 : 0 ≤ (x.nd z.toNat).par
  ·have hpl : (x.nd z.toNat).par < z.toNat := T.flat_lt x (x.flat_get hz)
   rw [if_pos h0, if_pos h0, hB _ (by omega), Int.toNat_of_nonneg h0]
  ·rw [if_neg h0, if_neg h0]
end
section
open Go.RowKit Go.MapKept
def RSlots (A : List Nat) (w : World) (s : Sl) (vs : List SV) : Prop := ∃ rows : List (List Value), Own A w s 6 93 rows ∧ rows.length = vs.length ∧ ∀ (i : Nat) (v : SV) (row : List Value), vs[i]? = some v → rows[i]? = some row → SlotAt w v row
theorem RSlots.ext {A : List Nat} {w w' : World} {s : Sl} {vs : List SV} (h : RSlots A w s vs) (c : Ext w w') : RSlots A w' s vs := by
 obtain ⟨rows, h1, h2, h3⟩ := h
 exact ⟨rows, h1.ext c, h2, fun i v row hv hr => (h3 i v row hv hr).ext c⟩
theorem RSlots.less {A A' : List Nat} {w : World} {s : Sl} {vs : List SV} (h : RSlots A w s vs) (hA : ∀ b ∈ A', b ∈ A) : RSlots A' w s vs := by
 obtain ⟨rows, h1, h2, h3⟩ := h
 exact ⟨rows, h1.less hA, h2, h3⟩
theorem RSlots.len {A : List Nat} {w : World} {s : Sl} {vs : List SV} (h : RSlots A w s vs) : s.n = vs.length := by
 obtain ⟨rows, h1, h2, h3⟩ := h
 rw [h1.len, h2]
theorem RSlots.at {A : List Nat} {w : World} {s : Sl} {vs : List SV} (h : RSlots A w s vs) {i : Nat} (hi : i < vs.length) : ∃ (p : Addr) (se un ki : Sl), s.a = some p ∧ Cells w (p.add (i * 6)) (slc (vs.getD i sv0) se un ki) ∧ Own [] w se 2 47 ((vs.getD i sv0).set.map ac) ∧ Own [] w un 1 9 ((vs.getD i sv0).unset.map wc) ∧ Own [] w ki 1 3 ((vs.getD i sv0).kids.map zc) := by
 obtain ⟨rows, h1, h2, h3⟩ := h
 obtain ⟨p, hp, _, hc, _⟩ := h1.row.at_ i (by omega)
 have hr : rows[i]? = some (rows.getD i []) := by rw [List.getD_eq_getElem?_getD, List.getElem?_eq_getElem (by omega)]; rfl
 have hv : vs[i]? = some (vs.getD i sv0) := by rw [List.getD_eq_getElem?_getD, List.getElem?_eq_getElem hi]; rfl
 obtain ⟨se, un, ki, e, a1, a2, a3⟩ := h3 i _ _ hv hr
 rw [e] at hc
 exact ⟨p, se, un, ki, hp, hc, a1, a2, a3⟩
theorem SlotAt.keep {w w' : World} {v : SV} {row : List Value} (h : SlotAt w v row) {F : List Nat} (c : Chg F w w') (hF : ∀ {s : Sl} {n : Nat} {S : TypeId} {us : List (List Value)}, Own [] w s n S us → 93 ≠ S → 91 ≠ S → ∀ b ∈ s.blk, b ∉ F) : SlotAt w' v row := by
 obtain ⟨se, un, ki, e, a1, a2, a3⟩ := h
 exact ⟨se, un, ki, e, a1.keep c (hF a1 (by decide) (by decide)), a2.keep c (hF a2 (by decide) (by decide)), a3.keep c (hF a3 (by decide) (by decide))⟩
theorem refSame25 {A B : List Nat} {w : World} {a b : Sl} {xs ys : List Int} (ha : Row A w a 1 (xs.map zc)) (hb : Row B w b 1 (ys.map zc)) :
  Calls Try.prog 70 #[a.v, b.v] w (Ret fun v w' => Ext w w' ∧ v = .bool (decide (xs = ys))) := by
 refine ref25_Same.ok _ _ ?_
 unfold ref25_Same.vc
 have hla := ha.len
 have hlb := hb.len
 have hma := ha.most
 have hca := ha.cap
 simp only [maxLen] at hma
 rw [List.length_map] at hla hlb
 refine ⟨fun hne => ⟨Chg.refl _ _, ?_⟩, fun he => ?_⟩
 ·rw [decide_eq_false]; intro e; rw [e] at hla; omega
 refine ⟨fun i w' => ∃ k : Nat, i = (k : Int) ∧ k ≤ xs.length ∧ (xs = ys ↔ xs.drop k = ys.drop k) ∧ Ext w w', fun i _ => xs.length - i.toNat, ⟨0, rfl, by omega, by simp, Chg.refl _ _⟩, ?_⟩
 rintro _ w2 ⟨k, rfl, hk, hiff, hE⟩
 refine ⟨fun hi w3 hE3 => ?_, fun hi => ⟨hE, ?_⟩⟩
 ·have hk' : k < xs.length := by omega
  have hky : k < ys.length := by omega
  obtain ⟨p, hp, hcp⟩ := ((ha.ext hE).ext hE3).zAt hk'
  obtain ⟨q, hq, hcq⟩ := ((hb.ext hE).ext hE3).zAt hky
  refine ⟨p, ⟨⟨by omega, by omega⟩, hp⟩, _, hcp, q, ⟨⟨by omega, by omega⟩, hq⟩, _, hcq, fun hne w4 hE4 => ⟨(hE.trans hE3).trans hE4, ?_⟩, fun heq => ⟨⟨by omega, by omega⟩, fun w4 hE4 => ⟨⟨k + 1, by omega, by omega, ?_, (hE.trans hE3).trans hE4⟩, by dsimp only; omega⟩⟩⟩
  ·rw [decide_eq_false]; intro e
   exact hne ((drop_eqZ hk' hky).1 (hiff.1 e)).1
  ·rw [hiff, drop_eqZ hk' hky]
   exact ⟨fun h => h.2, fun h => ⟨Classical.not_not.1 heq, h⟩⟩
 ·have hkl : k = xs.length := by omega
  subst hkl
  rw [decide_eq_true]
  rw [hiff, List.drop_length, List.drop_of_length_le (by omega)]
theorem refTouched {B : List Nat} {w : World} {t : T} {ro l : Sl} {vs : List SV} (hI : RItems w ro t) (hl : RSlots B w l vs) (nt : t.size ≤ 400000000) (id : Int) :
  Calls Try.prog 48 #[ro.v, l.v, .int .i64 id] w (Ret fun v w' => Ext w w' ∧ v = .bool (touched t vs id)) := by
 obtain ⟨R, hR⟩ : ∃ R, R = touched t vs id := ⟨_, rfl⟩
 rw [← hR]
 refine ref25_Touched.ok _ _ _ ?_
 unfold ref25_Touched.vc
 have hln := hl.len
 obtain ⟨hn, p, hp, hc⟩ := hI.at
 by_cases hid : id < 0 ∨ (t.size : Int) ≤ id ∨ (vs.length : Int) ≤ id
 ·have hf : R = false := by rw [hR]; unfold touched; rw [if_pos hid]
  exact ⟨⟨0, 0, none⟩, fun hg => by omega, false, fun hg => by omega, fun _ => ⟨Chg.refl _ _, by rw [hf]⟩, fun hg => by omega⟩
 ·have h1 : 0 ≤ id := by omega
  have h2 : id < t.size := by omega
  have h3 : id < vs.length := by omega
  obtain ⟨pl, se, un, ki, hpl, hcell, o1, o2, o3⟩ := hl.at (i := id.toNat) (by omega)
  unfold touched at hR
  rw [if_neg hid] at hR
  generalize vs.getD id.toNat sv0 = sv at hcell o1 o2 o3 hR
  obtain ⟨gone, text, set, unset, up, kids⟩ := sv
  have n1 := o1.len
  have n2 := o2.len
  rw [List.length_map] at n1 n2
  simp only at n1 n2 o3
  refine ⟨pl, fun _ => ⟨⟨h1, by omega⟩, hpl⟩, gone, fun _ => hcell 0 _ rfl, fun hbad => ⟨Chg.refl _ _, ?_⟩, fun hg => ⟨⟨h1, by omega⟩, pl, hpl, gone, text, se, un, up, ki, hcell, fun w3 B3 hN3 hE3 => ?_⟩⟩
  ·rcases hbad with ((hb | hb) | hb) | hb
   ·omega
   ·omega
   ·omega
   ·rw [hR, hb]; rfl
  ·have hgone : gone = false := hg.2
   subst hgone
   obtain ⟨_, _, _, hcc, _⟩ := hc w3 hE3 id.toNat (by omega)
   refine ⟨p, fun _ => ⟨⟨h1, by omega⟩, hp⟩, (t.nd id.toNat).par, fun _ => hcc 0 _ rfl, fun r w' => Own [] w' r 1 3 ((kidsZ t id.toNat).map zc), fun r w' w'' hE h => h.ext hE, fun _ w' hE => ?_, decide (kids = kidsZ t id.toNat), fun hgd r w' hE hr => ?_, fun w4 hE4 => ⟨hE3.trans hE4, ?_⟩⟩
   ·have hcall := refKids (hI.ext (hE3.trans hE)) (by omega) (j := id.toNat) (by omega)
    rw [show ((id.toNat : Nat) : Int) = id by omega] at hcall
    refine Ret.mono hcall ?_
    rintro v w'' ⟨a1, r, rfl, a2⟩
    exact ⟨a1, r, rfl, by rw [← kidsZ_nc]; exact a2.less (by simp)⟩
   ·exact refSame25 ((o3.ext (hE3.trans hE)).row) (hr hgd).row
   ·rw [hR, n1, n2]
    simp only [Bool.not_false, Bool.true_and]
    congr 1
    generalize decide (up ≠ (t.nd id.toNat).par) = b1
    generalize (!(decide (kids = kidsZ t id.toNat))) = b2
    cases b1 <;> cases b2 <;> simp
theorem refOf25 {A : List Nat} {w : World} {o x : T} {sa sk ta tk l : Sl} {ps : List (Int × Int)} (ho : RdT A w o sa sk) (hx : RdT A w x ta tk) (hl : Row A w l 2 (ps.map pc)) (no : o.bulk ≤ 400000000) (nx : x.bulk ≤ 400000000) (np : ps.length ≤ 400000000) :
  Calls Try.prog 21 #[tv o sa sk, tv x ta tk, l.v] w (Ret fun v w' => Ext w w' ∧ ((chkP o x ps = false ∧ v = .pointer none) ∨ (chkP o x ps = true ∧ ∃ (c : Nat) (ro rx L : Sl) (m : Addr), v = .pointer (some ⟨c, 0, none⟩) ∧ Box w' c 91 [ro.v, rx.v, .pointer (some m), L.v] ∧ RItems w' ro o ∧ RSlots [] w' L (slotsOf o x ps)))) := by
 refine ref25_Of.ok _ _ _ _ _ _ _ _ _ _ _ ?_
 unfold ref25_Of.vc
 have hln := hl.len
 rw [List.length_map] at hln
 have hso := T.size_bulk o
 have hsx := T.size_bulk x
 intro w1 B1 B2 _ _ _ hE1
 refine CallK.exact (refCheck21 (ho.ext hE1) (hx.ext hE1) (hl.ext hE1) no nx (by omega)) fun w2 hE2 => ⟨_, rfl, fun hf => ⟨hE1.trans hE2, .inl ⟨hf, rfl⟩⟩, fun ht w3 hE3 => ?_⟩
 have hE03 := (hE1.trans hE2).trans hE3
 have hvals := chkP_vals ht
 refine ⟨fun s w' => RItems w' s o, fun s w' w'' hE h => h.ext hE, fun w' hE => ?_, fun s w' => RItems w' s x, fun s w' w'' hE h => h.ext hE, fun w' hE => ?_, ?_⟩
 ·refine Ret.mono (refFlat0 no (ho.ext (hE03.trans hE))) ?_
  rintro v w'' ⟨h1, s, rfl, h2, _⟩
  exact ⟨h1, s, rfl, h2⟩
 ·refine Ret.mono (refFlat0 nx (hx.ext (hE03.trans hE))) ?_
  rintro v w'' ⟨h1, s, rfl, h2, _⟩
  exact ⟨h1, s, rfl, h2⟩
 intro w4 ro rx c hE4 hO hX hc hbox w5 hE5
 have hE04 := hE03.trans hE4
 have hcl := hbox.lt
 have hon := hO.len
 have hxn := hX.len
 rw [hon, hxn]
 refine ⟨fun r w' => ∃ (m : Nat) (sa sb : Sl), r = some ⟨m, 0, none⟩ ∧ MRd (List.range w5.heap.size) w' m sa sb (List.replicate o.size (-1)) (List.replicate x.size (-1)), fun r w' w'' hE h => ?_, fun w' hE => ?_, ?_⟩
 ·obtain ⟨m, a, b, h1, h2⟩ := h
  exact ⟨m, a, b, h1, h2.ext hE⟩
 ·refine Ret.mono (refMNew o.size x.size (by omega) (by omega)) ?_
  rintro v w'' ⟨h1, m, a, b, rfl, h2⟩
  exact ⟨h1, some ⟨m, 0, none⟩, rfl, m, a, b, rfl, h2.less fun b hb => by have := hE.size; rw [List.mem_range] at hb ⊢; omega⟩
 rintro w6 _ hE6 ⟨m, sa, sb, rfl, hM⟩ w7 hC7
 have s5 := hE5.size
 have hcr : c ∈ List.range w5.heap.size := List.mem_range.2 (by omega)
 have hO5 := hO.ext hE5
 have hX5 := hX.ext hE5
 have hb5 := hbox.ext hE5
 have hE05 := hE04.trans hE5
 refine ⟨fun i w' => ∃ k : Nat, i = (k : Int) ∧ k ≤ ps.length ∧ MRd (List.range w5.heap.size) w' m sa sb (faN o.size (ps.take k)) (faN x.size ((ps.take k).map swapP)) ∧ Chg [c] w5 w', fun i _ => ps.length - i.toNat, ⟨0, rfl, by omega, hM.chg hC7 (by simpa using hcr), (Chg.ext hE6).trans hC7⟩, ?_⟩
 rintro _ w8 ⟨k, rfl, hk, hM8, hC8⟩
 have hE08 : Ext w w8 := Chg.fresh hE05 hC8 (by have := hE03.size; simp; omega)
 refine ⟨fun hi w9 hE9 => ?_, fun hi hb8 => ?_⟩
 ·have hk' : k < ps.length := by omega
  have hpair := hvals _ (getD_mem (d := (0, 0)) hk')
  obtain ⟨p, hp, hcc⟩ := (hl.ext (hE08.trans hE9)).pairAt hk'
  have t1 := take_snoc ps (0, 0) hk'
  generalize ps.getD k (0, 0) = q at hcc t1 hpair
  obtain ⟨qa, qb⟩ := q
  simp only at hpair
  obtain ⟨i, rfl⟩ : ∃ i : Nat, qa = (i : Int) := ⟨qa.toNat, by omega⟩
  obtain ⟨j, rfl⟩ : ∃ j : Nat, qb = (j : Int) := ⟨qb.toNat, by omega⟩
  have hM9 := hM8.ext hE9
  have hfl := faN_len o.size (ps.take k)
  have hfl2 := faN_len x.size ((ps.take k).map swapP)
  refine ⟨p, ⟨⟨by omega, hi⟩, hp⟩, (i : Int), hcc 0 _ rfl, p, ⟨⟨by omega, hi⟩, hp⟩, (j : Int), hcc 1 _ rfl, fun w10 hE10 => ?_⟩
  have hM10 := hM9.ext hE10
  have hF : ∀ b ∈ sa.blk ++ sb.blk, w5.heap.size ≤ b := fun b hb => by
   rcases List.mem_append.1 hb with hb | hb
   ·have := (hM10.a.blk b hb).1; simp at this; omega
   ·have := (hM10.b.blk b hb).1; simp at this; omega
  refine CallK.chg (refAdd hM10 (by omega) (by omega)) (fun b hb hm => ?_) fun v w11 hC11 ⟨hv, hM11⟩ => ⟨hv, ⟨by omega, by omega⟩, ⟨k + 1, by omega, by omega, ?_, ?_⟩, by dsimp only; omega⟩
  ·have := hF _ hm
   simp only [List.mem_cons, List.not_mem_nil, or_false] at hb
   have := List.mem_range.1 hcr
   omega
  ·rw [t1, List.map_append, List.map_cons, List.map_nil, faN_snoc, faN_snoc]
   exact hM11
  ·exact ((hC8.more hE9).more hE10).more' hC11 fun b hb => .inr (hF b hb)
 have hkl : k = ps.length := by omega
 subst hkl
 rw [List.take_of_length_le (Nat.le_refl _)] at hM8
 have hO8 := hO5.box hb5 (by decide) (by decide) hC8
 have hX8 := hX5.box hb5 (by decide) (by decide) hC8
 generalize hfa : faN o.size ps = fa at hM8
 generalize hfb : faN x.size (ps.map swapP) = fb at hM8
 have hfal : fa.length = o.size := by rw [← hfa]; exact faN_len _ _
 have hfbl : fb.length = x.size := by rw [← hfb]; exact faN_len _ _
 have hfalt : ∀ z ∈ fa, z < x.size := by rw [← hfa]; exact faN_lt _ _ _ fun p hp => (hvals p hp).2.2.2
 have hsl : ∀ i, i < o.size → slotR o x fa fb i = slotOf o x ps i := fun i hi => by rw [← hfa, ← hfb]; exact slotR_eq hvals hi
 have crd : ∀ (w' : World) (L : Sl), Chg [c] w8 w' → Box w' c 91 [ro.v, rx.v, .pointer (some ⟨m, 0, none⟩), L.v] → CRd w' c o x ro rx L m sa sb fa fb := fun w' L hC hB => ⟨hB, hO8.box hb8 (by decide) (by decide) hC, hX8.box hb8 (by decide) (by decide) hC, (hM8.chg hC (by simpa using hcr)).less (by simp)⟩
 have hgc : w.heap.size ≤ c := by have := hE03.size; omega
 refine ⟨fun i w' => ∃ (k : Nat) (L : Sl) (rows : List (List Value)), i = (k : Int) ∧ k ≤ o.size ∧ Chg [c] w8 w' ∧ Box w' c 91 [ro.v, rx.v, .pointer (some ⟨m, 0, none⟩), L.v] ∧ Own (List.range w8.heap.size) w' L 6 93 rows ∧ rows.length = k ∧ ∀ i, i < k → SlotAt w' (slotOf o x ps i) (rows.getD i []), fun i _ => o.size - i.toNat, ⟨0, Sl.nil, [], rfl, by omega, Chg.refl _ _, hb8, Own.nil _ _ _ _, rfl, fun i hi => by omega⟩, ?_⟩
 rintro _ w9 ⟨k, L, rows, rfl, hk, hC9, hb9, hL, hrl, hrows⟩
 refine ⟨ro, hb9.cell 0 _ rfl, fun hi w10 hE10 => ?_, fun hi => ?_⟩
 ·have hk' : k < o.size := by omega
  have hb10 := hb9.ext hE10
  have hC10 := hC9.more hE10
  refine ⟨L, hb10.cell 3 _ rfl, fun g t se un up ki w' => SlotAt w' (slotOf o x ps k) [.bool g, .bool t, se.v, un.v, .int .i64 up, ki.v], fun _ _ _ _ _ _ w' w'' hE h => h.ext hE, fun w' hE => ?_, ?_⟩
  ·refine Ret.mono (refSlot (crd w' L (hC10.more hE) (hb10.ext hE)) no nx hfal hfbl hk' hfalt) ?_
   rintro v w'' ⟨h1, se, un, ki, rfl, h2, h3, h4⟩
   rw [hsl k hk'] at h2 h3 h4 ⊢
   exact ⟨h1, _, _, se, un, _, ki, rfl, se, un, ki, rfl, h2, h3, h4⟩
  intro w11 g t se un up ki B hE11 hS hB hbx _
  have hE911 := hE10.trans hE11
  have hL11 := hL.ext hE911
  have hbx' : Box w11 B 93 [.bool g, .bool t, se.v, un.v, .int .i64 up, ki.v] := hbx
  have hLn := hL.len
  have s9 := hC9.size
  have s911 := hE911.size
  refine App.runK Try.underlying89 ti_93 rfl (by decide) (.inl hL11) (fun b hb => by have := List.mem_range.1 hb; omega) (Own.one (A := []) hbx' (by simp)).row (by intro u hu; simp at hu; rcases hu with rfl | rfl | rfl | rfl | rfl | rfl <;> rfl) (by simp) (by simp only [maxLen, List.length_singleton]; omega) (by simp only [List.length_singleton]; omega) (by simp) fun s' w12 ho12 hC12 hb12 => ⟨s', rfl, fun w13 hE13 w14 hE14 => ?_⟩
  have hown : ∀ b ∈ L.own, w8.heap.size ≤ b := fun b hb => by
   have := (hL11.blk b (Sl.own_blk hb)).1
   simp at this; omega
  have hc8 := hb8.lt
  have hE1214 := hE13.trans hE14
  have hb14 := (((hb9.ext hE911).keep hC12 (fun hm => by have := hown _ hm; omega))).ext hE1214
  refine ⟨c, 3, 91, _, rfl, hb14, by simp, by simp, fun w15 hC15 hb15 => ⟨⟨by omega, by omega⟩, ⟨k + 1, s', _, by omega, by omega, ?_, hb15, ((ho12.ext hE1214).chg hC15 (by simpa using hc8)), by simp [hrl], fun i hi' => ?_⟩, by dsimp only; omega⟩⟩
  ·exact (((hC9.more hE911).more' hC12 fun b hb => .inr (hown b hb)).more hE1214).trans hC15
  ·have keepS : ∀ {v : SV} {row : List Value}, SlotAt w11 v row → SlotAt w15 v row := fun h => by
    have h12 := h.keep hC12 fun ho h1 _ b hb hm => (hL11.apart ho h1) b (Sl.own_blk hm) hb
    exact (h12.ext hE1214).keep hC15 fun ho _ h2 b hb hm => by
     simp only [List.mem_cons, List.not_mem_nil, or_false] at hm
     subst hm
     exact (ho.other hb14 (Ne.symm h2)) hb
   rcases Nat.lt_or_ge i k with h | h
   ·rw [List.getD_eq_getElem?_getD, List.getElem?_append_left (by omega), ← List.getD_eq_getElem?_getD]
    exact keepS ((hrows i h).ext hE911)
   ·have hik : i = k := by omega
    subst hik
    rw [List.getD_eq_getElem?_getD, List.getElem?_append_right (by omega), hrl, Nat.sub_self]
    exact keepS hS
 ·have hkl : k = o.size := by omega
  subst hkl
  refine ⟨Chg.fresh hE08 hC9 (by simpa using hgc), .inr ⟨ht, c, ro, rx, L, _, rfl, hb9, hO8.box hb8 (by decide) (by decide) hC9, rows, hL.less (by simp), by simp [slotsOf, hrl], fun i v row hv hr => ?_⟩⟩
  have hi' : i < o.size := by have := (List.getElem?_eq_some_iff.1 hr).1; omega
  have e1 : v = slotOf o x ps i := by
   simp [slotsOf, hi'] at hv; exact hv.symm
  have := hrows i hi'
  rw [List.getD_eq_getElem?_getD, hr] at this
  subst e1
  exact this
end
section
open Go.RowKit Go.MapKept
def T.few (t : T) : Bool := t.small && decide (t.size ≤ 60)
theorem lawPairs {A : List Nat} {w : World} {l : Sl} {ps : List (Int × Int)} (h : Row A w l 2 (ps.map pc)) (hb : ps.length ≤ 1000000000) :
  Calls Try.prog 20 #[l.v] w (Ret fun v w' => Ext w w' ∧ ∃ s : Sl, v = s.v ∧ Row [] w' s 2 (ps.map pc)) := by
 refine law00_Pairs.ok _ ?_
 unfold law00_Pairs.vc
 have hl := h.len
 simp only [List.length_map] at hl
 cases hx : ps with
 |nil =>
  have e := append_none (P := Try.prog) (w := w) (s := Sl.nil) (x := l) (t := 29) (ty := 29) Try.underlying29 ti_40 (Nat.le_refl _) (by rw [hl, hx]; rfl)
  exact ⟨_, _, e, fun _ _ _ => rfl, Nat.le_refl _, Sl.nil, rfl, Chg.refl _ _, Sl.nil, rfl, Row.nil _ _ _⟩
 |cons x r =>
  rw [← hx]
  have hone : ∀ u ∈ (ps.map pc).flatten, u.oneCell' = true := by
   intro u hu
   obtain ⟨c, hc, hu⟩ := List.mem_flatten.1 hu
   obtain ⟨p, _, rfl⟩ := List.mem_map.1 hc
   simp [pc] at hu
   rcases hu with rfl | rfl <;> rfl
  refine App.runK Try.underlying29 ti_40 rfl (by decide) (.inl (Own.nil (List.range w.heap.size) _ _ _)) (fun b hb => List.mem_range.1 hb) (h.less (by simp)) hone (by rw [hx]; simp) (by simp [maxLen]; omega) (by simp; omega) (by simp) fun s' w' ho hc hb => ⟨s', rfl, ?_, s', rfl, (ho.less (by simp)).row⟩
  exact hc.mono (by simp [Sl.own])
theorem drop_eqA {α : Type} {xs ys : List α} {k : Nat} (d : α) (hx : k < xs.length) (hy : k < ys.length) : (xs.drop k = ys.drop k) ↔ (xs.getD k d = ys.getD k d ∧ xs.drop (k + 1) = ys.drop (k + 1)) := by
 rw [List.drop_eq_getElem_cons hx, List.drop_eq_getElem_cons hy, List.cons.injEq]
 simp [List.getD_eq_getElem?_getD, hx, hy]
theorem lawSameAttrs {A B : List Nat} {w : World} {a b : Sl} {xs ys : List (Str × Str)} (ha : Row A w a 2 (xs.map ac)) (hb : Row B w b 2 (ys.map ac)) :
  Calls Try.prog 69 #[a.v, b.v] w (Ret fun v w' => Ext w w' ∧ v = .bool (decide (xs = ys))) := by
 refine law00_SameAttrs.ok _ _ ?_
 unfold law00_SameAttrs.vc
 have hla := ha.len
 have hlb := hb.len
 have hma := ha.most
 have hca := ha.cap
 simp only [maxLen] at hma
 rw [List.length_map] at hla hlb
 refine ⟨fun hne => ⟨Chg.refl _ _, ?_⟩, fun he => ?_⟩
 ·rw [decide_eq_false]; intro e; rw [e] at hla; omega
 refine ⟨fun i w' => ∃ k : Nat, i = (k : Int) ∧ k ≤ xs.length ∧ (xs = ys ↔ xs.drop k = ys.drop k) ∧ Ext w w', fun i _ => xs.length - i.toNat, ⟨0, rfl, by omega, by simp, Chg.refl _ _⟩, ?_⟩
 rintro _ w2 ⟨k, rfl, hk, hiff, hE⟩
 refine ⟨fun hi w3 hE3 => ?_, fun hi => ⟨hE, ?_⟩⟩
 ·have hk' : k < xs.length := by omega
  have hky : k < ys.length := by omega
  obtain ⟨p, hp, hcp⟩ := ((ha.ext hE).ext hE3).attrAt hk'
  obtain ⟨q, hq, hcq⟩ := ((hb.ext hE).ext hE3).attrAt hky
  have hd := drop_eqA (([], []) : Str × Str) hk' hky
  generalize xs.getD k ([], []) = x at hcp hd
  generalize ys.getD k ([], []) = y at hcq hd
  obtain ⟨x1, x2⟩ := x
  obtain ⟨y1, y2⟩ := y
  simp only [Prod.mk.injEq] at hd
  refine ⟨p, ⟨⟨by omega, by omega⟩, hp⟩, x1, x2, hcp, q, ⟨⟨by omega, by omega⟩, hq⟩, y1, y2, hcq, fun hne w4 hE4 => ⟨(hE.trans hE3).trans hE4, ?_⟩, fun heq => ⟨⟨by omega, by omega⟩, fun w4 hE4 => ⟨⟨k + 1, by omega, by omega, ?_, (hE.trans hE3).trans hE4⟩, by dsimp only; omega⟩⟩⟩
  ·rw [decide_eq_false]; intro e
   exact hne (hd.1 (hiff.1 e)).1
  ·rw [hiff, hd]
   exact ⟨fun h => h.2, fun h => ⟨Classical.not_not.1 heq, h⟩⟩
 ·have hkl : k = xs.length := by omega
  subst hkl
  rw [decide_eq_true]
  rw [hiff, List.drop_length, List.drop_of_length_le (by omega)]
theorem Row.wAt {A : List Nat} {w : World} {s : Sl} {xs : List Str} (h : Row A w s 1 (xs.map wc)) {k : Nat} (hk : k < xs.length) : ∃ p, s.a = some p ∧ w.cell? (p.add (k * 1)) = some (.string (Bs (xs.getD k []))) := by
 obtain ⟨p, hp, _, hc, _⟩ := h.at_ k (by simpa using hk)
 have e : (xs.map wc).getD k [] = wc (xs.getD k []) := by simp [List.getD_eq_getElem?_getD, hk]
 rw [e] at hc
 exact ⟨p, hp, by have := hc 0 _ rfl; rwa [Addr.add_zero'] at this⟩
theorem lawSame25 {w : World} {v : SV} {r1 r2 : List Value} (h1 : SlotAt w v r1) (h2 : SlotAt w v r2) :
  Calls Try.prog 47 #[.agg r1.toArray, .agg r2.toArray] w (Ret fun u w' => Ext w w' ∧ u = .bool true) := by
 obtain ⟨se, un, ki, rfl, a1, a2, a3⟩ := h1
 obtain ⟨se', un', ki', rfl, b1, b2, b3⟩ := h2
 refine law25_same.ok _ _ _ _ _ _ _ _ _ _ _ _ ?_
 unfold law25_same.vc
 have n1 := a2.len
 have n2 := b2.len
 have m1 := a2.row.most
 have c1 := a2.row.cap
 simp only [maxLen] at m1
 rw [List.length_map] at n1 n2
 intro w1 B1 B2 _ _ _ hE1
 refine ⟨true, fun _ => ?_, fun w2 hE2 => ⟨true, fun _ => ?_, fun w3 hE3 => ⟨fun hbad => ?_, fun _ => ?_⟩⟩⟩
 ·have := lawSameAttrs (a1.ext hE1).row (b1.ext hE1).row
  simpa using this
 ·have := lawSameInts (a3.ext (hE1.trans hE2)).row (b3.ext (hE1.trans hE2)).row
  simpa using this
 ·rcases hbad with ((((h | h) | h) | h) | h) | h
  ·simp at h
  ·simp at h
  ·cases h
  ·omega
  ·exact absurd rfl h
  ·cases h
 have hE13 := (hE1.trans hE2).trans hE3
 refine ⟨fun i w' => ∃ k : Nat, i = (k : Int) ∧ k ≤ v.unset.length ∧ Ext w w', fun i _ => v.unset.length - i.toNat, ⟨0, rfl, by omega, hE13⟩, ?_⟩
 rintro _ w4 ⟨k, rfl, hk, hE4⟩
 refine ⟨fun hi w5 hE5 => ?_, fun hi => ⟨hE4, rfl⟩⟩
 have hk' : k < v.unset.length := by omega
 obtain ⟨p, hp, hc⟩ := (a2.ext (hE4.trans hE5)).row.wAt hk'
 obtain ⟨q, hq, hd⟩ := (b2.ext (hE4.trans hE5)).row.wAt hk'
 exact ⟨p, ⟨⟨by omega, by omega⟩, hp⟩, _, hc, q, ⟨⟨by omega, by omega⟩, hq⟩, _, hd, fun hne => absurd rfl hne, fun _ => ⟨⟨by omega, by omega⟩, fun w6 hE6 => ⟨⟨k + 1, by omega, by omega, (hE4.trans hE5).trans hE6⟩, by dsimp only; omega⟩⟩⟩
theorem slotsKidsN {A : List Nat} {w : World} {t : T} {sa sk : Sl} (h : RdT A w t sa sk) (nt : t.bulk ≤ 400000000) {id : Int} (hid : id < 0 ∨ (t.size : Int) ≤ id) :
  Calls Try.prog 24 #[tv t sa sk, .int .i64 id] w (Ret fun v w' => Ext w w' ∧ v = Sl.nil.v) := by
 refine slots_Kids.ok _ _ _ _ _ _ ?_
 unfold slots_Kids.vc
 intro w1 B hN hE1
 refine CallK.ext (walkFlat (by omega) (h.ext hE1)) ?_
 rintro v w2 hE2 ⟨s, rfl, hI⟩
 obtain ⟨hn, _⟩ := hI.cell
 exact ⟨s, rfl, fun _ => ⟨hE1.trans hE2, rfl⟩, fun hb => by omega⟩
theorem lawAll25 {A B : List Nat} {w : World} {t : T} {sa sk s ro rx L : Sl} {c : Nat} {m : Addr} {vs : List SV} (h : RdT A w t sa sk) (nt : t.bulk ≤ 400000000) (hS : Slots B w s vs) (hc : Box w c 91 [ro.v, rx.v, .pointer (some m), L.v]) (hO : RItems w ro t) (hL : RSlots [] w L vs) (hv : vs.length = t.size) (id : Int) :
  Calls Try.prog 22 #[tv t sa sk, s.v, .pointer (some ⟨c, 0, none⟩), .int .i64 id] w (Ret fun v w' => Ext w w' ∧ v = .bool true) := by
 refine law25_all.ok _ _ _ _ _ _ _ _ ?_
 unfold law25_all.vc
 have hsz := T.size_bulk t
 have n1 := hS.len
 have n2 := hL.len
 intro w1 B1 _ hE1
 refine ⟨L, (hc.ext hE1).cell 3 _ rfl, fun hne => by omega, fun _ => ?_⟩
 refine ⟨fun i w' => ∃ k : Nat, i = (k : Int) ∧ k ≤ t.size ∧ Ext w w', fun i _ => t.size - i.toNat, ⟨0, rfl, by omega, hE1⟩, ?_⟩
 rintro _ w2 ⟨k, rfl, hk, hE2⟩
 refine ⟨fun hi w3 hE3 => ?_, fun hi => ?_⟩
 ·have hk' : k < t.size := by omega
  have hE03 := hE2.trans hE3
  obtain ⟨p, se, un, ki, hp, hcl, a1, a2, a3⟩ := (hS.ext hE03).at (i := k) (by omega)
  obtain ⟨q, se', un', ki', hq, hcl', b1, b2, b3⟩ := (hL.ext hE03).at (i := k) (by omega)
  have hc3 := hc.ext hE03
  have T1 : ∀ w', Ext w3 w' → SlotAt w' (vs.getD k sv0) (slc (vs.getD k sv0) se un ki) := fun w' hE => ⟨se, un, ki, rfl, a1.ext hE, a2.ext hE, a3.ext hE⟩
  have T2 : ∀ w', Ext w3 w' → SlotAt w' (vs.getD k sv0) (slc (vs.getD k sv0) se' un' ki') := fun w' hE => ⟨se', un', ki', rfl, b1.ext hE, b2.ext hE, b3.ext hE⟩
  refine ⟨p, ⟨⟨by omega, by omega⟩, hp⟩, _, _, se, un, _, ki, hcl, L, hc3.cell 3 _ rfl, q, ⟨⟨by omega, by omega⟩, hq⟩, _, _, se', un', _, ki', hcl', true, fun w' hE => lawSame25 (T1 w' hE) (T2 w' hE), touched t vs k, fun _ w' hE => slotsTouched (h.ext (hE03.trans hE)) (hS.ext (hE03.trans hE)) nt k, ro, fun _ => hc3.cell 0 _ rfl, L, fun _ => hc3.cell 3 _ rfl, touched t vs k, fun _ w' hE => refTouched (hO.ext (hE03.trans hE)) (hL.ext (hE03.trans hE)) (by omega) k, fun r w' => Own [] w' r 1 3 ((kidsZ t k).map zc), fun r w' w'' hE h => h.ext hE, fun _ w' hE => ?_, ro, fun _ => hc3.cell 0 _ rfl, fun r w' => Own [] w' r 1 3 ((kidsZ t k).map zc), fun r w' w'' hE h => h.ext hE, fun _ w' hE => ?_, true, fun hg r1 r2 w' hE h1 h2 => ?_, fun hbad => ?_, fun _ => ⟨⟨by omega, by omega⟩, fun w4 hE4 => ⟨⟨k + 1, by omega, by omega, hE03.trans hE4⟩, by dsimp only; omega⟩⟩⟩
  ·refine Ret.mono (slotsKidsT (h.ext (hE03.trans hE)) nt (id := (k : Int)) (by omega) (by omega)) ?_
   rintro v w'' ⟨h1, r, rfl, h2⟩
   exact ⟨h1, r, rfl, h2.less (by simp)⟩
  ·refine Ret.mono (refKids (hO.ext (hE03.trans hE)) (by omega) hk') ?_
   rintro v w'' ⟨h1, r, rfl, h2⟩
   rw [kidsZ_nc] at h2
   exact ⟨h1, r, rfl, h2.less (by simp)⟩
  ·have := lawSameInts (h1 hg).row (h2 hg).row
   simpa using this
  ·rcases hbad with (h | h) | h
   ·cases h
   ·simp at h
   ·cases h
 ·have hkl : k = t.size := by omega
  subst hkl
  by_cases hid : 0 ≤ id ∧ id < t.size
  ·refine ⟨false, fun hg => by omega, fun w3 hE3 => ⟨fun _ _ => True, fun hg => by omega, fun r w4 hE4 _ => ⟨(hE2.trans hE3).trans hE4, ?_⟩⟩⟩
   rw [decide_eq_true hid.1, decide_eq_true (by omega : id < (s.n : Int))]; rfl
  ·have hf : touched t vs id = false := by unfold touched; rw [if_pos (by omega)]
   refine ⟨false, fun _ => ?_, fun w3 hE3 => ⟨fun r _ => r = Sl.nil, fun _ => ?_, fun r w4 hE4 hr => ⟨(hE2.trans hE3).trans hE4, ?_⟩⟩⟩
   ·have := slotsTouched (h.ext hE2) (hS.ext hE2) nt id
    rwa [hf] at this
   ·refine Ret.mono (slotsKidsN (h.ext (hE2.trans hE3)) nt (id := id) (by omega)) ?_
    rintro v w'' ⟨h1, rfl⟩
    exact ⟨h1, Sl.nil, rfl, rfl⟩
   ·have hr := hr ⟨by omega, rfl⟩
    subst hr
    have e : (decide (0 ≤ id) && decide (id < (s.n : Int))) = false := by
     rw [Bool.and_eq_false_iff, decide_eq_false_iff_not, decide_eq_false_iff_not]; omega
    rw [e]; rfl
end
section
open Go.RowKit Go.MapKept
theorem kidsE_dropM : ∀ (us : List T), (∀ u ∈ us, ∀ (id : Nat) (p : Int) (d pl : Nat) (j : Nat) (e : En), (u.ents id p d pl)[j]? = some e → ∃ rest, (u.ents id p d pl).drop j = e.t.ents (id + j) e.par e.dep e.pl ++ rest) →
  ∀ (nx : Nat) (p : Int) (d i : Nat) (j : Nat) (e : En), (kidsE us nx p d i)[j]? = some e → ∃ rest, (kidsE us nx p d i).drop j = e.t.ents (nx + j) e.par e.dep e.pl ++ rest
 |[], _, nx, p, d, i, j, e, he => by simp [kidsE_nil] at he
 |u :: us, h, nx, p, d, i, j, e, he => by
  rw [kidsE_cons] at he ⊢
  have hl := T.ents_len u nx p d i
  by_cases hj : j < u.size
  ·rw [List.getElem?_append_left (by rw [hl]; exact hj)] at he
   obtain ⟨rest, hr⟩ := h u (by simp) nx p d i j e he
   exact ⟨rest ++ kidsE us (nx + u.size) p d (i + 1), by rw [List.drop_append_of_le_length (by rw [hl]; omega), hr, List.append_assoc]⟩
  ·rw [List.getElem?_append_right (by rw [hl]; omega), hl] at he
   obtain ⟨rest, hr⟩ := kidsE_dropM us (fun v hv => h v (by simp [hv])) (nx + u.size) p d (i + 1) (j - u.size) e he
   refine ⟨rest, ?_⟩
   rw [List.drop_append, List.drop_eq_nil_of_le (by rw [hl]; omega), List.nil_append, hl, hr]
   rw [show nx + u.size + (j - u.size) = nx + j by omega]
theorem T.ents_dropM : ∀ (t : T) (id : Nat) (p : Int) (d pl : Nat) (j : Nat) (e : En), (t.ents id p d pl)[j]? = some e → ∃ rest, (t.ents id p d pl).drop j = e.t.ents (id + j) e.par e.dep e.pl ++ rest := T.ind' fun t ih id p d pl j e he => by
 cases j with
 |zero =>
  rw [T.ents_eq] at he
  simp only [List.getElem?_cons_zero, Option.some.injEq] at he
  subst he
  exact ⟨[], by simp⟩
 |succ j =>
  rw [T.ents_eq] at he ⊢
  rw [List.getElem?_cons_succ] at he
  obtain ⟨rest, hr⟩ := kidsE_dropM t.kids ih (id + 1) id (d + 1) 0 j e he
  refine ⟨rest, ?_⟩
  rw [List.drop_succ_cons, hr, show id + 1 + j = id + (j + 1) by omega]
theorem T.ents_ts : ∀ (t : T) (id : Nat) (p : Int) (d pl : Nat) (id' : Nat) (p' : Int) (d' pl' : Nat), (t.ents id p d pl).map (fun e : En => e.t) = (t.ents id' p' d' pl').map (fun e : En => e.t) := T.ind' fun t ih id p d pl id' p' d' pl' => by
 rw [T.ents_eq, T.ents_eq, List.map_cons, List.map_cons]
 congr 1
 have go : ∀ us : List T, (∀ u ∈ us, u ∈ t.kids) → ∀ (nx : Nat) (p : Int) (d i : Nat) (nx' : Nat) (p' : Int) (d' i' : Nat), (kidsE us nx p d i).map (fun e : En => e.t) = (kidsE us nx' p' d' i').map (fun e : En => e.t) := by
  intro us
  induction us with
  |nil => intro _ _ _ _ _ _ _ _ _; rfl
  |cons u us ih2 =>
   intro hu nx p d i nx' p' d' i'
   rw [kidsE_cons, kidsE_cons, List.map_append, List.map_append, ih u (hu u (by simp)) nx p d i nx' p' d' i', ih2 (fun v hv => hu v (by simp [hv])) _ _ _ _ (nx' + u.size) p' d' (i' + 1)]
 exact go t.kids (fun u hu => hu) _ _ _ _ _ _ _ _
theorem T.nd_in (t : T) {j d : Nat} (hj : j < t.size) (hd : d < t.zAt j) : (t.nd (j + d)).t = ((t.nd j).t.nd d).t := by
 have hz : t.zAt j = (t.nd j).t.size := rfl
 obtain ⟨rest, hr⟩ := t.ents_dropM 0 (-1) 0 0 j _ (t.flat_get hj)
 have hr : t.flat.drop j = (t.nd j).t.ents (0 + j) (t.nd j).par (t.nd j).dep (t.nd j).pl ++ rest := hr
 have hl := T.ents_len (t.nd j).t (0 + j) (t.nd j).par (t.nd j).dep (t.nd j).pl
 have hend := t.zAt_end hj
 have h1 := t.flat_get (j := j + d) (by omega)
 have h2 := (t.nd j).t.flat_get (j := d) (by omega)
 have h3 : (t.flat.drop j)[d]? = some (t.nd (j + d)) := by rw [List.getElem?_drop]; exact h1
 rw [hr, List.getElem?_append_left (by omega)] at h3
 have h4 := congrArg (fun l : List T => l[d]?) (T.ents_ts (t.nd j).t (0 + j) (t.nd j).par (t.nd j).dep (t.nd j).pl 0 (-1) 0 0)
 simp only [List.getElem?_map] at h4
 rw [h3] at h4
 have h5 : ((t.nd j).t.ents 0 (-1) 0 0)[d]? = some ((t.nd j).t.nd d) := h2
 rw [h5] at h4
 exact Option.some.inj h4
theorem T.zAt_in (t : T) {j d : Nat} (hj : j < t.size) (hd : d < t.zAt j) : d + t.zAt (j + d) ≤ t.zAt j := by
 have h := t.nd_in hj hd
 have hz : t.zAt (j + d) = (t.nd (j + d)).t.size := rfl
 have hz2 : t.zAt j = (t.nd j).t.size := rfl
 rw [hz, h]
 exact ((t.nd j).t.zAt_end (j := d) (by omega)).1
theorem le_foldr_max : ∀ (l : List Nat) (x : Nat), x ∈ l → x ≤ l.foldr max 0
 |y :: r, x, h => by
  rw [List.foldr_cons]
  rcases List.mem_cons.1 h with rfl | h
  ·omega
  ·have := le_foldr_max r x h; omega
theorem T.depth_kid {t u : T} (h : u ∈ t.kids) : u.depth < t.depth := by
 rw [T.depth_eq t]
 have := le_foldr_max (t.kids.map T.depth) u.depth (List.mem_map.2 ⟨u, h, rfl⟩)
 omega
theorem T.kids_depth : ∀ (t : T) (nx : Nat) (p : Int) (d i : Nat), ∀ e ∈ kidsE t.kids nx p d i, e.t.depth < t.depth := T.ind' fun t ih nx p d i e he => by
 have go : ∀ (us : List T), (∀ u ∈ us, u ∈ t.kids) → ∀ (nx : Nat) (p : Int) (d i : Nat), e ∈ kidsE us nx p d i → e.t.depth < t.depth := by
  intro us
  induction us with
  |nil => intro _ _ _ _ _ he; cases he
  |cons u us ih2 =>
   intro hu nx p d i he
   rw [kidsE_cons] at he
   rcases List.mem_append.1 he with he | he
   ·have hk := T.depth_kid (hu u (by simp))
    rw [T.ents_eq] at he
    rcases List.mem_cons.1 he with rfl | he
    ·exact hk
    ·have := ih u (hu u (by simp)) _ _ _ _ e he
     omega
   ·exact ih2 (fun v hv => hu v (by simp [hv])) _ _ _ _ he
 exact go t.kids (fun u hu => hu) _ _ _ _ he
theorem T.nd_tail (t : T) {d : Nat} (h0 : 0 < d) (hd : d < t.size) : ∃ (nx : Nat) (p : Int) (dp i : Nat), t.nd d ∈ kidsE t.kids nx p dp i := by
 have h := t.flat_get hd
 have h : (t.ents 0 (-1) 0 0)[d]? = some (t.nd d) := h
 rw [T.ents_eq] at h
 obtain ⟨d', rfl⟩ : ∃ d', d = d' + 1 := ⟨d - 1, by omega⟩
 rw [List.getElem?_cons_succ] at h
 exact ⟨_, _, _, _, List.mem_of_getElem? h⟩
theorem T.hAt_in (t : T) {j d : Nat} (hj : j < t.size) (h0 : 0 < d) (hd : d < t.zAt j) : t.hAt (j + d) < t.hAt j := by
 have h := t.nd_in hj hd
 have e1 : t.hAt (j + d) = (t.nd (j + d)).t.depth := rfl
 have e2 : t.hAt j = (t.nd j).t.depth := rfl
 rw [e1, e2, h]
 obtain ⟨_, _, _, _, hm⟩ := (t.nd j).t.nd_tail h0 hd
 exact T.kids_depth _ _ _ _ _ _ hm
theorem nodeOk_kind {t : T} (h : nodeOk t = true) : t.kind ≠ 1 := by
 intro h1
 rw [nodeOk_ne (by omega)] at h
 simp [h1] at h
theorem T.root_kind {t : T} (h : t.check = true) : t.kind = 1 ∧ t.name = [] ∧ ∀ j, 0 < j → j < t.size → (t.nd j).t.kind ≠ 1 := by
 unfold T.check at h
 simp only [Bool.and_eq_true, decide_eq_true_eq] at h
 refine ⟨h.1.1.1.1.1, by simpa using h.1.1.2.1, fun j h0 hj => ?_⟩
 obtain ⟨nx, p, dp, i, hm⟩ := t.nd_tail h0 hj
 have hk : ∀ u ∈ t.kids, nodeOk u = true := fun u hu => by
  have := List.all_eq_true.1 h.2 u hu
  simp only [Bool.and_eq_true] at this
  exact this.1
 have go : ∀ (us : List T), (∀ u ∈ us, u ∈ t.kids) → ∀ (nx : Nat) (p : Int) (d i : Nat), t.nd j ∈ kidsE us nx p d i → nodeOk (t.nd j).t = true := by
  intro us
  induction us with
  |nil => intro _ _ _ _ _ he; cases he
  |cons u us ih2 =>
   intro hu nx p d i he
   rw [kidsE_cons] at he
   rcases List.mem_append.1 he with he | he
   ·exact T.ents_all (Q := fun v => nodeOk v = true) (fun v hv => (nodeOk_attrs hv).2) u _ _ _ _ (hk u (hu u (by simp))) _ he
   ·exact ih2 (fun v hv => hu v (by simp [hv])) _ _ _ _ he
 exact nodeOk_kind (go t.kids (fun u hu => hu) _ _ _ _ hm)
def kinB (a b : T) : Prop := a.kind = b.kind ∧ a.name = b.name
structure MInv (x y : T) (fa fb : List Int) : Prop where
 la : fa.length = x.size
 lb : fb.length = y.size
 ab : ∀ i, i < x.size → ∀ j : Nat, fa.getD i 0 = (j : Int) → j < y.size ∧ fb.getD j 0 = (i : Int) ∧ kinB (x.nd i).t (y.nd j).t
 ba : ∀ j, j < y.size → ∀ i : Nat, fb.getD j 0 = (i : Int) → i < x.size ∧ fa.getD i 0 = (j : Int)
theorem getD_setZ (l : List Int) (i k : Nat) (v : Int) (hi : i < l.length) : (l.set i v).getD k 0 = if k = i then v else l.getD k 0 := by
 rw [List.getD_eq_getElem?_getD, List.getElem?_set]
 by_cases h : k = i
 ·rw [if_pos h.symm, if_pos h, if_pos hi]; rfl
 ·rw [if_neg (fun e => h e.symm), if_neg h, ← List.getD_eq_getElem?_getD]
theorem MInv.init (x y : T) : MInv x y (List.replicate x.size (-1)) (List.replicate y.size (-1)) := by
 have hn : ∀ (n i : Nat), i < n → (List.replicate n (-1 : Int)).getD i 0 = -1 := fun n i hi => by simp [List.getD_eq_getElem?_getD, hi]
 refine ⟨by simp, by simp, fun i hi j h => ?_, fun j hj i h => ?_⟩
 ·rw [hn _ _ hi] at h; omega
 ·rw [hn _ _ hj] at h; omega
theorem MInv.add {x y : T} {fa fb : List Int} (h : MInv x y fa fb) {i j : Nat} (hi : i < x.size) (hj : j < y.size) (h1 : fa.getD i 0 < 0) (h2 : fb.getD j 0 < 0) (hk : kinB (x.nd i).t (y.nd j).t) : MInv x y (fa.set i (j : Int)) (fb.set j (i : Int)) := by
 have la := h.la
 have lb := h.lb
 refine ⟨by simpa using la, by simpa using lb, fun i' hi' j' he => ?_, fun j' hj' i' he => ?_⟩
 ·rw [getD_setZ _ _ _ _ (by omega)] at he
  by_cases e : i' = i
  ·rw [if_pos e] at he
   have : j' = j := by omega
   subst this; subst e
   exact ⟨hj, by rw [getD_setZ _ _ _ _ (by omega), if_pos rfl], hk⟩
  ·rw [if_neg e] at he
   obtain ⟨g1, g2, g3⟩ := h.ab i' hi' j' he
   refine ⟨g1, ?_, g3⟩
   rw [getD_setZ _ _ _ _ (by omega), if_neg (fun e' => by subst e'; omega)]
   exact g2
 ·rw [getD_setZ _ _ _ _ (by omega)] at he
  by_cases e : j' = j
  ·rw [if_pos e] at he
   have : i' = i := by omega
   subst this; subst e
   exact ⟨hi, by rw [getD_setZ _ _ _ _ (by omega), if_pos rfl]⟩
  ·rw [if_neg e] at he
   obtain ⟨g1, g2⟩ := h.ba j' hj' i' he
   refine ⟨g1, ?_⟩
   rw [getD_setZ _ _ _ _ (by omega), if_neg (fun e' => by subst e'; omega)]
   exact g2
theorem MInv.inj {x y : T} {fa fb : List Int} (h : MInv x y fa fb) {i k : Nat} (hi : i < x.size) (hk : k < x.size) (h0 : 0 ≤ fa.getD i 0) (e : fa.getD i 0 = fa.getD k 0) : i = k := by
 obtain ⟨j, hj⟩ : ∃ j : Nat, fa.getD i 0 = (j : Int) := ⟨(fa.getD i 0).toNat, by omega⟩
 have h1 := (h.ab i hi j hj).2.1
 have h2 := (h.ab k hk j (by omega)).2.1
 omega
def prF (fa : List Int) (i : Nat) : Option (Int × Int) := if 0 ≤ fa.getD i 0 then some ((i : Int), fa.getD i 0) else none
def prs (fa : List Int) (k : Nat) : List (Int × Int) := (List.range k).filterMap (prF fa)
theorem prs_succ (fa : List Int) (k : Nat) : prs fa (k + 1) = prs fa k ++ (if 0 ≤ fa.getD k 0 then [((k : Int), fa.getD k 0)] else []) := by
 unfold prs
 rw [List.range_succ, List.filterMap_append]
 congr 1
 by_cases h : 0 ≤ fa.getD k 0
 ·rw [if_pos h]; simp only [List.filterMap_cons, prF, if_pos h, List.filterMap_nil]
 ·rw [if_neg h]; simp only [List.filterMap_cons, prF, if_neg h, List.filterMap_nil]
theorem chkL_prs {x y : T} {fa fb : List Int} (h : MInv x y fa fb) : ∀ (m k : Nat) (last : Int) (seen : List Int), k + m = x.size → last < k → (∀ b ∈ seen, 0 ≤ b ∧ ∃ i, i < k ∧ fa.getD i 0 = b) → chkL x y last ((List.range' k m).filterMap (prF fa)) seen = true
 |0, k, last, seen, _, _, _ => rfl
 |m + 1, k, last, seen, hm, hl, hs => by
  rw [List.range'_succ, List.filterMap_cons]
  by_cases h0 : 0 ≤ fa.getD k 0
  ·have e : prF fa k = some ((k : Int), fa.getD k 0) := by unfold prF; rw [if_pos h0]
   rw [e]
   simp only
   rw [chkL]
   obtain ⟨j, hj⟩ : ∃ j : Nat, fa.getD k 0 = (j : Int) := ⟨(fa.getD k 0).toNat, by omega⟩
   obtain ⟨g1, g2, g3⟩ := h.ab k (by omega) j hj
   have hc : seen.contains (fa.getD k 0) = false := by
    rw [Bool.eq_false_iff]; intro hc
    obtain ⟨_, i, hi, he⟩ := hs _ (by simpa using hc)
    have := h.inj (i := k) (k := i) (by omega) (by omega) h0 he.symm
    omega
   have ih := chkL_prs h m (k + 1) (k : Int) (fa.getD k 0 :: seen) (by omega) (by omega) (fun b hb => by
    rcases List.mem_cons.1 hb with rfl | hb
    ·exact ⟨h0, k, by omega, rfl⟩
    ·obtain ⟨q, i, hi, he⟩ := hs b hb
     exact ⟨q, i, by omega, he⟩)
   rw [hj] at hc ih ⊢
   rw [hc, ih, decide_eq_true hl, decide_eq_true (by omega : (k : Int) < (x.size : Int)), decide_eq_true (by omega : (0 : Int) ≤ (j : Int)), decide_eq_true (by omega : (j : Int) < (y.size : Int))]
   simp only [Int.toNat_natCast]
   rw [decide_eq_true (show (x.nd k).t.kind = (y.nd j).t.kind ∧ (x.nd k).t.name = (y.nd j).t.name from g3)]; rfl
  ·have e : prF fa k = none := by unfold prF; rw [if_neg h0]
   rw [e]
   exact chkL_prs h m (k + 1) last seen (by omega) (by omega) (fun b hb => by
    obtain ⟨q, i, hi, he⟩ := hs b hb
    exact ⟨q, i, by omega, he⟩)
theorem chkP_prs {x y : T} {fa fb : List Int} (hx : x.check = true) (hy : y.check = true) (h : MInv x y fa fb) (h0 : fa.getD 0 0 = 0) : chkP x y (prs fa x.size) = true := by
 have hp := T.size_pos x
 have h1 := chkL_prs h x.size 0 (-1) [] (by omega) (by omega) (by simp)
 have h2 : (prs fa x.size).head? = some (0, 0) := by
  unfold prs
  obtain ⟨n, hn⟩ : ∃ n, x.size = n + 1 := ⟨x.size - 1, by omega⟩
  rw [hn, List.range_eq_range', List.range'_succ, List.filterMap_cons]
  have e : prF fa 0 = some (0, 0) := by unfold prF; rw [h0]; rfl
  rw [e]; rfl
 unfold chkP
 rw [hx, hy, h2]
 have e : chkL x y (-1) (prs fa x.size) [] = true := by unfold prs; rw [List.range_eq_range']; exact h1
 rw [e]; rfl
def whF (fa : List Int) (i k : Nat) : Nat → List Int
 |0 => fa
 |n + 1 => (whF fa i k n).set (i + n) ((k + n : Nat) : Int)
theorem whF_len (fa : List Int) (i k : Nat) : ∀ n, (whF fa i k n).length = fa.length
 |0 => rfl
 |n + 1 => by rw [whF, List.length_set, whF_len fa i k n]
theorem whF_get (fa : List Int) (i k : Nat) : ∀ n, i + n ≤ fa.length → ∀ q, (whF fa i k n).getD q 0 = if i ≤ q ∧ q < i + n then ((k + (q - i) : Nat) : Int) else fa.getD q 0
 |0, _, q => by rw [whF, if_neg (by omega)]
 |n + 1, hn, q => by
  rw [whF, getD_setZ _ _ _ _ (by rw [whF_len]; omega), whF_get fa i k n (by omega)]
  by_cases h : q = i + n
  ·rw [if_pos h, if_pos (by omega)]
   congr 1; omega
  ·rw [if_neg h]
   by_cases h2 : i ≤ q ∧ q < i + n
   ·rw [if_pos h2, if_pos (by omega)]
   ·rw [if_neg h2, if_neg (by omega)]
theorem MInv.whole {x y : T} {fa fb : List Int} (h : MInv x y fa fb) {i k z : Nat} (hi : i + z ≤ x.size) (hk : k + z ≤ y.size) (h1 : ∀ d, d < z → fa.getD (i + d) 0 < 0) (h2 : ∀ d, d < z → fb.getD (k + d) 0 < 0) (he : ∀ d, d < z → (x.nd (i + d)).t = (y.nd (k + d)).t) :
  ∀ n, n ≤ z → MInv x y (whF fa i k n) (whF fb k i n)
 |0, _ => h
 |n + 1, hn => by
  have ih := MInv.whole h hi hk h1 h2 he n (by omega)
  have la := h.la
  have lb := h.lb
  rw [whF, whF]
  refine ih.add (by omega) (by omega) ?_ ?_ ?_
  ·rw [whF_get _ _ _ _ (by omega), if_neg (by omega)]; exact h1 n (by omega)
  ·rw [whF_get _ _ _ _ (by omega), if_neg (by omega)]; exact h2 n (by omega)
  ·rw [he n (by omega)]; exact ⟨rfl, rfl⟩
def HInv (x : T) (fa : List Int) (h : Int) : Prop := ∀ i, i < x.size → 0 ≤ fa.getD i 0 → ∃ r, r ≤ i ∧ i < r + x.zAt r ∧ r < x.size ∧ h ≤ x.hAt r ∧ ∀ d, d < x.zAt r → 0 ≤ fa.getD (r + d) 0
theorem HInv.init (x : T) (h : Int) : HInv x (List.replicate x.size (-1)) h := fun i hi h0 => by
 have : (List.replicate x.size (-1 : Int)).getD i 0 = -1 := by simp [List.getD_eq_getElem?_getD, hi]
 omega
theorem HInv.mono {x : T} {fa : List Int} {h h' : Int} (k : HInv x fa h) (hh : h' ≤ h) : HInv x fa h' := fun i hi h0 => by
 obtain ⟨r, a1, a2, a3, a4, a5⟩ := k i hi h0
 exact ⟨r, a1, a2, a3, by omega, a5⟩
theorem HInv.free {x : T} {fa : List Int} {h : Int} (k : HInv x fa h) {i : Nat} (hi : i < x.size) (hh : (x.hAt i : Int) ≤ h) (h0 : fa.getD i 0 < 0) : ∀ d, d < x.zAt i → fa.getD (i + d) 0 < 0 := fun d hd => by
 rcases Int.lt_or_le (fa.getD (i + d) 0) 0 with h1 | h1
 ·exact h1
 ·exfalso
  have hend := x.zAt_end hi
  obtain ⟨r, a1, a2, a3, a4, a5⟩ := k (i + d) (by omega) h1
  by_cases hr : r ≤ i
  ·have := a5 (i - r) (by omega)
   rw [show r + (i - r) = i by omega] at this
   omega
  ·have := x.hAt_in hi (d := r - i) (by omega) (by omega)
   rw [show i + (r - i) = r by omega] at this
   omega
theorem HInv.whole {x : T} {fa : List Int} {h : Int} (k : HInv x fa h) {i j : Nat} (hi : i < x.size) (la : fa.length = x.size) (hh : h ≤ (x.hAt i : Int)) : HInv x (whF fa i j (x.zAt i)) h := fun q hq h0 => by
 have hend := x.zAt_end hi
 have hg := whF_get fa i j (x.zAt i) (by omega)
 by_cases hin : i ≤ q ∧ q < i + x.zAt i
 ·exact ⟨i, hin.1, hin.2, hi, hh, fun d hd => by rw [hg, if_pos (by omega)]; omega⟩
 ·rw [hg, if_neg hin] at h0
  obtain ⟨r, a1, a2, a3, a4, a5⟩ := k q hq h0
  refine ⟨r, a1, a2, a3, a4, fun d hd => ?_⟩
  rw [hg]
  split
  ·omega
  ·exact a5 d hd
end
section
open Go.RowKit Go.MapKept
theorem refWhole {A : List Nat} {w : World} {B : Nat} {sa sb : Sl} {fa fb : List Int} (h : MRd A w B sa sb fa fb) {i k z : Nat} (hi : i + z ≤ fa.length) (hk : k + z ≤ fb.length) (la : fa.length ≤ 1000000000) (lb : fb.length ≤ 1000000000) :
  Calls Try.prog 53 #[.pointer (some ⟨B, 0, none⟩), .int .i64 (i : Int), .int .i64 (k : Int), .int .i64 (z : Int)] w (Ret fun v w' => Chg (sa.blk ++ sb.blk) w w' ∧ v = .tuple #[] ∧ MRd A w' B sa sb (whF fa i k z) (whF fb k i z)) := by
 refine ref19_M_whole.ok _ _ _ _ ?_
 unfold ref19_M_whole.vc
 refine ⟨fun q w' => ∃ n : Nat, q = (n : Int) ∧ n ≤ z ∧ Chg (sa.blk ++ sb.blk) w w' ∧ MRd A w' B sa sb (whF fa i k n) (whF fb k i n), fun q _ => z - q.toNat, ⟨0, rfl, by omega, Chg.refl _ _, h⟩, ?_⟩
 rintro _ w1 ⟨n, rfl, hn, hC, hM⟩
 refine ⟨fun hlt => ⟨⟨by omega, by omega⟩, ⟨by omega, by omega⟩, ?_⟩, fun hge => ?_⟩
 ·have l1 := whF_len fa i k n
  have l2 := whF_len fb k i n
  have hc := refAdd hM (i := i + n) (j := k + n) (by omega) (by omega)
  rw [Int.natCast_add, Int.natCast_add] at hc
  refine CallK.chg hc (by simp) ?_
  rintro v w2 hC2 ⟨rfl, hM2⟩
  refine ⟨rfl, ⟨by omega, by omega⟩, ⟨n + 1, by omega, by omega, hC.trans hC2, ?_⟩, by dsimp only; omega⟩
  rw [← Int.natCast_add, ← Int.natCast_add] at hM2
  exact hM2
 ·have : n = z := by omega
  subst this
  exact ⟨hC, rfl, hM⟩
theorem ones_pc (p : Int × Int) : ∀ u ∈ [pc p].flatten, u.oneCell' = true := by intro u hu; simp [pc] at hu; rcases hu with rfl | rfl <;> rfl
theorem refPairs {A : List Nat} {w : World} {B : Nat} {sa sb : Sl} {fa fb : List Int} (h : MRd A w B sa sb fa fb) (la : fa.length ≤ 1000000000) :
  Calls Try.prog 34 #[.pointer (some ⟨B, 0, none⟩)] w (Ret fun v w' => Ext w w' ∧ ∃ s : Sl, v = s.v ∧ Own (List.range w.heap.size) w' s 2 40 ((prs fa fa.length).map pc)) := by
 refine ref19_M_Pairs.ok _ ?_
 unfold ref19_M_Pairs.vc
 have hn := h.a.len
 rw [List.length_map] at hn
 refine ⟨fun l i w' => ∃ k : Nat, i = (k : Int) ∧ k ≤ fa.length ∧ Own (List.range w.heap.size) w' l 2 40 ((prs fa k).map pc) ∧ Ext w w', fun _ i _ => fa.length - i.toNat, ⟨0, rfl, by omega, Own.nil _ _ _ _, Chg.refl _ _⟩, ?_⟩
 rintro l _ w1 ⟨k, rfl, hk, hO, hE⟩
 have h1 := h.ext hE
 refine ⟨sa, h1.box.cell 0 _ rfl, fun hi => ?_, fun hi => ?_⟩
 ·have hk' : k < fa.length := by omega
  obtain ⟨p, hp, hc⟩ := h1.a.row.zAt hk'
  have hs := prs_succ fa k
  refine ⟨sa, h1.box.cell 0 _ rfl, ⟨by omega, by omega⟩, p, hp, fa.getD k 0, hc, fun h0 => ⟨sa, h1.box.cell 0 _ rfl, ⟨by omega, by omega⟩, p, hp, fa.getD k 0, hc, fun w2 B2 hN2 hE2 hbox => ?_⟩, fun h0 => ⟨⟨by omega, by omega⟩, ⟨k + 1, by omega, by omega, ?_, hE⟩, by dsimp only; omega⟩⟩
  ·rw [if_pos h0] at hs
   have hln := hO.len
   rw [List.length_map] at hln
   have hpl : (prs fa k).length ≤ k := by unfold prs; exact Nat.le_trans (List.length_filterMap_le _ _) (by simp)
   have hbox' : Box w2 B2 40 (pc ((k : Int), fa.getD k 0)) := hbox
   refine App.runK Try.underlying29 ti_40 rfl (by decide) (.inl (hO.ext hE2)) (fun b hb => Nat.lt_of_lt_of_le (List.mem_range.1 hb) (hE.trans hE2).size) (Own.one (A := []) hbox' (by simp)).row (ones_pc _) (by simp) (by simp only [maxLen, List.length_singleton]; omega) (by simp only [List.length_singleton]; omega) (by simp) fun s' w3 ho3 hC3 hb3 => ⟨s', rfl, ⟨by omega, by omega⟩, ⟨k + 1, by omega, by omega, ?_, ?_⟩, by dsimp only; omega⟩
   ·rw [hs, List.map_append]; exact ho3
   ·exact Chg.fresh (hE.trans hE2) hC3 fun b hb => by
     have := (hO.blk b (Sl.own_blk hb)).1
     simp at this; exact this
  ·rw [if_neg h0, List.append_nil] at hs
   rw [hs]; exact hO
 ·have : k = fa.length := by omega
  subst this
  exact ⟨hE, l, rfl, hO⟩
def RItemsT (w : World) (s : Sl) (t : T) : Prop := RItemsQ (RdT [] w) w s t
theorem RItemsT.ext {w w' : World} {s : Sl} {t : T} (h : RItemsT w s t) (c : Ext w w') : RItemsT w' s t := by
 obtain ⟨rows, h1, h2, h3⟩ := h
 refine ⟨rows, h1.ext c, h2, fun i e u he hu => ?_⟩
 obtain ⟨a, sa, sk, e1, e2, e3⟩ := h3 i e u he hu
 exact ⟨a, sa, sk, e1, e2.ext c, e3.ext c⟩
theorem RItemsT.to {w : World} {s : Sl} {t : T} (h : RItemsT w s t) : RItems w s t := RItemsQ.to h
theorem RItemsT.at {w : World} {s : Sl} {t : T} (h : RItemsT w s t) : s.n = t.size ∧ ∃ p, s.a = some p ∧ ∀ w', Ext w w' → ∀ j, j < t.size → ∃ a sa sk : Sl, Cells w' (p.add (j * 15)) (rc (t.nd j) a sa sk (t.zAt j) (t.hAt j)) ∧ RdT [] w' (t.nd j).t sa sk := by
 have hn := h.to.len
 obtain ⟨rows, ho, hr⟩ := h
 have hrl := hr.1
 rw [T.flat_len] at hrl
 have hpos := T.size_pos t
 obtain ⟨p, hp, _⟩ := ho.row.at_ 0 (by omega)
 refine ⟨hn, p, hp, fun w' hE j hj => ?_⟩
 have := (ho.ext hE).row.cells1 (i := j) (by omega) hp
 obtain ⟨u, hu⟩ : ∃ u, rows[j]? = some u := ⟨_, List.getElem?_eq_getElem (by omega)⟩
 obtain ⟨a, sa, sk, rfl, h2, h3⟩ := hr.2 j _ u (t.flat_get hj) hu
 rw [List.getD_eq_getElem?_getD, hu] at this
 exact ⟨a, sa, sk, this, h3.ext hE⟩
theorem refFlatT {X : List Nat} {t : T} (hb : t.bulk ≤ 400000000) {w : World} {sa sk : Sl} (hr : RdT X w t sa sk) :
  Calls Try.prog 11 #[tv t sa sk] w (Ret fun v w' => Ext w w' ∧ ∃ s : Sl, v = s.v ∧ RItemsT w' s t) :=
 Ret.mono (refFlatQ hb hr) fun _ w' ⟨h1, s, h2, h3, h4⟩ => ⟨h1, s, h2, by
  obtain ⟨rows, a1, a2, a3⟩ := h3
  refine ⟨rows, a1, a2, fun i e u he hu => ?_⟩
  obtain ⟨a, sa, sk, e1, e2, e3⟩ := a3 i e u he hu
  exact ⟨a, sa, sk, e1, e2, e3.ext h1⟩⟩
theorem MRd.low {N : Nat} {w : World} {B : Nat} {sa sb : Sl} {fa fb : List Int} (h : MRd (List.range N) w B sa sb fa fb) : ∀ b ∈ sa.blk ++ sb.blk, N ≤ b := fun b hb => by
 rcases List.mem_append.1 hb with hb | hb
 ·have := (h.a.blk b hb).1; simp at this; exact this
 ·have := (h.b.blk b hb).1; simp at this; exact this
theorem refAlike {A : List Nat} {w : World} {a b : T} {qa ka qb kb : Sl} (ha : RdT A w a qa ka) (hb : RdT A w b qb kb) (na : a.bulk ≤ 400000000) (nb : b.bulk ≤ 400000000) (least : Int) :
  Calls Try.prog 29 #[tv a qa ka, tv b qb kb, .int .i64 least] w (Ret fun v w' => Ext w w' ∧ ∃ (B : Nat) (sa sb : Sl) (fa fb : List Int), v = .pointer (some ⟨B, 0, none⟩) ∧ MRd (List.range w.heap.size) w' B sa sb fa fb ∧ MInv a b fa fb) := by
 refine ref19_Alike.ok _ _ _ _ _ _ _ _ _ _ _ ?_
 unfold ref19_Alike.vc
 have hsa := T.size_bulk a
 have hsb := T.size_bulk b
 have hpa := T.size_pos a
 have hpb := T.size_pos b
 have hd0 : a.hAt 0 ≤ a.size := by
  have e : a.hAt 0 = (a.nd 0).t.depth := rfl
  rw [e, T.nd_zero]; exact T.depth_size a
 intro w1 B1 B2 _ _ _ hE1
 refine ⟨fun s w' => RItemsT w' s a, fun s w' w'' hE h => h.ext hE, fun w' hE => Ret.mono (refFlatT na (ha.ext (hE1.trans hE))) fun v w'' ⟨h1, s, h2, h3⟩ => ⟨h1, s, h2, h3⟩, fun s w' => RItemsT w' s b, fun s w' w'' hE h => h.ext hE, fun w' hE => Ret.mono (refFlatT nb (hb.ext (hE1.trans hE))) fun v w'' ⟨h1, s, h2, h3⟩ => ⟨h1, s, h2, h3⟩, ?_⟩
 intro w2 rx ry hE2 hX hY
 have hE02 := hE1.trans hE2
 have hxn := hX.to.len
 have hyn := hY.to.len
 rw [hxn, hyn]
 refine CallK.ext (refMNew a.size b.size (by omega) (by omega)) ?_
 rintro v w3 hE3 ⟨B, sa, sb, rfl, hM⟩
 refine ⟨_, rfl, ?_⟩
 have hE03 := hE02.trans hE3
 have out : ∀ {w' : World} {fa fb : List Int}, MRd (List.range w2.heap.size) w' B sa sb fa fb → MRd (List.range w.heap.size) w' B sa sb fa fb := fun h => h.less fun b hb => by
  have := hE02.size
  rw [List.mem_range] at hb ⊢; omega
 refine CallK.exact (refSame a b (ha.ext hE03) (hb.ext hE03)) fun w4 hE4 => ⟨_, rfl, fun hs => ?_, fun hs w5 hE5 => ?_⟩
 ·have heq : a = b := (T.cmp_zero a b).1 (of_decide_eq_true hs)
  subst heq
  have hM4 := hM.ext hE4
  have hw := refWhole hM4 (i := 0) (k := 0) (z := a.size) (by simp) (by simp) (by simp; omega) (by simp; omega)
  refine CallK.chg hw (by simp) ?_
  rintro v w5 hC5 ⟨rfl, hM5⟩
  refine ⟨rfl, Chg.fresh (hE03.trans hE4) hC5 (fun b hb => Nat.le_trans hE02.size (hM4.low b hb)), B, sa, sb, _, _, rfl, out hM5, ?_⟩
  have hn : ∀ (n i : Nat), i < n → (List.replicate n (-1 : Int)).getD i 0 = -1 := fun n i hi => by simp [List.getD_eq_getElem?_getD, hi]
  refine (MInv.init a a).whole (i := 0) (k := 0) (z := a.size) (by omega) (by omega) (fun d hd => ?_) (fun d hd => ?_) (fun d hd => rfl) a.size (Nat.le_refl _)
  ·rw [hn _ _ (by omega)]; omega
  ·rw [hn _ _ (by omega)]; omega
 have hE25 := (hE3.trans hE4).trans hE5
 obtain ⟨_, px, hpx, hxc⟩ := hX.at
 obtain ⟨_, py, hpy, hyc⟩ := hY.at
 obtain ⟨_, _, _, hx0, _⟩ := hxc w5 hE25 0 (by omega)
 obtain ⟨_, _, _, hy0, _⟩ := hyc w5 hE25 0 (by omega)
 refine ⟨px, ⟨⟨by omega, by omega⟩, hpx⟩, (a.hAt 0 : Int), hx0 3 _ rfl, py, ⟨⟨by omega, by omega⟩, hpy⟩, (b.hAt 0 : Int), hy0 3 _ rfl, fun w6 hE6 => ?_⟩
 have hM6 := ((hM.ext hE4).ext hE5).ext hE6
 refine ⟨fun h w' => ∃ fa fb : List Int, MRd (List.range w2.heap.size) w' B sa sb fa fb ∧ MInv a b fa fb ∧ HInv a fa (h + 1) ∧ HInv b fb (h + 1) ∧ Ext w2 w' ∧ h ≤ a.hAt 0, fun h _ => h.toNat, ⟨_, _, hM6, MInv.init a b, HInv.init _ _, HInv.init _ _, hE25.trans hE6, by omega⟩, ?_⟩
 rintro h w7 ⟨fa, fb, hM7, hI7, hHa, hHb, hE7, hh⟩
 refine ⟨fun hgo => ?_, fun hno => ⟨hE02.trans hE7, B, sa, sb, fa, fb, rfl, out hM7, hI7⟩⟩
 refine ⟨fun i w' => ∃ (n : Nat) (fa fb : List Int), i = (n : Int) ∧ 1 ≤ n ∧ n ≤ a.size ∧ MRd (List.range w2.heap.size) w' B sa sb fa fb ∧ MInv a b fa fb ∧ HInv a fa h ∧ HInv b fb h ∧ Ext w2 w', fun i _ => a.size - i.toNat, ⟨1, fa, fb, rfl, by omega, by omega, hM7, hI7, hHa.mono (by omega), hHb.mono (by omega), hE7⟩, ?_⟩
 rintro _ w8 ⟨n, fa, fb, rfl, hn1, hn2, hM8, hI8, hHa8, hHb8, hE8⟩
 refine ⟨fun hi => ?_, fun hi => ?_⟩
 ·have hn' : n < a.size := by omega
  have la := hI8.la
  have lb := hI8.lb
  have hna := hM8.a.len
  have hnb := hM8.b.len
  rw [List.length_map] at hna hnb
  obtain ⟨_, _, _, hxn', _⟩ := hxc w8 hE8 n hn'
  obtain ⟨p, hp, hpc⟩ := hM8.a.row.zAt (k := n) (by omega)
  refine ⟨⟨by omega, by omega⟩, px, hpx, (a.hAt n : Int), hxn' 3 _ rfl, ⟨B, 0, none⟩, fun _ => rfl, sa, fun _ => hM8.box.cell 0 _ rfl, p, fun _ => ⟨⟨by omega, by omega⟩, hp⟩, fa.getD n 0, fun _ => hpc, fun _ => ⟨⟨by omega, by omega⟩, ⟨n + 1, fa, fb, by omega, by omega, by omega, hM8, hI8, hHa8, hHb8, hE8⟩, by dsimp only; omega⟩, fun hg => ?_⟩
  obtain ⟨hg1, hg2⟩ := hg
  have hhn : (a.hAt n : Int) = h := Classical.not_not.1 hg1
  have hz := a.zAt_end hn'
  refine ⟨fun k w' => ∃ m : Nat, k = (m : Int) ∧ 1 ≤ m ∧ m ≤ b.size ∧ MRd (List.range w2.heap.size) w' B sa sb fa fb ∧ Ext w2 w', fun k _ => b.size - k.toNat, ⟨1, rfl, by omega, by omega, hM8, hE8⟩, ?_⟩
  rintro _ w9 ⟨m, rfl, hm1, hm2, hM9, hE9⟩
  refine ⟨fun hk w10 hE10 => ?_, fun hk => ⟨⟨by omega, by omega⟩, ⟨n + 1, fa, fb, by omega, by omega, by omega, hM9, hI8, hHa8, hHb8, hE9⟩, by dsimp only; omega⟩⟩
  have hm' : m < b.size := by omega
  have hM10 := hM9.ext hE10
  have hE210 := hE9.trans hE10
  obtain ⟨_, xsa, xsk, hxi, hxr⟩ := hxc w10 hE210 n hn'
  obtain ⟨_, ysa, ysk, hyi, hyr⟩ := hyc w10 hE210 m hm'
  obtain ⟨q, hq, hqc⟩ := hM10.b.row.zAt (k := m) (by omega)
  refine ⟨py, ⟨⟨by omega, by omega⟩, hpy⟩, (b.hAt m : Int), hyi 3 _ rfl, ⟨B, 0, none⟩, fun _ => rfl, sb, fun _ => hM10.box.cell 1 _ rfl, q, fun _ => ⟨⟨by omega, by omega⟩, hq⟩, fb.getD m 0, fun _ => hqc, px, fun _ => ⟨⟨by omega, by omega⟩, hpx⟩, (a.nd n).t.kind, (a.nd n).t.name, (a.nd n).t.text, xsa, xsk, fun _ => Cells.drop hxi 10, py, fun _ => ⟨⟨by omega, by omega⟩, hpy⟩, (b.nd m).t.kind, (b.nd m).t.name, (b.nd m).t.text, ysa, ysk, fun _ => Cells.drop hyi 10, decide (T.cmp (a.nd n).t (b.nd m).t = 0), fun _ w' hE => refSame (a.nd n).t (b.nd m).t (hxr.ext hE) (hyr.ext hE), fun hgd => ⟨⟨by omega, by omega⟩, px, hpx, fun w11 hE11 => ?_⟩, fun _ => ⟨⟨by omega, by omega⟩, fun w11 hE11 => ⟨⟨m + 1, by omega, by omega, by omega, hM10.ext hE11, hE210.trans hE11⟩, by dsimp only; omega⟩⟩⟩
  obtain ⟨⟨hd1, hd2⟩, hd3⟩ := hgd
  have heq := (T.cmp_zero _ _).1 (of_decide_eq_true hd3)
  have hzz : a.zAt n = b.zAt m := by
   have e1 : a.zAt n = (a.nd n).t.size := rfl
   have e2 : b.zAt m = (b.nd m).t.size := rfl
   rw [e1, e2, heq]
  have hzb := b.zAt_end hm'
  have hM11 := hM10.ext hE11
  have hE211 := hE210.trans hE11
  refine ⟨(a.zAt n : Int), (hxi.ext hE11) 1 _ rfl, ?_⟩
  have hw := refWhole hM11 (i := n) (k := m) (z := a.zAt n) (by omega) (by omega) (by omega) (by omega)
  refine CallK.chg hw (by simp) ?_
  rintro v w12 hC12 ⟨rfl, hM12⟩
  refine ⟨rfl, ⟨by omega, by omega⟩, ⟨n + 1, _, _, by omega, by omega, by omega, hM12, ?_, ?_, ?_, Chg.fresh hE211 hC12 hM11.low⟩, by dsimp only; omega⟩
  ·refine hI8.whole (z := a.zAt n) (by omega) (by omega) (hHa8.free hn' (by omega) (by omega)) (fun d hd => hHb8.free hm' (by omega) hd2 d (by omega)) (fun d hd => ?_) _ (Nat.le_refl _)
   rw [a.nd_in hn' hd, b.nd_in hm' (by omega), heq]
  ·exact hHa8.whole hn' la (by omega)
  ·rw [hzz]; exact hHb8.whole hm' lb (by omega)
 ·exact ⟨⟨by omega, by omega⟩, ⟨fa, fb, hM8, hI8, by rw [show h - 1 + 1 = h by omega]; exact hHa8, by rw [show h - 1 + 1 = h by omega]; exact hHb8, hE8, by omega⟩, by dsimp only; omega⟩
end
section
open Go.RowKit Go.MapKept
def T.pst (t : T) : Nat → Nat → List Nat
 |0, _ => []
 |f + 1, j => ((t.kidsAt j).map (T.pst t f)).flatten ++ [j]
theorem kidLoop_sum (z : Nat → Nat) (lim : Nat) : ∀ (f k : Nat), lim ≤ f + k → k ≤ lim → (∀ i, k ≤ i → i < lim → 1 ≤ z i ∧ i + z i ≤ lim) → ((kidLoop z lim f k).map z).sum = lim - k
 |0, k, hf, hk, _ => by simp [kidLoop]; omega
 |f + 1, k, hf, hk, hz => by
  rw [kidLoop]
  by_cases h : k < lim
  ·obtain ⟨h1, h2⟩ := hz k (Nat.le_refl _) h
   rw [if_pos h, List.map_cons, List.sum_cons, kidLoop_sum z lim f (k + z k) (by omega) h2 (fun i hi hl => hz i (by omega) hl)]
   omega
  ·rw [if_neg h]; simp; omega
theorem T.zAt_kid (t : T) {j k : Nat} (hj : j < t.size) (h1 : j < k) (h2 : k < j + t.zAt j) : 1 ≤ t.zAt k ∧ k + t.zAt k ≤ j + t.zAt j := by
 have hend := t.zAt_end hj
 have h := t.zAt_in hj (d := k - j) (by omega)
 rw [show j + (k - j) = k by omega] at h
 exact ⟨(t.zAt_end (by omega)).2, by omega⟩
theorem T.kids_sum (t : T) {j : Nat} (hj : j < t.size) : ((t.kidsAt j).map t.zAt).sum = t.zAt j - 1 := by
 have hend := t.zAt_end hj
 unfold T.kidsAt
 rw [kidLoop_sum t.zAt (j + t.zAt j) t.size (j + 1) (by omega) (by omega) (fun i h1 h2 => t.zAt_kid hj (by omega) h2)]
 omega
theorem T.kidsAt_in (t : T) {j : Nat} : ∀ k ∈ t.kidsAt j, j < k ∧ k < j + t.zAt j := fun k hk => by
 have := kidLoop_lt t.zAt (j + t.zAt j) t.size (j + 1) k hk
 omega
theorem T.pst_len (t : T) : ∀ (f j : Nat), j < t.size → t.zAt j ≤ f → (t.pst f j).length = t.zAt j
 |0, j, hj, hf => by have := t.zAt_end hj; omega
 |f + 1, j, hj, hf => by
  have hend := t.zAt_end hj
  rw [T.pst, List.length_append, List.length_flatten, List.map_map, List.length_singleton]
  have e : (t.kidsAt j).map (List.length ∘ t.pst f) = (t.kidsAt j).map t.zAt := List.map_congr_left fun k hk => by
   obtain ⟨h1, h2⟩ := t.kidsAt_in k hk
   have h3 := t.zAt_kid hj h1 h2
   exact T.pst_len t f k (by omega) (by omega)
  rw [e, t.kids_sum hj]; omega
theorem T.pst_in (t : T) : ∀ (f j : Nat), j < t.size → ∀ e ∈ t.pst f j, j ≤ e ∧ e < j + t.zAt j
 |0, j, _, e, he => by cases he
 |f + 1, j, hj, e, he => by
  have hend := t.zAt_end hj
  rw [T.pst] at he
  rcases List.mem_append.1 he with he | he
  ·obtain ⟨l, hl, he⟩ := List.mem_flatten.1 he
   obtain ⟨k, hk, rfl⟩ := List.mem_map.1 hl
   obtain ⟨h1, h2⟩ := t.kidsAt_in k hk
   have h3 := t.zAt_kid hj h1 h2
   have := T.pst_in t f k (by omega) e he
   omega
  ·simp only [List.mem_singleton] at he; subst he; omega
def NS (z : Nat → Nat) (L : List Nat) : Prop := ∀ p, p < L.length → z (L.getD p 0) ≤ p + 1 ∧ ∀ q, p + 1 - z (L.getD p 0) ≤ q → q ≤ p → p + 1 - z (L.getD p 0) ≤ q + 1 - z (L.getD q 0)
theorem NS.app {z : Nat → Nat} {A B : List Nat} (ha : NS z A) (hb : NS z B) : NS z (A ++ B) := fun p hp => by
 rw [List.length_append] at hp
 have gA : ∀ q, q < A.length → (A ++ B).getD q 0 = A.getD q 0 := fun q hq => by rw [List.getD_eq_getElem?_getD, List.getElem?_append_left hq, ← List.getD_eq_getElem?_getD]
 have gB : ∀ q, A.length ≤ q → (A ++ B).getD q 0 = B.getD (q - A.length) 0 := fun q hq => by rw [List.getD_eq_getElem?_getD, List.getElem?_append_right hq, ← List.getD_eq_getElem?_getD]
 by_cases h : p < A.length
 ·rw [gA p h]
  obtain ⟨h1, h2⟩ := ha p h
  refine ⟨h1, fun q h3 h4 => ?_⟩
  rw [gA q (by omega)]
  exact h2 q h3 h4
 ·rw [gB p (by omega)]
  obtain ⟨h1, h2⟩ := hb (p - A.length) (by omega)
  refine ⟨by omega, fun q h3 h4 => ?_⟩
  rw [gB q (by omega)]
  have := h2 (q - A.length) (by omega) (by omega)
  have h5 := (hb (q - A.length) (by omega)).1
  omega
theorem NS.flat {z : Nat → Nat} : ∀ (ls : List (List Nat)), (∀ l ∈ ls, NS z l) → NS z ls.flatten
 |[], _ => fun p hp => by simp at hp
 |l :: r, h => by
  rw [List.flatten_cons]
  exact (h l (by simp)).app (NS.flat r fun m hm => h m (by simp [hm]))
theorem NS.snoc {z : Nat → Nat} {A : List Nat} {j : Nat} (h : NS z A) (hz : z j = A.length + 1) : NS z (A ++ [j]) := fun p hp => by
 rw [List.length_append, List.length_singleton] at hp
 have gA : ∀ q, q < A.length → (A ++ [j]).getD q 0 = A.getD q 0 := fun q hq => by rw [List.getD_eq_getElem?_getD, List.getElem?_append_left hq, ← List.getD_eq_getElem?_getD]
 by_cases h' : p < A.length
 ·rw [gA p h']
  obtain ⟨h1, h2⟩ := h p h'
  refine ⟨h1, fun q h3 h4 => ?_⟩
  rw [gA q (by omega)]
  exact h2 q h3 h4
 ·have hp' : p = A.length := by omega
  subst hp'
  have e : (A ++ [j]).getD A.length 0 = j := by simp [List.getD_eq_getElem?_getD]
  rw [e]
  exact ⟨by omega, fun q _ _ => by omega⟩
theorem T.pst_ns (t : T) : ∀ (f j : Nat), j < t.size → t.zAt j ≤ f → NS t.zAt (t.pst f j)
 |0, j, hj, hf => by have := t.zAt_end hj; omega
 |f + 1, j, hj, hf => by
  have hend := t.zAt_end hj
  have hl := t.pst_len (f + 1) j hj hf
  rw [T.pst] at hl ⊢
  rw [List.length_append, List.length_singleton] at hl
  refine (NS.flat _ fun l hl' => ?_).snoc (by omega)
  obtain ⟨k, hk, rfl⟩ := List.mem_map.1 hl'
  obtain ⟨h1, h2⟩ := t.kidsAt_in k hk
  have h3 := t.zAt_kid hj h1 h2
  exact T.pst_ns t f k (by omega) (by omega)
theorem ones_ncs (l : List Nat) : ∀ u ∈ (l.map nc).flatten, u.oneCell' = true := by
 intro u hu
 obtain ⟨c, hc, hu⟩ := List.mem_flatten.1 hu
 obtain ⟨p, _, rfl⟩ := List.mem_map.1 hc
 simp [nc] at hu; subst hu; rfl
theorem refPost {w0 : World} {a : Sl} {t : T} (hb : t.size ≤ 400000000) : ∀ (f j : Nat), j < t.size → t.zAt j ≤ f → ∀ {w : World}, RItems w a t →
  Calls Try.prog 54 #[a.v, .int .i64 (j : Int)] w (Ret fun v w' => Ext w w' ∧ ∃ s : Sl, v = s.v ∧ Own (List.range w.heap.size) w' s 1 3 ((t.pst f j).map nc))
 |0, j, hj, hf, w, _ => by have := t.zAt_end hj; omega
 |f + 1, j, hj, hf, w, hI => by
  refine ref07_post.ok _ _ ?_
  unfold ref07_post.vc
  have hend := t.zAt_end hj
  obtain ⟨hn, p, hp, hc⟩ := hI.at
  have size : ∀ w', Ext w w' → ∀ k, k < t.size → w'.cell? ((p.add (k * 15)).add 1) = some (.int .i64 (t.zAt k : Int)) := fun w' hE k hk => by
   obtain ⟨_, _, _, h, _⟩ := hc w' hE k hk
   exact h 1 _ rfl
  refine ⟨⟨by omega, by omega⟩, fun m k w' => ∃ (k' g : Nat) (us : List Nat), k = (k' : Int) ∧ j < k' ∧ t.size ≤ g + k' ∧ Own (List.range w.heap.size) w' m 1 3 (((us.map (t.pst f)).flatten).map nc) ∧ us ++ kidLoop t.zAt (j + t.zAt j) g k' = t.kidsAt j ∧ k' ≤ j + t.zAt j ∧ Ext w w', fun _ k _ => t.size - k.toNat,
   ⟨j + 1, t.size, [], by omega, by omega, by omega, Own.nil _ _ _ _, rfl, by omega, Chg.refl _ _⟩, ?_⟩
  rintro m _ w1 ⟨k, g, us, rfl, hjk, hg, hO, hus, hks, hE⟩
  have husl : ((us.map (t.pst f)).flatten).length ≤ t.zAt j := by
   have h1 : (us.map t.zAt).sum ≤ ((t.kidsAt j).map t.zAt).sum := by rw [← hus, List.map_append, List.sum_append]; omega
   rw [t.kids_sum hj] at h1
   rw [List.length_flatten, List.map_map]
   have e : us.map (List.length ∘ t.pst f) = us.map t.zAt := List.map_congr_left fun k hk => by
    obtain ⟨h1, h2⟩ := t.kidsAt_in (j := j) k (by rw [← hus]; exact List.mem_append_left _ hk)
    have h3 := t.zAt_kid hj h1 h2
    exact T.pst_len t f k (by omega) (by omega)
   rw [e]; omega
  have hmn := hO.len
  rw [List.length_map] at hmn
  refine ⟨⟨by omega, by omega⟩, p, hp, (t.zAt j : Int), size w1 hE j hj, ⟨by omega, by omega⟩, fun hlt => ?_, fun hge w2 B2 hN2 hE2 hbox => ?_⟩
  ·have hk : k < t.size := by omega
   have hkz := t.zAt_kid hj hjk (by omega)
   obtain ⟨g', rfl⟩ : ∃ g', g = g' + 1 := by
    cases g with
    |zero => exact absurd hg (by omega)
    |succ g => exact ⟨g, rfl⟩
   rw [kidLoop, if_pos (by omega)] at hus
   refine CallK.ext (refPost (w0 := w0) hb f k hk (by omega) (hI.ext hE)) ?_
   rintro v w2 hE2 ⟨r, rfl, hR⟩
   have hpl := t.pst_len f k hk (by omega)
   refine ⟨r, rfl, ?_⟩
   have hne : (t.pst f k).map nc ≠ [] := by
    intro h
    have := congrArg List.length h
    rw [List.length_map, hpl] at this
    simp at this; omega
   refine App.runK Try.underlying22 ti_3 rfl (by decide) (.inl (hO.ext hE2)) (fun b hb => Nat.lt_of_lt_of_le (List.mem_range.1 hb) (hE.trans hE2).size) (hR.less (by simp)).row (ones_ncs _) hne (by simp only [maxLen, List.length_map]; omega) (by simp only [List.length_map]; omega) (by simp) fun s' w3 ho3 hC3 hb3 => ?_
   have hE3 : Ext w w3 := Chg.fresh (hE.trans hE2) hC3 (fun b hb => by have := (hO.blk b (Sl.own_blk hb)).1; simp at this; exact this)
   refine ⟨s', rfl, ⟨by omega, by omega⟩, p, hp, (t.zAt k : Int), size w3 hE3 k hk, ⟨by omega, by omega⟩, ⟨k + t.zAt k, g', us ++ [k], by omega, by omega, by omega, ?_, by rw [List.append_assoc]; exact hus, by omega, hE3⟩, by dsimp only; omega⟩
   rw [List.map_append, List.flatten_append, List.map_append]
   simpa using ho3
  ·have hue : us = t.kidsAt j := by
    rw [← hus]
    cases g with
    |zero => simp [kidLoop]
    |succ g => rw [kidLoop, if_neg (by omega)]; simp
   have hbox' : Box w2 B2 3 (nc j) := hbox
   refine App.runK Try.underlying22 ti_3 rfl (by decide) (.inl (hO.ext hE2)) (fun b hb => Nat.lt_of_lt_of_le (List.mem_range.1 hb) (hE.trans hE2).size) (Own.one (A := []) hbox' (by simp)).row (ones_nc _) (by simp) (by simp only [maxLen, List.length_singleton]; omega) (by simp only [List.length_singleton]; omega) (by simp) fun s' w3 ho3 hC3 hb3 => ⟨s', rfl, ?_, s', rfl, ?_⟩
   ·exact Chg.fresh (hE.trans hE2) hC3 (fun b hb => by have := (hO.blk b (Sl.own_blk hb)).1; simp at this; exact this)
   ·rw [T.pst, ← hue, List.map_append]; exact ho3
def T.po (t : T) : List Nat := t.pst t.size 0
theorem T.po_facts (t : T) : t.po.length = t.size ∧ (∀ e ∈ t.po, e < t.size) ∧ NS t.zAt t.po := by
 have hp := T.size_pos t
 have hz := t.zAt_zero
 refine ⟨?_, fun e he => ?_, t.pst_ns _ _ (by omega) (by omega)⟩
 ·have := t.pst_len t.size 0 (by omega) (by omega)
  unfold T.po; omega
 ·have := t.pst_in t.size 0 (by omega) e he
  omega
theorem refPost0 {X : List Nat} {t : T} (hb : t.bulk ≤ 400000000) {w : World} {sa sk : Sl} (hr : RdT X w t sa sk) :
  Calls Try.prog 30 #[tv t sa sk] w (Ret fun v w' => Ext w w' ∧ ∃ s : Sl, v = s.v ∧ Own (List.range w.heap.size) w' s 1 3 (t.po.map nc)) := by
 refine ref07_Post.ok _ _ _ _ _ ?_
 unfold ref07_Post.vc
 have hsz := T.size_bulk t
 have hp := T.size_pos t
 have hz := t.zAt_zero
 intro w1 B hN hE
 refine CallK.ext (refFlat0 hb (hr.ext hE)) ?_
 rintro v w2 hE2 ⟨s, rfl, hI, _⟩
 refine ⟨s, rfl, CallK.ext (refPost (w0 := w) (by omega) t.size 0 (by omega) (by omega) hI) ?_⟩
 rintro v w3 hE3 ⟨r, rfl, hR⟩
 have e1 := (hE.trans hE2).size
 exact ⟨r, rfl, (hE.trans hE2).trans hE3, r, rfl, hR.less fun q hq => by rw [List.mem_range] at hq ⊢; omega⟩
end
section
open Go.RowKit Go.MapKept
def T.fi (t : T) : List Nat := (List.range t.size).map fun i => i + 1 - t.zAt (t.po.getD i 0)
theorem T.fi_get (t : T) {i : Nat} (hi : i < t.size) : t.fi.getD i 0 = i + 1 - t.zAt (t.po.getD i 0) := by
 unfold T.fi; simp [List.getD_eq_getElem?_getD, hi]
theorem T.fi_facts (t : T) : t.fi.length = t.size ∧ (∀ i, i < t.size → t.fi.getD i 0 ≤ i ∧ ∀ q, t.fi.getD i 0 ≤ q → q ≤ i → t.fi.getD i 0 ≤ t.fi.getD q 0) := by
 obtain ⟨h1, h2, h3⟩ := t.po_facts
 refine ⟨by simp [T.fi], fun i hi => ⟨?_, fun q hq hqi => ?_⟩⟩
 ·rw [t.fi_get hi]
  have hm := h2 _ (getD_mem (d := 0) (show i < t.po.length by omega))
  have := (t.zAt_end hm).2
  omega
 ·rw [t.fi_get hi] at hq ⊢
  rw [t.fi_get (by omega)]
  exact (h3 i (by omega)).2 q hq hqi
theorem Row.nAt {A : List Nat} {w : World} {s : Sl} {xs : List Nat} (h : Row A w s 1 (xs.map nc)) {k : Nat} (hk : k < xs.length) : ∃ p, s.a = some p ∧ w.cell? (p.add (k * 1)) = some (.int .i64 ((xs.getD k 0 : Nat) : Int)) := by
 obtain ⟨p, hp, _, hc, _⟩ := h.at_ k (by simpa using hk)
 have e : (xs.map nc).getD k [] = nc (xs.getD k 0) := by simp [List.getD_eq_getElem?_getD, hk]
 rw [e] at hc
 exact ⟨p, hp, by have := hc 0 _ rfl; rwa [Addr.add_zero'] at this⟩
theorem T.fi_succ (t : T) {k : Nat} (hk : k < t.size) : t.fi.take (k + 1) = t.fi.take k ++ [k + 1 - t.zAt (t.po.getD k 0)] := by
 rw [take_snoc t.fi 0 (by rw [t.fi_facts.1]; exact hk), t.fi_get hk]
theorem refFirsts {A : List Nat} {w : World} {l p : Sl} {t : T} (hI : RItems w l t) (hp : Own A w p 1 3 (t.po.map nc)) (ht : t.size ≤ 400000000) :
  Calls Try.prog 86 #[l.v, p.v] w (Ret fun v w' => Ext w w' ∧ ∃ s : Sl, v = s.v ∧ Own (List.range w.heap.size) w' s 1 3 (t.fi.map nc)) := by
 refine ref20_firsts.ok _ _ ?_
 unfold ref20_firsts.vc
 obtain ⟨h1, h2, h3⟩ := t.po_facts
 have hpn := hp.len
 rw [List.length_map, h1] at hpn
 obtain ⟨hln, q, hq, hc⟩ := hI.at
 refine ⟨fun m i w' => ∃ k : Nat, i = (k : Int) ∧ k ≤ t.size ∧ Own (List.range w.heap.size) w' m 1 3 ((t.fi.take k).map nc) ∧ Ext w w', fun _ i _ => t.size - i.toNat, ⟨0, rfl, by omega, Own.nil _ _ _ _, Chg.refl _ _⟩, ?_⟩
 rintro m _ w1 ⟨k, rfl, hk, hO, hE⟩
 refine ⟨fun hi => ?_, fun hi => ?_⟩
 ·have hk' : k < t.size := by omega
  obtain ⟨a, ha, hac⟩ := (hp.ext hE).row.nAt (k := k) (by omega)
  have hm := h2 _ (getD_mem (d := 0) (show k < t.po.length by omega))
  have hz := (h3 k (by omega)).1
  have hz1 := (t.zAt_end hm).2
  have hs := t.fi_succ hk'
  obtain ⟨_, _, _, hcc, _⟩ := hc w1 hE _ hm
  have hmn := hO.len
  rw [List.length_map, List.length_take] at hmn
  generalize t.po.getD k 0 = e at hac hm hz hz1 hs hcc
  refine ⟨⟨by omega, by omega⟩, a, ha, (e : Int), hac, ⟨by omega, by omega⟩, q, hq, (t.zAt e : Int), hcc 1 _ rfl, ⟨by omega, by omega⟩, ⟨by omega, by omega⟩, fun w2 B2 hN2 hE2 hbox => ?_⟩
  have hbox' : Box w2 B2 3 (nc (k + 1 - t.zAt e)) := by
   have e1 : (k : Int) - (t.zAt e : Int) + 1 = ((k + 1 - t.zAt e : Nat) : Int) := by omega
   rw [e1] at hbox; exact hbox
  refine App.runK Try.underlying22 ti_3 rfl (by decide) (.inl (hO.ext hE2)) (fun b hb => Nat.lt_of_lt_of_le (List.mem_range.1 hb) (hE.trans hE2).size) (Own.one (A := []) hbox' (by simp)).row (ones_nc _) (by simp) (by simp only [maxLen, List.length_singleton]; omega) (by simp only [List.length_singleton]; omega) (by simp) fun s' w3 ho3 hC3 hb3 => ⟨s', rfl, ⟨by omega, by omega⟩, ⟨k + 1, by omega, by omega, ?_, ?_⟩, by dsimp only; omega⟩
  ·rw [hs, List.map_append]; exact ho3
  ·exact Chg.fresh (hE.trans hE2) hC3 (fun b hb => by have := (hO.blk b (Sl.own_blk hb)).1; simp at this; exact this)
 ·have hkl : k = t.size := by omega
  subst hkl
  rw [List.take_of_length_le (by rw [t.fi_facts.1]; exact Nat.le_refl _)] at hO
  exact ⟨hE, m, rfl, hO⟩
structure ZP where
 wb : World
 zb : Nat
 x : T
 y : T
 rx : Sl
 ry : Sl
 pa : Sl
 pb : Sl
 la : Sl
 lb : Sl
structure ZFix (P : ZP) : Prop where
 box : ∃ cs, Box P.wb P.zb 127 cs
 x : RItems P.wb P.rx P.x
 y : RItems P.wb P.ry P.y
 pa : Own [] P.wb P.pa 1 3 (P.x.po.map nc)
 pb : Own [] P.wb P.pb 1 3 (P.y.po.map nc)
 la : Own [] P.wb P.la 1 3 (P.x.fi.map nc)
 lb : Own [] P.wb P.lb 1 3 (P.y.fi.map nc)
 nx : P.x.size ≤ 300
 ny : P.y.size ≤ 300
theorem Own.other' {A : List Nat} {w w' : World} {s : Sl} {size : Nat} {S U : TypeId} {vs : List (List Value)} (h : Own A w s size S vs) {B : Nat} {cs : List Value} (hB : Box w B U cs) (hne : S ≠ U) (c : Chg [B] w w') : Own A w' s size S vs := h.keep c fun b hb hm => by
 simp at hm; subst hm; exact (h.other hB hne) hb
abbrev Kq := Nat × Nat × Nat × Nat
def kc (k : Kq) : List Value := [.int .i64 (k.1 : Int), .int .i64 (k.2.1 : Int), .int .i64 (k.2.2.1 : Int), .int .i64 (k.2.2.2 : Int)]
theorem ones_kc (k : Kq) : ∀ u ∈ [kc k].flatten, u.oneCell' = true := by intro u hu; simp [kc] at hu; rcases hu with rfl | rfl | rfl | rfl <;> rfl
def ksz (k : Kq) : Nat := (k.2.1 - k.1) + (k.2.2.2 - k.2.2.1)
structure ZSt (P : ZP) (w : World) (keys : List Kq) (ds : List Int) (sk sd : Sl) : Prop where
 chg : Chg [P.zb] P.wb w
 box : Box w P.zb 127 [P.rx.v, P.ry.v, P.pa.v, P.pb.v, P.la.v, P.lb.v, sk.v, sd.v]
 ks : Own (List.range P.wb.heap.size) w sk 4 140 (keys.map kc)
 dd : Own (List.range P.wb.heap.size) w sd 1 3 (ds.map zc)
 len : keys.length = ds.length
 nod : keys.Nodup
 low : ∀ k ∈ keys, k.1 ≤ 300 ∧ k.2.1 ≤ 300 ∧ k.2.2.1 ≤ 300 ∧ k.2.2.2 ≤ 300
 val : ∀ i, i < keys.length → 0 ≤ ds.getD i 0 ∧ ds.getD i 0 ≤ (ksz (keys.getD i (0, 0, 0, 0)) : Int)
theorem ZSt.ext {P : ZP} {w w' : World} {keys : List Kq} {ds : List Int} {sk sd : Sl} (h : ZSt P w keys ds sk sd) (c : Ext w w') : ZSt P w' keys ds sk sd :=
 ⟨h.chg.more c, h.box.ext c, h.ks.ext c, h.dd.ext c, h.len, h.nod, h.low, h.val⟩
structure ZAt (P : ZP) (w : World) : Prop where
 x : RItems w P.rx P.x
 y : RItems w P.ry P.y
 pa : Own [] w P.pa 1 3 (P.x.po.map nc)
 pb : Own [] w P.pb 1 3 (P.y.po.map nc)
 la : Own [] w P.la 1 3 (P.x.fi.map nc)
 lb : Own [] w P.lb 1 3 (P.y.fi.map nc)
theorem ZFix.at {P : ZP} (h : ZFix P) {w : World} (c : Chg [P.zb] P.wb w) : ZAt P w := by
 obtain ⟨cs, hB⟩ := h.box
 exact ⟨h.x.box hB (by decide) (by decide) c, h.y.box hB (by decide) (by decide) c, h.pa.other' hB (by decide) c, h.pb.other' hB (by decide) c, h.la.other' hB (by decide) c, h.lb.other' hB (by decide) c⟩
theorem nodup_lt : ∀ (n : Nat) (l : List Nat), l.Nodup → (∀ x ∈ l, x < n) → l.length ≤ n
 |0, l, _, h => by
  cases l with
  |nil => simp
  |cons x r => have := h x (by simp); omega
 |n + 1, l, hn, h => by
  by_cases hm : n ∈ l
  ·have ih := nodup_lt n (l.erase n) (hn.erase n) fun x hx => by
    have := (hn.mem_erase_iff).1 hx
    have := h x this.2
    omega
   rw [List.length_erase_of_mem hm] at ih
   omega
  ·have ih := nodup_lt n l hn fun x hx => by
    have := h x hx
    have hne : x ≠ n := fun e => hm (e ▸ hx)
    omega
   omega
def knum (k : Kq) : Nat := ((k.1 * 301 + k.2.1) * 301 + k.2.2.1) * 301 + k.2.2.2
theorem nodup_map {α : Type} {f : α → Nat} : ∀ (l : List α), (∀ x ∈ l, ∀ y ∈ l, f x = f y → x = y) → l.Nodup → (l.map f).Nodup
 |[], _, _ => List.nodup_nil
 |x :: r, h, hn => by
  rw [List.nodup_cons] at hn
  rw [List.map_cons, List.nodup_cons]
  refine ⟨fun hm => ?_, nodup_map r (fun a ha b hb => h a (by simp [ha]) b (by simp [hb])) hn.2⟩
  obtain ⟨y, hy, he⟩ := List.mem_map.1 hm
  have := h y (by simp [hy]) x (by simp) he
  subst this
  exact hn.1 hy
theorem keys_few {keys : List Kq} (hn : keys.Nodup) (hl : ∀ k ∈ keys, k.1 ≤ 300 ∧ k.2.1 ≤ 300 ∧ k.2.2.1 ≤ 300 ∧ k.2.2.2 ≤ 300) : keys.length ≤ 8208541201 := by
 have h1 := nodup_map (f := knum) keys (fun a ha b hb he => by
  obtain ⟨a1, a2, a3, a4⟩ := a
  obtain ⟨b1, b2, b3, b4⟩ := b
  have h1 := hl _ ha
  have h2 := hl _ hb
  simp only [knum] at h1 h2 he
  simp only [Prod.mk.injEq]
  omega) hn
 have h2 := nodup_lt 8208541201 (keys.map knum) h1 fun x hx => by
  obtain ⟨k, hk, rfl⟩ := List.mem_map.1 hx
  have := hl k hk
  simp only [knum]; omega
 rwa [List.length_map] at h2
structure ZGo (P : ZP) (w : World) (sk sd : Sl) (w' : World) (sk' sd' : Sl) : Prop where
 chg : Chg (P.zb :: (sk.blk ++ sd.blk)) w w'
 blk : ∀ b ∈ sk'.blk ++ sd'.blk, b ∈ sk.blk ++ sd.blk ∨ w.heap.size ≤ b
theorem ZGo.ofExt {P : ZP} {w w' : World} {sk sd : Sl} (h : Ext w w') : ZGo P w sk sd w' sk sd := ⟨h.mono (by simp), fun _ hb => .inl hb⟩
theorem ZGo.trans {P : ZP} {w w1 w2 : World} {sk sd sk1 sd1 sk2 sd2 : Sl} (h : ZGo P w sk sd w1 sk1 sd1) (k : ZGo P w1 sk1 sd1 w2 sk2 sd2) : ZGo P w sk sd w2 sk2 sd2 :=
 ⟨h.chg.more' k.chg (fun b hb => by
  rcases List.mem_cons.1 hb with rfl | hb
  ·exact .inl (by simp)
  ·rcases h.blk b hb with hb | hb
   ·exact .inl (List.mem_cons_of_mem _ hb)
   ·exact .inr hb), fun b hb => by
  rcases k.blk b hb with hb | hb
  ·exact h.blk b hb
  ·exact .inr (Nat.le_trans h.chg.size hb)⟩
theorem ZGo.ext {P : ZP} {w w1 w2 : World} {sk sd sk1 sd1 : Sl} (h : ZGo P w sk sd w1 sk1 sd1) (k : Ext w1 w2) : ZGo P w sk sd w2 sk1 sd1 := h.trans (ZGo.ofExt k)
theorem ZSt.mem {P : ZP} {w : World} {keys : List Kq} {ds : List Int} {sk sd : Sl} (h : ZSt P w keys ds sk sd) : ∀ b ∈ sk.blk ++ sd.blk, P.wb.heap.size ≤ b ∧ b < w.heap.size := fun b hb => by
 rcases List.mem_append.1 hb with hb | hb
 ·have := h.ks.blk b hb; simp at this; exact this
 ·have := h.dd.blk b hb; simp at this; exact this
def nodeC (a b : T) : Int := or2 (or2 (cmpI a.kind b.kind) (or2 (cmpS a.name b.name) (cmpS a.text b.text))) (lexM cmpA a.attrs b.attrs)
def costF (a b : T) : Int := if nodeC a b = 0 then 0 else if a.kind = b.kind ∧ a.name = b.name then 1 else 3
theorem or2_eq {a b : Int} (h : or2 a b = 0) : a = 0 ∧ b = 0 := by
 unfold or2 at h
 split at h
 ·rename_i h1; exact ⟨h1, h⟩
 ·exact absurd h (by assumption)
theorem costF_facts (a b : T) : 0 ≤ costF a b ∧ costF a b ≤ 3 ∧ (costF a b < 3 → kinB a b) := by
 unfold costF
 split
 ·rename_i h
  refine ⟨by omega, by omega, fun _ => ?_⟩
  obtain ⟨h1, _⟩ := or2_eq h
  obtain ⟨h1, h2⟩ := or2_eq h1
  exact ⟨(cmpI_cmp.zero _ _ trivial trivial).1 h1, (cmpS_zero _ _).1 (or2_eq h2).1⟩
 ·split
  ·rename_i h; exact ⟨by omega, by omega, fun _ => h⟩
  ·exact ⟨by omega, by omega, fun h => by omega⟩
theorem refCost {X Y : List Nat} {w : World} {a b : T} {sa sb : Sl} (ha : Row X w sa 2 (a.attrs.map ac)) (hb : Row Y w sb 2 (b.attrs.map ac)) :
  Calls Try.prog 91 #[.agg #[.int .i64 a.kind, .string (Bs a.name), .string (Bs a.text), sa.v, Sl.nil.v], .agg #[.int .i64 b.kind, .string (Bs b.name), .string (Bs b.text), sb.v, Sl.nil.v]] w (Ret fun v w' => Ext w w' ∧ v = .int .i64 (costF a b)) := by
 refine ref20_Cost.ok _ _ _ _ _ _ _ _ _ _ ?_
 unfold ref20_Cost.vc
 intro w1 B1 B2 _ _ _ hE
 refine CallK.exact (refNode (A := []) (a := a.bare) (b := b.bare) (bare_rd ((ha.less (by simp)).ext hE)) (bare_rd ((hb.less (by simp)).ext hE))) fun w2 hE2 => ⟨nodeC a b, rfl, fun h0 => ⟨hE.trans hE2, ?_⟩, fun h0 => ⟨fun h1 => ⟨hE.trans hE2, ?_⟩, fun h1 => ⟨hE.trans hE2, ?_⟩⟩⟩
 ·unfold costF; rw [if_pos h0]
 ·unfold costF; rw [if_neg h0, if_pos h1]
 ·unfold costF; rw [if_neg h0, if_neg (fun h => h1.elim (fun e => e h.1) (fun e => e h.2))]
theorem refZCost {P : ZP} (hF : ZFix P) {w : World} {keys : List Kq} {ds : List Int} {sk sd : Sl} (hS : ZSt P w keys ds sk sd) {a b c d : Nat} (hb : 0 < b) (hb2 : b ≤ P.x.size) (hd : 0 < d) (hd2 : d ≤ P.y.size) :
  Calls Try.prog 88 #[.pointer (some ⟨P.zb, 0, none⟩), .agg #[.int .i64 (a : Int), .int .i64 (b : Int)], .agg #[.int .i64 (c : Int), .int .i64 (d : Int)]] w (Ret fun v w' => Ext w w' ∧ v = .int .i64 (costF (P.x.nd (P.x.po.getD (b - 1) 0)).t (P.y.nd (P.y.po.getD (d - 1) 0)).t)) := by
 refine ref20_Z_cost.ok _ _ _ _ _ ?_
 unfold ref20_Z_cost.vc
 intro w1 B1 B2 _ _ _ hE
 have hS1 := hS.ext hE
 have hA := hF.at hS1.chg
 obtain ⟨x1, x2, _⟩ := P.x.po_facts
 obtain ⟨y1, y2, _⟩ := P.y.po_facts
 have nx := hF.nx
 have ny := hF.ny
 have hpn := hA.pa.len
 have hqn := hA.pb.len
 rw [List.length_map] at hpn hqn
 obtain ⟨p, hp, hpc⟩ := hA.pa.row.nAt (k := b - 1) (by omega)
 obtain ⟨q, hq, hqc⟩ := hA.pb.row.nAt (k := d - 1) (by omega)
 have hm := x2 _ (getD_mem (d := 0) (show b - 1 < P.x.po.length by omega))
 have hm2 := y2 _ (getD_mem (d := 0) (show d - 1 < P.y.po.length by omega))
 generalize P.x.po.getD (b - 1) 0 = i at hpc hm
 generalize P.y.po.getD (d - 1) 0 = j at hqc hm2
 obtain ⟨hxn, px, hpx, hxc⟩ := hA.x.at
 obtain ⟨hyn, py, hpy, hyc⟩ := hA.y.at
 obtain ⟨xa, _, _, hxc, hxr⟩ := hxc w1 (Chg.refl _ _) i hm
 obtain ⟨ya, _, _, hyc, hyr⟩ := hyc w1 (Chg.refl _ _) j hm2
 have eb : ((b : Int) - 1).toNat = b - 1 := by omega
 have ed : ((d : Int) - 1).toNat = d - 1 := by omega
 refine ⟨P.rx, hS1.box.cell 0 _ rfl, P.pa, hS1.box.cell 2 _ rfl, ⟨by omega, by omega⟩, p, ⟨⟨by omega, by omega⟩, hp⟩, (i : Int), by rw [eb]; exact hpc, px, ⟨⟨by omega, by omega⟩, hpx⟩, (P.x.nd i).t.kind, (P.x.nd i).t.name, (P.x.nd i).t.text, xa, Sl.nil, Cells.take (Cells.drop hxc 5) 5, P.ry, hS1.box.cell 1 _ rfl, P.pb, hS1.box.cell 3 _ rfl, ⟨by omega, by omega⟩, q, ⟨⟨by omega, by omega⟩, hq⟩, (j : Int), by rw [ed]; exact hqc, py, ⟨⟨by omega, by omega⟩, hpy⟩, (P.y.nd j).t.kind, (P.y.nd j).t.name, (P.y.nd j).t.text, ya, Sl.nil, Cells.take (Cells.drop hyc 5) 5, _, fun w' hE' => refCost (hxr.ext hE').row (hyr.ext hE').row, fun w2 hE2 => ⟨hE.trans hE2, rfl⟩⟩
theorem refParts {P : ZP} (hF : ZFix P) {w : World} {keys : List Kq} {ds : List Int} {sk sd : Sl} (hS : ZSt P w keys ds sk sd) {a b c d : Nat} (hb : 0 < b) (hb2 : b ≤ P.x.size) (hd : 0 < d) (hd2 : d ≤ P.y.size) :
  Calls Try.prog 87 #[.pointer (some ⟨P.zb, 0, none⟩), .agg #[.int .i64 (a : Int), .int .i64 (b : Int)], .agg #[.int .i64 (c : Int), .int .i64 (d : Int)]] w (Ret fun v w' => Ext w w' ∧
   v = .tuple #[.agg #[.int .i64 ((P.x.fi.getD (b - 1) 0 : Nat) : Int), .int .i64 ((b - 1 : Nat) : Int)], .agg #[.int .i64 ((P.y.fi.getD (d - 1) 0 : Nat) : Int), .int .i64 ((d - 1 : Nat) : Int)], .agg #[.int .i64 (a : Int), .int .i64 ((P.x.fi.getD (b - 1) 0 : Nat) : Int)], .agg #[.int .i64 (c : Int), .int .i64 ((P.y.fi.getD (d - 1) 0 : Nat) : Int)]]) := by
 refine ref20_Z_parts.ok _ _ _ _ _ ?_
 unfold ref20_Z_parts.vc
 intro w1 B1 B2 B3 B4 B5 B6 _ _ hN3 hN4 hN5 hN6 _ _ _ _ _ _ _ _ _ _ _ _ _ _ _ hE
 have hS1 := hS.ext hE
 have hA := hF.at hS1.chg
 have x1 := P.x.fi_facts.1
 have y1 := P.y.fi_facts.1
 have nx := hF.nx
 have ny := hF.ny
 have hpn := hA.la.len
 have hqn := hA.lb.len
 rw [List.length_map] at hpn hqn
 obtain ⟨p, hp, hpc⟩ := hA.la.row.nAt (k := b - 1) (by omega)
 obtain ⟨q, hq, hqc⟩ := hA.lb.row.nAt (k := d - 1) (by omega)
 have eb : ((b : Int) - 1).toNat = b - 1 := by omega
 have ed : ((d : Int) - 1).toNat = d - 1 := by omega
 have g3 := hN3.ge; have g4 := hN4.ge; have g5 := hN5.ge; have g6 := hN6.ge
 refine ⟨P.la, hS1.box.cell 4 _ rfl, ⟨by omega, by omega⟩, p, ⟨⟨by omega, by omega⟩, hp⟩, _, by rw [eb]; exact hpc, P.lb, hS1.box.cell 5 _ rfl, ⟨by omega, by omega⟩, q, ⟨⟨by omega, by omega⟩, hq⟩, _, by rw [ed]; exact hqc, fun w2 hE2 => ⟨⟨by omega, by omega⟩, ⟨by omega, by omega⟩, fun w3 hC3 => ⟨Chg.fresh (hE.trans hE2) hC3 (by simp; omega), ?_⟩⟩⟩
 rw [show (b : Int) - 1 = ((b - 1 : Nat) : Int) by omega, show (d : Int) - 1 = ((d - 1 : Nat) : Int) by omega]
def Vf (la : List Nat) (a b : Nat) : Prop := ∀ t, a ≤ t → t < b → a ≤ la.getD t 0
theorem Vf.last {t : T} {a b : Nat} (h : Vf t.fi a b) (hab : a < b) (hb : b ≤ t.size) : a ≤ t.fi.getD (b - 1) 0 ∧ t.fi.getD (b - 1) 0 ≤ b - 1 ∧ Vf t.fi (t.fi.getD (b - 1) 0) (b - 1) ∧ Vf t.fi a (t.fi.getD (b - 1) 0) ∧ Vf t.fi a (b - 1) := by
 obtain ⟨h1, h2⟩ := t.fi_facts.2 (b - 1) (by omega)
 exact ⟨h (b - 1) (by omega) (by omega), h1, fun q hq hq2 => h2 q hq (by omega), fun q hq hq2 => h q hq (by omega), fun q hq hq2 => h q hq (by omega)⟩
set_option maxHeartbeats 2000000 in
theorem refDist {P : ZP} (hF : ZFix P) : ∀ s a b c d : Nat, (b - a) + (d - c) = s → a ≤ b → b ≤ P.x.size → c ≤ d → d ≤ P.y.size → Vf P.x.fi a b → Vf P.y.fi c d → ∀ {w : World} {keys : List Kq} {ds : List Int} {sk sd : Sl}, ZSt P w keys ds sk sd →
  Calls Try.prog 77 #[.pointer (some ⟨P.zb, 0, none⟩), .agg #[.int .i64 (a : Int), .int .i64 (b : Int)], .agg #[.int .i64 (c : Int), .int .i64 (d : Int)]] w (Ret fun v w' => Chg (P.zb :: (sk.blk ++ sd.blk)) w w' ∧
   ∃ (r : Int) (keys' : List Kq) (ds' : List Int) (sk' sd' : Sl), v = .int .i64 r ∧ 0 ≤ r ∧ r ≤ (s : Int) ∧ ZSt P w' keys' ds' sk' sd' ∧ ZGo P w sk sd w' sk' sd' ∧ ∀ k ∈ keys', k ∈ keys ∨ ksz k ≤ s) := by
 intro s
 induction s using Nat.strongRecOn with
 |ind s ih =>
  intro a b c d hs hab hbx hcd hdy hva hvc w keys ds sk sd hS
  refine ref20_Z_Distance.ok _ _ _ _ _ ?_
  unfold ref20_Z_Distance.vc
  have nx := hF.nx
  have ny := hF.ny
  obtain ⟨csz, hbz⟩ := hF.box
  have hzb := hbz.lt
  refine ⟨fun h0 => ⟨⟨by omega, by omega⟩, ⟨by omega, by omega⟩, ⟨by omega, by omega⟩, fun w1 B1 B2 _ _ _ hE => ⟨hE.mono (by simp), _, keys, ds, sk, sd, rfl, by omega, by omega, hS.ext hE, ZGo.ofExt hE, fun k hk => .inl hk⟩⟩, fun hne w1 B1 B2 B3 hN1 hN2 hN3 _ _ _ hE1 => ?_⟩
  have hab' : a < b := by omega
  have hcd' : c < d := by omega
  obtain ⟨va1, va2, va3, va4, va5⟩ := hva.last hab' hbx
  obtain ⟨vc1, vc2, vc3, vc4, vc5⟩ := hvc.last hcd' hdy
  have hpt := fun {w' : World} (h : ZSt P w' keys ds sk sd) => refParts hF h (a := a) (c := c) (by omega) hbx (by omega) hdy
  have cf := costF_facts (P.x.nd (P.x.po.getD (b - 1) 0)).t (P.y.nd (P.y.po.getD (d - 1) 0)).t
  have hzc := fun {w' : World} {keys : List Kq} {ds : List Int} {sk sd : Sl} (h : ZSt P w' keys ds sk sd) => refZCost hF h (a := a) (c := c) (by omega) hbx (by omega) hdy
  generalize costF (P.x.nd (P.x.po.getD (b - 1) 0)).t (P.y.nd (P.y.po.getD (d - 1) 0)).t = cst at cf hzc
  generalize P.x.fi.getD (b - 1) 0 = i at va1 va2 va3 va4 hpt
  generalize P.y.fi.getD (d - 1) 0 = j at vc1 vc2 vc3 vc4 hpt
  have hsk : ksz (a, b, c, d) = s := hs
  obtain ⟨cf1, cf2, _⟩ := cf
  have hs6 : s ≤ 600 := by omega
  have ih1 := fun {w' : World} {keys : List Kq} {ds : List Int} {sk sd : Sl} (h : ZSt P w' keys ds sk sd) => ih ((b - 1 - i) + (d - 1 - j)) (by omega) i (b - 1) j (d - 1) rfl va2 (by omega) vc2 (by omega) va3 vc3 h
  have ih2 := fun {w' : World} {keys : List Kq} {ds : List Int} {sk sd : Sl} (h : ZSt P w' keys ds sk sd) => ih ((i - a) + (j - c)) (by omega) a i c j rfl va1 (by omega) vc1 (by omega) va4 vc4 h
  have ih3 := fun {w' : World} {keys : List Kq} {ds : List Int} {sk sd : Sl} (h : ZSt P w' keys ds sk sd) => ih ((b - 1 - a) + (d - c)) (by omega) a (b - 1) c d rfl (by omega) (by omega) hcd hdy va5 hvc h
  have ih4 := fun {w' : World} {keys : List Kq} {ds : List Int} {sk sd : Sl} (h : ZSt P w' keys ds sk sd) => ih ((b - a) + (d - 1 - c)) (by omega) a b c (d - 1) rfl hab hbx (by omega) (by omega) hva vc5 h
  have z1 : (b - 1 - i) + (d - 1 - j) < s := by omega
  have z2 : (i - a) + (j - c) < s := by omega
  have z3 : (b - 1 - a) + (d - c) + 1 = s := by omega
  have z4 : (b - a) + (d - 1 - c) + 1 = s := by omega
  generalize (b - 1 - i) + (d - 1 - j) = s1 at ih1 z1
  generalize (i - a) + (j - c) = s2 at ih2 z2
  generalize (b - 1 - a) + (d - c) = s3 at ih3 z3
  generalize (b - a) + (d - 1 - c) = s4 at ih4 z4
  have eb : (b : Int) - 1 = ((b - 1 : Nat) : Int) := by omega
  have ed : (d : Int) - 1 = ((d - 1 : Nat) : Int) := by omega
  have bI : 1 ≤ b ∧ b ≤ 300 ∧ 1 ≤ d ∧ d ≤ 300 ∧ a ≤ 300 ∧ c ≤ 300 := by omega
  clear hs va1 va2 va3 va4 va5 vc1 vc2 vc3 vc4 vc5 ih hva hvc hab hbx hcd hdy hab' hcd'
  generalize hb1 : b - 1 = b1 at ih1 ih3 eb hpt
  generalize hd1 : d - 1 = d1 at ih1 ih4 ed hpt
  have bI1 : b1 ≤ 300 ∧ d1 ≤ 300 := by omega
  clear hb1 hd1
  have hkn := hS.ks.len
  rw [List.length_map] at hkn
  have hdn := hS.dd.len
  rw [List.length_map] at hdn
  have hlen := hS.len
  have hfew := keys_few hS.nod hS.low
  refine ⟨fun i w' => ∃ k : Nat, i = (k : Int) ∧ k ≤ keys.length ∧ (∀ j, j < k → keys.getD j (0, 0, 0, 0) ≠ (a, b, c, d)) ∧ Ext w1 w', fun i _ => keys.length - i.toNat, ⟨0, rfl, by omega, by omega, Chg.refl _ _⟩, ?_⟩
  rintro _ w2 ⟨k, rfl, hk, hno, hE2⟩
  have hE02 := hE1.trans hE2
  have hS2 := hS.ext hE02
  refine ⟨sk, hS2.box.cell 6 _ rfl, fun hi w3 hE3 => ?_, fun hi => ?_⟩
  ·have hk' : k < keys.length := by omega
   have hS3 := hS2.ext hE3
   obtain ⟨p, hp, _, hc, _⟩ := hS3.ks.row.at_ k (by simpa using hk')
   have e : (keys.map kc).getD k [] = kc (keys.getD k (0, 0, 0, 0)) := by simp [List.getD_eq_getElem?_getD, hk']
   rw [e] at hc
   have hval := hS.val k hk'
   generalize hq : keys.getD k (0, 0, 0, 0) = q at hc hval
   obtain ⟨q1, q2, q3, q4⟩ := q
   refine ⟨sk, hS3.box.cell 6 _ rfl, p, ⟨⟨by omega, by omega⟩, hp⟩, (q1 : Int), (q2 : Int), (q3 : Int), (q4 : Int), hc, fun heq w4 hE4 => ?_, fun hne' => ⟨⟨by omega, by omega⟩, fun w4 hE4 => ⟨⟨k + 1, by omega, by omega, fun j hj => ?_, (hE2.trans hE3).trans hE4⟩, by dsimp only; omega⟩⟩⟩
   ·have hS4 := hS3.ext hE4
    obtain ⟨r, hr, hrc⟩ := hS4.dd.row.zAt (k := k) (by omega)
    have hE := (hE02.trans hE3).trans hE4
    have hkz : ksz (q1, q2, q3, q4) = s := by
     rw [← hsk, show q1 = a by omega, show q2 = b by omega, show q3 = c by omega, show q4 = d by omega]
    rw [hkz] at hval
    exact ⟨sd, hS4.box.cell 7 _ rfl, ⟨by omega, by omega⟩, r, hr, ds.getD k 0, hrc, hE.mono (by simp), _, keys, ds, sk, sd, rfl, hval.1, hval.2, hS4, ZGo.ofExt hE, fun k hk => .inl hk⟩
   ·rcases Nat.lt_or_ge j k with h | h
    ·exact hno j h
    ·rw [show j = k by omega, hq]
     intro e
     injection e with e1 e
     injection e with e2 e
     injection e with e3 e4
     exact hne' ⟨by omega, by omega, by omega, by omega⟩
  ·have hkl : k = keys.length := by omega
   subst hkl
   have hnk : (a, b, c, d) ∉ keys := fun hm => by
    obtain ⟨j, hj, he⟩ := List.getElem_of_mem hm
    exact hno j hj (by rw [List.getD_eq_getElem?_getD, List.getElem?_eq_getElem hj]; exact he)
   refine CallK.exact (hpt hS2) fun w3 hE3 => ?_
   refine ⟨_, _, _, _, _, _, _, _, rfl, fun w4 B4 B5 B6 B7 hN4 hN5 hN6 hN7 _ _ _ _ _ _ hE4 => ?_⟩
   have hE04 := (hE02.trans hE3).trans hE4
   have hS4 := hS.ext hE04
   have hG4 : ZGo P w sk sd w4 sk sd := ZGo.ofExt hE04
   have hwb := hS.chg.size
   have hB3ge : P.zb ≠ B3 := by have := hN3.ge; have := hE1.size; omega
   have hB3lt : B3 < w4.heap.size := by have := hN3.lt; have := hE2.size; have := hE3.size; have := hE4.size; omega
   have bxs : ∀ {w' : World} {sk' sd' : Sl}, ZGo P w4 sk sd w' sk' sd' → ∀ q ∈ [B1, B2, B3, B4, B5, B6, B7], q ∉ P.zb :: (sk'.blk ++ sd'.blk) := fun {w' sk' sd'} g q hq hm => by
    have hqr : w.heap.size ≤ q ∧ q < w4.heap.size := by
     have s1 := hE1.size; have s2 := hE2.size; have s3 := hE3.size; have s4 := hE4.size
     clear hsk hne hkn hdn hlen hfew hk hno bI bI1 eb ed z1 z2 z3 z4 cf1 cf2 hs6
     simp only [List.mem_cons, List.not_mem_nil, or_false] at hq
     rcases hq with rfl | rfl | rfl | rfl | rfl | rfl | rfl
     ·have := hN1.ge; have := hN1.lt; omega
     ·have := hN2.ge; have := hN2.lt; omega
     ·have := hN3.ge; have := hN3.lt; omega
     ·have := hN4.ge; have := hN4.lt; omega
     ·have := hN5.ge; have := hN5.lt; omega
     ·have := hN6.ge; have := hN6.lt; omega
     ·have := hN7.ge; have := hN7.lt; omega
    rcases List.mem_cons.1 hm with rfl | hm
    ·omega
    ·rcases g.blk q hm with h | h
     ·have := (hS.mem q h).2; omega
     ·omega
   have g4 : ZGo P w4 sk sd w4 sk sd := ZGo.ofExt (Chg.refl _ _)
   refine CallK.chg (ih1 hS4) (bxs g4) ?_
   rintro v w5 hC5 ⟨r1, keys5, ds5, sk5, sd5, rfl, r1a, r1b, hS5, g5', hk5⟩
   have g5 := g4.trans g5'
   refine ⟨r1, rfl, CallK.chg (ih2 hS5) (bxs g5) ?_⟩
   rintro v w6 hC6 ⟨r2, keys6, ds6, sk6, sd6, rfl, r2a, r2b, hS6, g6', hk6⟩
   have g6 := g5.trans g6'
   refine ⟨r2, rfl, ⟨by omega, by omega⟩, cst, fun w' hE' => hzc (hS6.ext hE'), ⟨by omega, by omega⟩, fun w7 hE7 => ⟨⟨by omega, by omega⟩, ⟨by omega, by omega⟩, ?_⟩⟩
   have hS7 := hS6.ext hE7
   have g7 := g6.ext hE7
   rw [eb, ed]
   refine CallK.chg (ih3 hS7) (fun q hq => bxs g7 q (by simp at hq ⊢; rcases hq with rfl | rfl | rfl <;> simp)) ?_
   rintro v w8 hC8 ⟨r3, keys8, ds8, sk8, sd8, rfl, r3a, r3b, hS8, g8', hk8⟩
   have g8 := g7.trans g8'
   refine ⟨r3, rfl, ⟨by omega, by omega⟩, CallK.chg (ih4 hS8) (fun q hq => bxs g8 q (by simp at hq ⊢; rcases hq with rfl | rfl | rfl <;> simp)) ?_⟩
   rintro v w9 hC9 ⟨r4, keys9, ds9, sk9, sd9, rfl, r4a, r4b, hS9, g9', hk9⟩
   have g9 := g8.trans g9'
   refine ⟨r4, rfl, ⟨by omega, by omega⟩, fun w10 hE10 w11 hE11 => ?_⟩
   have hE911 := hE10.trans hE11
   have hS11 := hS9.ext hE911
   have g11 := g9.ext hE911
   have hnew : ∀ k ∈ keys9, k ∈ keys ∨ ksz k < s := fun k hk => by
    rcases hk9 k hk with hk | hk
    ·rcases hk8 k hk with hk | hk
     ·rcases hk6 k hk with hk | hk
      ·rcases hk5 k hk with hk | hk
       ·exact .inl hk
       ·exact .inr (by omega)
      ·exact .inr (by omega)
     ·exact .inr (by omega)
    ·exact .inr (by omega)
   have hnk9 : (a, b, c, d) ∉ keys9 := fun hm => by
    rcases hnew _ hm with h | h
    ·exact hnk h
    ·rw [hsk] at h; omega
   have hfew9 := keys_few hS9.nod hS9.low
   have hkn9 := hS11.ks.len
   have hdn9 := hS11.dd.len
   rw [List.length_map] at hkn9 hdn9
   have hlen9 := hS9.len
   refine ⟨sk9, hS11.box.cell 6 _ rfl, fun w12 B12 hE12 hB12 hbox12 _ => ?_⟩
   have hS12 := hS11.ext hE12
   have g12 := g11.ext hE12
   have hbox' : Box w12 B12 140 (kc (a, b, c, d)) := hbox12
   have hB3 : B3 ∉ sk9.blk := fun hm => bxs g12 B3 (by simp) (List.mem_cons_of_mem _ (List.mem_append_left _ hm))
   have hw12 : P.wb.heap.size ≤ w12.heap.size := hS12.chg.size
   have hB3w : B3 < w12.heap.size := Nat.lt_of_lt_of_le hB3lt g12.chg.size
   refine App.runK Try.underlying125 ti_140 rfl (by decide) (.inl (hS12.ks.cons hB3)) (fun q hq => ?_) (Own.one (A := []) hbox' (by simp)).row (ones_kc _) (by simp) (by simp only [maxLen, List.length_singleton]; omega) (by simp only [List.length_singleton]; omega) (by simp) fun s' w13 ho13 hC13 hb13 => ⟨s', rfl, fun w14 hE14 w15 hE15 => ?_⟩
   ·rcases List.mem_cons.1 hq with rfl | hq
    ·exact hB3w
    ·have := List.mem_range.1 hq; omega
   have ho13' := ho13.less (A' := List.range P.wb.heap.size) fun b hb => List.mem_cons_of_mem _ hb
   have hown : ∀ q ∈ sk9.own, P.wb.heap.size ≤ q := fun q hq => (hS12.mem q (List.mem_append_left _ (Sl.own_blk hq))).1
   have hzo : P.zb ∉ sk9.own := fun hm => by have := hown _ hm; omega
   have hbz13 := hS12.box.keep hC13 hzo
   have hds13 := hS12.dd.keep hC13 fun q hq hm => (hS12.ks.apart hS12.dd (by decide)) q (Sl.own_blk hm) hq
   have hch13 : Chg [P.zb] P.wb w13 := hS12.chg.more' hC13 fun q hq => .inr (hown q hq)
   have hE1315 := hE14.trans hE15
   have hbz15 := hbz13.ext hE1315
   refine ⟨P.zb, 6, 127, _, rfl, hbz15, by simp, fun q hq => ?_, fun w16 hC16 hb16 => ?_⟩
   ·simp only [List.mem_cons, List.not_mem_nil, or_false] at hq; subst hq; exact fun e => hB3ge e.symm
   have hb16' : Box w16 P.zb 127 [P.rx.v, P.ry.v, P.pa.v, P.pb.v, P.la.v, P.lb.v, s'.v, sd9.v] := hb16
   have zin : ∀ q ∈ [P.zb], q ∈ List.range P.wb.heap.size := by simpa using hzb
   have hks16 := (ho13'.ext hE1315).chg hC16 zin
   have hds16 := (hds13.ext hE1315).chg hC16 zin
   have hch16 := (hch13.more hE1315).trans hC16
   refine ⟨sd9, hb16'.cell 7 _ rfl, fun w17 B17 hN17 hE17 hbox17 => ?_⟩
   have hbox17' : Box w17 B17 3 (zc (min (min (r1 + r2 + cst) (r3 + 1)) (r4 + 1))) := hbox17
   have hds17 := hds16.ext hE17
   refine App.runK Try.underlying22 ti_3 rfl (by decide) (.inl hds17) (fun q hq => ?_) (Own.one (A := []) hbox17' (by simp)).row (ones_zc _) (by simp) (by simp only [maxLen, List.length_singleton]; omega) (by simp only [List.length_singleton]; omega) (by simp) fun s'' w18 ho18 hC18 hb18 => ⟨s'', rfl, ?_⟩
   ·have := List.mem_range.1 hq; have := hch16.size; have := hE17.size; omega
   have hown2 : ∀ q ∈ sd9.own, P.wb.heap.size ≤ q := fun q hq => (hS12.mem q (List.mem_append_right _ (Sl.own_blk hq))).1
   have hbz18 := (hb16'.ext hE17).keep hC18 (fun hm => by have := hown2 _ hm; omega)
   have hks18 := (hks16.ext hE17).keep hC18 fun q hq hm => (hds17.apart (hks16.ext hE17) (by decide)) q (Sl.own_blk hm) hq
   have hch18 := (hch16.more hE17).more' hC18 fun q hq => .inr (hown2 q hq)
   refine ⟨P.zb, 7, 127, _, rfl, hbz18, by simp, by simp, fun w19 hC19 hb19 => ?_⟩
   have hb19' : Box w19 P.zb 127 [P.rx.v, P.ry.v, P.pa.v, P.pb.v, P.la.v, P.lb.v, s'.v, s''.v] := hb19
   have c1219 : Chg (P.zb :: (sk9.blk ++ sd9.blk)) w12 w19 := by
    have z1 : ∀ q ∈ [P.zb], q ∈ P.zb :: (sk9.blk ++ sd9.blk) := by simp
    exact ((((((hC13.mono fun q hq => List.mem_cons_of_mem _ (List.mem_append_left _ (Sl.own_blk hq))).more hE1315).trans (hC16.mono z1)).more hE17).trans (hC18.mono fun q hq => List.mem_cons_of_mem _ (List.mem_append_right _ (Sl.own_blk hq)))).trans (hC19.mono z1))
   have gl : ZGo P w12 sk9 sd9 w19 s' s'' := ⟨c1219, fun q hq => by
    rcases List.mem_append.1 hq with hq | hq
    ·rcases hb13 q hq with h | h
     ·exact .inl (List.mem_append_left _ (Sl.own_blk h))
     ·exact .inr h
    ·rcases hb18 q hq with h | h
     ·exact .inl (List.mem_append_right _ (Sl.own_blk h))
     ·have h1 := hC13.size; have h2 := hE1315.size; have h3 := hC16.size; have h4 := hE17.size
      exact .inr (by omega)⟩
   have gall := hG4.trans (g12.trans gl)
   refine ⟨gall.chg, _, keys9 ++ [(a, b, c, d)], ds9 ++ [min (min (r1 + r2 + cst) (r3 + 1)) (r4 + 1)], s', s'', rfl, by omega, by omega, ⟨hch18.trans hC19, hb19', ?_, ?_, by simp [hlen9], ?_, fun k hk => ?_, fun q hq => ?_⟩, gall, fun k hk => ?_⟩
   ·rw [List.map_append]; exact hks18.chg hC19 zin
   ·rw [List.map_append]; exact ho18.chg hC19 zin
   ·rw [List.nodup_append]
    refine ⟨hS9.nod, by simp, fun x hx y hy => ?_⟩
    simp only [List.mem_singleton] at hy
    subst hy
    exact fun e => hnk9 (e ▸ hx)
   ·rcases List.mem_append.1 hk with hk | hk
    ·exact hS9.low k hk
    ·simp only [List.mem_singleton] at hk
     subst hk
     show a ≤ 300 ∧ b ≤ 300 ∧ c ≤ 300 ∧ d ≤ 300
     omega
   ·rw [List.length_append, List.length_singleton] at hq
    rcases Nat.lt_or_ge q keys9.length with h | h
    ·have e1 : (keys9 ++ [(a, b, c, d)]).getD q (0, 0, 0, 0) = keys9.getD q (0, 0, 0, 0) := by rw [List.getD_eq_getElem?_getD, List.getElem?_append_left h, ← List.getD_eq_getElem?_getD]
     have e2 : (ds9 ++ [min (min (r1 + r2 + cst) (r3 + 1)) (r4 + 1)]).getD q 0 = ds9.getD q 0 := by rw [List.getD_eq_getElem?_getD, List.getElem?_append_left (by omega), ← List.getD_eq_getElem?_getD]
     rw [e1, e2]; exact hS9.val q h
    ·have hql : q = keys9.length := by omega
     subst hql
     have e1 : (keys9 ++ [(a, b, c, d)]).getD keys9.length (0, 0, 0, 0) = (a, b, c, d) := by simp [List.getD_eq_getElem?_getD]
     have e2 : (ds9 ++ [min (min (r1 + r2 + cst) (r3 + 1)) (r4 + 1)]).getD keys9.length 0 = min (min (r1 + r2 + cst) (r3 + 1)) (r4 + 1) := by rw [hlen9]; simp [List.getD_eq_getElem?_getD]
     rw [e1, e2]
     rw [hsk]
     exact ⟨by omega, by omega⟩
   ·rcases List.mem_append.1 hk with hk | hk
    ·exact (hnew k hk).imp id (fun h => by omega)
    ·simp only [List.mem_singleton] at hk
     subst hk
     exact .inr (Nat.le_of_eq hsk)
end
section
open Go.RowKit Go.MapKept
theorem refZNew {A : List Nat} {w : World} {a b : T} {qa ka qb kb : Sl} (ha : RdT A w a qa ka) (hb : RdT A w b qb kb) (na : a.bulk ≤ 400000000) (nb : b.bulk ≤ 400000000) (sa : a.size ≤ 300) (sb : b.size ≤ 300) :
  Calls Try.prog 75 #[tv a qa ka, tv b qb kb] w (Ret fun v w' => Ext w w' ∧ ∃ P : ZP, P.x = a ∧ P.y = b ∧ v = .pointer (some ⟨P.zb, 0, none⟩) ∧ w.heap.size ≤ P.zb ∧ P.zb < w'.heap.size ∧ ZFix P ∧ ZSt P w' [] [] Sl.nil Sl.nil ∧ P.wb.heap.size ≤ w'.heap.size) := by
 refine ref20_New.ok _ _ _ _ _ _ _ _ _ _ ?_
 unfold ref20_New.vc
 intro w1 B1 B2 _ _ _ hE1
 refine ⟨fun s w' => RItems w' s a, fun s w' w'' hE h => h.ext hE, fun w' hE => ?_, fun s w' => RItems w' s b, fun s w' w'' hE h => h.ext hE, fun w' hE => ?_, fun s w' => Own [] w' s 1 3 (a.po.map nc), fun s w' w'' hE h => h.ext hE, fun w' hE => ?_, fun s w' => Own [] w' s 1 3 (b.po.map nc), fun s w' w'' hE h => h.ext hE, fun w' hE => ?_, ?_⟩
 ·refine Ret.mono (refFlat0 na (ha.ext (hE1.trans hE))) ?_
  rintro v w'' ⟨h1, s, rfl, h2, _⟩
  exact ⟨h1, s, rfl, h2⟩
 ·refine Ret.mono (refFlat0 nb (hb.ext (hE1.trans hE))) ?_
  rintro v w'' ⟨h1, s, rfl, h2, _⟩
  exact ⟨h1, s, rfl, h2⟩
 ·refine Ret.mono (refPost0 na (ha.ext (hE1.trans hE))) ?_
  rintro v w'' ⟨h1, s, rfl, h2⟩
  exact ⟨h1, s, rfl, h2.less (by simp)⟩
 ·refine Ret.mono (refPost0 nb (hb.ext (hE1.trans hE))) ?_
  rintro v w'' ⟨h1, s, rfl, h2⟩
  exact ⟨h1, s, rfl, h2.less (by simp)⟩
 intro w2 rx ry pa pb z hE2 hX hY hPa hPb hz hbox w3 hE3
 have hzl := hbox.lt
 have s3 := hE3.size
 refine ⟨fun s w' => Own (List.range w3.heap.size) w' s 1 3 (a.fi.map nc), fun s w' w'' hE h => h.ext hE, fun w' hE => ?_, ?_⟩
 ·refine Ret.mono (refFirsts ((hX.ext hE3).ext hE) ((hPa.ext hE3).ext hE) (by omega)) ?_
  rintro v w'' ⟨h1, s, rfl, h2⟩
  exact ⟨h1, s, rfl, h2.less fun q hq => by have := hE.size; rw [List.mem_range] at hq ⊢; omega⟩
 intro w4 la hE4 hLa w5 hC5
 have hC25 : Chg [z] w2 w5 := (Chg.ext (hE3.trans hE4)).trans hC5
 have zin : ∀ q ∈ [z], q ∈ List.range w3.heap.size := by simp; omega
 refine ⟨fun s w' => Own (List.range w5.heap.size) w' s 1 3 (b.fi.map nc), fun s w' w'' hE h => h.ext hE, fun w' hE => ?_, ?_⟩
 ·refine Ret.mono (refFirsts ((hY.box hbox (by decide) (by decide) hC25).ext hE) ((hPb.other' hbox (by decide) hC25).ext hE) (by omega)) ?_
  rintro v w'' ⟨h1, s, rfl, h2⟩
  exact ⟨h1, s, rfl, h2.less fun q hq => by have := hE.size; rw [List.mem_range] at hq ⊢; omega⟩
 intro w6 lb hE6 hLb w7 hC7 hbox7
 have hC27 : Chg [z] w2 w7 := (hC25.more hE6).trans hC7
 have hE02 := hE1.trans hE2
 have g1 := hE1.size
 have zin2 : ∀ q ∈ [z], q ∈ List.range w5.heap.size := by have := hC25.size; simp; omega
 refine ⟨Chg.fresh hE02 hC27 (by simp; omega), ⟨w7, z, a, b, rx, ry, pa, pb, la, lb⟩, rfl, rfl, rfl, by show w.heap.size ≤ z; omega, by have := hC27.size; show z < w7.heap.size; omega, ?_, ?_, Nat.le_refl _⟩
 ·exact ⟨⟨_, hbox7⟩, hX.box hbox (by decide) (by decide) hC27, hY.box hbox (by decide) (by decide) hC27, hPa.other' hbox (by decide) hC27, hPb.other' hbox (by decide) hC27, (((hLa.chg hC5 zin).ext hE6).chg hC7 zin).less (by simp), (hLb.chg hC7 zin2).less (by simp), sa, sb⟩
 ·exact ⟨Chg.refl _ _, hbox7, Own.nil _ _ _ _, Own.nil _ _ _ _, rfl, List.nodup_nil, by simp, by simp⟩
def PairOk (x y : T) (p : Int × Int) : Prop := ∃ i j : Nat, p = ((i : Int), (j : Int)) ∧ i < x.size ∧ j < y.size ∧ kinB (x.nd i).t (y.nd j).t
structure MGo (P : ZP) (w : World) (sk sd l : Sl) (w' : World) (sk' sd' l' : Sl) : Prop where
 chg : Chg (P.zb :: (sk.blk ++ sd.blk) ++ l.blk) w w'
 blk : ∀ q ∈ sk'.blk ++ sd'.blk, q ∈ sk.blk ++ sd.blk ∨ w.heap.size ≤ q
 lblk : ∀ q ∈ l'.blk, q ∈ l.blk ∨ w.heap.size ≤ q
theorem MGo.ofZ {P : ZP} {w w' : World} {sk sd sk' sd' : Sl} (h : ZGo P w sk sd w' sk' sd') (l : Sl) : MGo P w sk sd l w' sk' sd' l := ⟨h.chg.mono fun _ hq => List.mem_append_left _ hq, h.blk, fun _ hq => .inl hq⟩
theorem MGo.trans {P : ZP} {w w1 w2 : World} {sk sd l sk1 sd1 l1 sk2 sd2 l2 : Sl} (h : MGo P w sk sd l w1 sk1 sd1 l1) (k : MGo P w1 sk1 sd1 l1 w2 sk2 sd2 l2) : MGo P w sk sd l w2 sk2 sd2 l2 :=
 ⟨h.chg.more' k.chg (fun q hq => by
  rcases List.mem_append.1 hq with hq | hq
  ·rcases List.mem_cons.1 hq with rfl | hq
   ·exact .inl (by simp)
   ·rcases h.blk q hq with h | h
    ·exact .inl (List.mem_append_left _ (List.mem_cons_of_mem _ h))
    ·exact .inr h
  ·rcases h.lblk q hq with h | h
   ·exact .inl (List.mem_append_right _ h)
   ·exact .inr h), fun q hq => by
  rcases k.blk q hq with hq | hq
  ·exact h.blk q hq
  ·exact .inr (Nat.le_trans h.chg.size hq), fun q hq => by
  rcases k.lblk q hq with hq | hq
  ·exact h.lblk q hq
  ·exact .inr (Nat.le_trans h.chg.size hq)⟩
theorem MGo.ext {P : ZP} {w w1 w2 : World} {sk sd l sk1 sd1 l1 : Sl} (h : MGo P w sk sd l w1 sk1 sd1 l1) (k : Ext w1 w2) : MGo P w sk sd l w2 sk1 sd1 l1 := h.trans (MGo.ofZ (ZGo.ofExt k) l1)
set_option maxHeartbeats 1000000 in
theorem refMap {P : ZP} (hF : ZFix P) {A : List Nat} (hAw : ∀ q, q < P.wb.heap.size → q ∈ A) : ∀ s a b c d : Nat, (b - a) + (d - c) = s → a ≤ b → b ≤ P.x.size → c ≤ d → d ≤ P.y.size → Vf P.x.fi a b → Vf P.y.fi c d → ∀ {w : World} {keys : List Kq} {ds : List Int} {sk sd l : Sl} {ps : List (Int × Int)}, ZSt P w keys ds sk sd → Own A w l 2 40 (ps.map pc) → (∀ q ∈ A, q < w.heap.size) → ps.length + s ≤ 1000 → (∀ p ∈ ps, PairOk P.x P.y p) →
  Calls Try.prog 76 #[.pointer (some ⟨P.zb, 0, none⟩), l.v, .agg #[.int .i64 (a : Int), .int .i64 (b : Int)], .agg #[.int .i64 (c : Int), .int .i64 (d : Int)]] w (Ret fun v w' => Chg (P.zb :: (sk.blk ++ sd.blk) ++ l.blk) w w' ∧
   ∃ (keys' : List Kq) (ds' : List Int) (sk' sd' l' : Sl) (ps' : List (Int × Int)), v = l'.v ∧ ZSt P w' keys' ds' sk' sd' ∧ MGo P w sk sd l w' sk' sd' l' ∧ Own A w' l' 2 40 (ps'.map pc) ∧ ps'.length ≤ ps.length + s ∧ (∀ p ∈ ps', PairOk P.x P.y p)) := by
 intro s
 induction s using Nat.strongRecOn with
 |ind s ih =>
  intro a b c d hs hab hbx hcd hdy hva hvc w keys ds sk sd l ps hS hL hA hps hok
  refine ref20_Z_Mapping.ok _ _ _ _ _ _ ?_
  unfold ref20_Z_Mapping.vc
  have nx := hF.nx
  have ny := hF.ny
  obtain ⟨csz, hbz⟩ := hF.box
  have hzb := hbz.lt
  refine ⟨fun h0 w1 B1 B2 _ _ _ hE => ⟨hE.mono (by simp), keys, ds, sk, sd, l, ps, rfl, hS.ext hE, MGo.ofZ (ZGo.ofExt hE) l, hL.ext hE, by omega, hok⟩, fun hne w1 B1 B2 hN1 hN2 _ hE1 => ?_⟩
  have hab' : a < b := by omega
  have hcd' : c < d := by omega
  obtain ⟨va1, va2, va3, va4, va5⟩ := hva.last hab' hbx
  obtain ⟨vc1, vc2, vc3, vc4, vc5⟩ := hvc.last hcd' hdy
  have hpt := fun {w' : World} {keys : List Kq} {ds : List Int} {sk sd : Sl} (h : ZSt P w' keys ds sk sd) => refParts hF h (a := a) (c := c) (by omega) hbx (by omega) hdy
  have hzc := fun {w' : World} {keys : List Kq} {ds : List Int} {sk sd : Sl} (h : ZSt P w' keys ds sk sd) => refZCost hF h (a := a) (c := c) (by omega) hbx (by omega) hdy
  obtain ⟨cf1, cf2, cf3⟩ := costF_facts (P.x.nd (P.x.po.getD (b - 1) 0)).t (P.y.nd (P.y.po.getD (d - 1) 0)).t
  generalize costF (P.x.nd (P.x.po.getD (b - 1) 0)).t (P.y.nd (P.y.po.getD (d - 1) 0)).t = cst at cf1 cf2 cf3 hzc
  obtain ⟨xp1, xp2, _⟩ := P.x.po_facts
  obtain ⟨yp1, yp2, _⟩ := P.y.po_facts
  have hpi := xp2 _ (getD_mem (d := 0) (show b - 1 < P.x.po.length by omega))
  have hpj := yp2 _ (getD_mem (d := 0) (show d - 1 < P.y.po.length by omega))
  have hcellA : ∀ {w' : World}, ZAt P w' → P.pa.n = P.x.size ∧ ∃ p, P.pa.a = some p ∧ w'.cell? (p.add ((b - 1) * 1)) = some (.int .i64 ((P.x.po.getD (b - 1) 0 : Nat) : Int)) := fun h => by
   obtain ⟨p, h1, h2⟩ := h.pa.row.nAt (k := b - 1) (by omega)
   have := h.pa.len
   rw [List.length_map, xp1] at this
   exact ⟨this, p, h1, h2⟩
  have hcellB : ∀ {w' : World}, ZAt P w' → P.pb.n = P.y.size ∧ ∃ p, P.pb.a = some p ∧ w'.cell? (p.add ((d - 1) * 1)) = some (.int .i64 ((P.y.po.getD (d - 1) 0 : Nat) : Int)) := fun h => by
   obtain ⟨p, h1, h2⟩ := h.pb.row.nAt (k := d - 1) (by omega)
   have := h.pb.len
   rw [List.length_map, yp1] at this
   exact ⟨this, p, h1, h2⟩
  generalize P.x.po.getD (b - 1) 0 = pi at cf3 hpi hcellA
  generalize P.y.po.getD (d - 1) 0 = pj at cf3 hpj hcellB
  generalize P.x.fi.getD (b - 1) 0 = i at va1 va2 va3 va4 hpt
  generalize P.y.fi.getD (d - 1) 0 = j at vc1 vc2 vc3 vc4 hpt
  have z1 : (b - 1 - i) + (d - 1 - j) + ((i - a) + (j - c)) + 2 = s := by omega
  have z3 : (b - 1 - a) + (d - c) + 1 = s := by omega
  have z4 : (b - a) + (d - 1 - c) + 1 = s := by omega
  have D0 := fun {w' : World} {keys : List Kq} {ds : List Int} {sk sd : Sl} (h : ZSt P w' keys ds sk sd) => refDist hF s a b c d hs hab hbx hcd hdy hva hvc h
  have D1 := fun {w' : World} {keys : List Kq} {ds : List Int} {sk sd : Sl} (h : ZSt P w' keys ds sk sd) => refDist hF ((b - 1 - i) + (d - 1 - j)) i (b - 1) j (d - 1) rfl va2 (by omega) vc2 (by omega) va3 vc3 h
  have D2 := fun {w' : World} {keys : List Kq} {ds : List Int} {sk sd : Sl} (h : ZSt P w' keys ds sk sd) => refDist hF ((i - a) + (j - c)) a i c j rfl va1 (by omega) vc1 (by omega) va4 vc4 h
  have D3 := fun {w' : World} {keys : List Kq} {ds : List Int} {sk sd : Sl} (h : ZSt P w' keys ds sk sd) => refDist hF ((b - 1 - a) + (d - c)) a (b - 1) c d rfl (by omega) (by omega) hcd hdy va5 hvc h
  have M1 := fun {w : World} {keys : List Kq} {ds : List Int} {sk sd l : Sl} {ps : List (Int × Int)} (h : ZSt P w keys ds sk sd) => ih ((b - 1 - i) + (d - 1 - j)) (by omega) i (b - 1) j (d - 1) rfl va2 (by omega) vc2 (by omega) va3 vc3 (l := l) (ps := ps) h
  have M2 := fun {w : World} {keys : List Kq} {ds : List Int} {sk sd l : Sl} {ps : List (Int × Int)} (h : ZSt P w keys ds sk sd) => ih ((i - a) + (j - c)) (by omega) a i c j rfl va1 (by omega) vc1 (by omega) va4 vc4 (l := l) (ps := ps) h
  have M3 := fun {w : World} {keys : List Kq} {ds : List Int} {sk sd l : Sl} {ps : List (Int × Int)} (h : ZSt P w keys ds sk sd) => ih ((b - 1 - a) + (d - c)) (by omega) a (b - 1) c d rfl (by omega) (by omega) hcd hdy va5 hvc (l := l) (ps := ps) h
  have M4 := fun {w : World} {keys : List Kq} {ds : List Int} {sk sd l : Sl} {ps : List (Int × Int)} (h : ZSt P w keys ds sk sd) => ih ((b - a) + (d - 1 - c)) (by omega) a b c (d - 1) rfl hab hbx (by omega) (by omega) hva vc5 (l := l) (ps := ps) h
  have hs6 : s ≤ 600 := by omega
  have bI : 1 ≤ b ∧ b ≤ 300 ∧ 1 ≤ d ∧ d ≤ 300 ∧ b ≤ P.x.size ∧ d ≤ P.y.size := by omega
  generalize (b - 1 - i) + (d - 1 - j) = s1 at D1 M1 z1
  generalize (i - a) + (j - c) = s2 at D2 M2 z1
  generalize (b - 1 - a) + (d - c) = s3 at D3 M3 z3
  generalize (b - a) + (d - 1 - c) = s4 at M4 z4
  have eb : (b : Int) - 1 = ((b - 1 : Nat) : Int) := by omega
  have ed : (d : Int) - 1 = ((d - 1 : Nat) : Int) := by omega
  clear hs va1 va2 va3 va4 va5 vc1 vc2 vc3 vc4 vc5 ih hva hvc hab hbx hcd hdy hab' hcd'
  have ebn : ((b : Int) - 1).toNat = b - 1 := by omega
  have edn : ((d : Int) - 1).toNat = d - 1 := by omega
  have bI1 : b - 1 < P.x.size ∧ d - 1 < P.y.size ∧ b - 1 ≤ 300 ∧ d - 1 ≤ 300 := by omega
  generalize b - 1 = b1 at D1 D3 M1 M3 eb hpt ebn bI1 hcellA
  generalize d - 1 = d1 at D1 M1 M4 ed hpt edn bI1 hcellB
  have hwb := hS.chg.size
  have hS1 := hS.ext hE1
  have hL1 := hL.ext hE1
  have lz : ∀ q ∈ l.blk, q ∉ P.zb :: (sk.blk ++ sd.blk) := fun q hq hm => by
   rcases List.mem_cons.1 hm with rfl | hm
   ·exact (hL.other hS.box (by decide)) hq
   ·rcases List.mem_append.1 hm with hm | hm
    ·exact (hL.apart hS.ks (by decide)) q hq hm
    ·exact (hL.apart hS.dd (by decide)) q hq hm
  have lzG : ∀ {w0 w' : World} {sk0 sd0 sk' sd' l' : Sl}, (∀ q ∈ l'.blk, q ∉ P.zb :: (sk0.blk ++ sd0.blk)) → (∀ q ∈ l'.blk, q < w0.heap.size) → ZGo P w0 sk0 sd0 w' sk' sd' → ∀ q ∈ l'.blk, q ∉ P.zb :: (sk'.blk ++ sd'.blk) := fun h0 hlt g q hq hm => by
   rcases List.mem_cons.1 hm with rfl | hm
   ·exact h0 _ hq (by simp)
   ·rcases g.blk q hm with h | h
    ·exact h0 _ hq (List.mem_cons_of_mem _ h)
    ·have := hlt q hq; omega
  have hLlt : ∀ q ∈ l.blk, q < w1.heap.size := fun q hq => (hL1.blk q hq).2
  have g1 : ZGo P w1 sk sd w1 sk sd := ZGo.ofExt (Chg.refl _ _)
  have hnew1 : ∀ q ∈ [B1, B2], w.heap.size ≤ q ∧ q < w1.heap.size := fun q hq => by
   simp only [List.mem_cons, List.not_mem_nil, or_false] at hq
   rcases hq with rfl | rfl
   ·exact ⟨hN1.ge, hN1.lt⟩
   ·exact ⟨hN2.ge, hN2.lt⟩
  have b12 : ∀ {w' : World} {sk' sd' : Sl}, ZGo P w1 sk sd w' sk' sd' → ∀ q ∈ [B1, B2], q ∉ P.zb :: (sk'.blk ++ sd'.blk) := fun g q hq hm => by
   obtain ⟨n1, n2⟩ := hnew1 q hq
   rcases List.mem_cons.1 hm with rfl | hm
   ·omega
   ·rcases g.blk q hm with h | h
    ·have := (hS.mem q h).2; omega
    ·omega
  refine CallK.chg (D0 hS1) (b12 g1) ?_
  rintro v w2 hC2 ⟨r0, keys2, ds2, sk2, sd2, rfl, r0a, r0b, hS2, g2, _⟩
  refine ⟨r0, rfl, CallK.exact (hpt hS2) fun w3 hE3 => ?_⟩
  refine ⟨_, _, _, _, _, _, _, _, rfl, fun w4 B4 B5 B6 B7 hN4 hN5 hN6 hN7 _ _ _ _ _ _ hE4 => ?_⟩
  have hS4 := (hS2.ext hE3).ext hE4
  have g4 := (g2.ext hE3).ext hE4
  have hnew4 : ∀ q ∈ [B4, B5, B6, B7], w3.heap.size ≤ q ∧ q < w4.heap.size := fun q hq => by
   simp only [List.mem_cons, List.not_mem_nil, or_false] at hq
   rcases hq with rfl | rfl | rfl | rfl
   ·exact ⟨hN4.ge, hN4.lt⟩
   ·exact ⟨hN5.ge, hN5.lt⟩
   ·exact ⟨hN6.ge, hN6.lt⟩
   ·exact ⟨hN7.ge, hN7.lt⟩
  have g44 : ZGo P w4 sk2 sd2 w4 sk2 sd2 := ZGo.ofExt (Chg.refl _ _)
  have b47 : ∀ {w' : World} {sk' sd' : Sl}, ZGo P w4 sk2 sd2 w' sk' sd' → ∀ q ∈ [B1, B2, B4, B5, B6, B7], q ∉ P.zb :: (sk'.blk ++ sd'.blk) := fun g q hq => by
   by_cases h12 : q ∈ [B1, B2]
   ·exact b12 (g4.trans g) q h12
   ·intro hm
    have hq4 : q ∈ [B4, B5, B6, B7] := by
     simp only [List.mem_cons, List.not_mem_nil, or_false] at hq h12 ⊢
     rcases hq with h | h | h | h | h | h
     ·exact absurd (.inl h) h12
     ·exact absurd (.inr h) h12
     ·exact .inl h
     ·exact .inr (.inl h)
     ·exact .inr (.inr (.inl h))
     ·exact .inr (.inr (.inr h))
    obtain ⟨n1, n2⟩ := hnew4 q hq4
    have e1 := hE1.size; have e2 := g2.chg.size; have e3 := hE3.size
    rcases List.mem_cons.1 hm with rfl | hm
    ·omega
    ·rcases g.blk q hm with h | h
     ·have := (hS2.mem q h).2; omega
     ·omega
  refine CallK.chg (D1 hS4) (b47 g44) ?_
  rintro v w5 hC5 ⟨r1, keys5, ds5, sk5, sd5, rfl, r1a, r1b, hS5, g5', _⟩
  have g5 := g44.trans g5'
  refine ⟨r1, rfl, CallK.chg (D2 hS5) (b47 g5) ?_⟩
  rintro v w6 hC6 ⟨r2, keys6, ds6, sk6, sd6, rfl, r2a, r2b, hS6, g6', _⟩
  have g6 := g5.trans g6'
  have gA : ∀ {w' : World} {sk' sd' : Sl}, ZGo P w4 sk2 sd2 w' sk' sd' → ZGo P w sk sd w' sk' sd' := fun g => (ZGo.ofExt hE1).trans (g4.trans g)
  have lkeep : ∀ {w' : World} {sk' sd' : Sl}, ZGo P w4 sk2 sd2 w' sk' sd' → Own A w' l 2 40 (ps.map pc) := fun g => hL.keep (gA g).chg lz
  have lzA : ∀ {w' : World} {sk' sd' : Sl}, ZGo P w4 sk2 sd2 w' sk' sd' → ∀ q ∈ l.blk, q ∉ P.zb :: (sk'.blk ++ sd'.blk) := fun g => lzG lz (fun q hq => (hL.blk q hq).2) (gA g)
  have hAt : ∀ {w' : World}, w.heap.size ≤ w'.heap.size → ∀ q ∈ A, q < w'.heap.size := fun h q hq => Nat.lt_of_lt_of_le (hA q hq) h
  have e1 := hE1.size
  have e4 := g4.chg.size
  have hbl : ∀ q ∈ [B1, B2, B4, B5, B6, B7], q < w4.heap.size ∧ q ∉ l.blk := fun q hq => by
   by_cases h12 : q ∈ [B1, B2]
   ·obtain ⟨n1, n2⟩ := hnew1 q h12
    exact ⟨by omega, fun hm => by have := (hL.blk q hm).2; omega⟩
   ·have hq4 : q ∈ [B4, B5, B6, B7] := by
     simp only [List.mem_cons, List.not_mem_nil, or_false] at hq h12 ⊢
     rcases hq with h | h | h | h | h | h
     ·exact absurd (.inl h) h12
     ·exact absurd (.inr h) h12
     ·exact .inl h
     ·exact .inr (.inl h)
     ·exact .inr (.inr (.inl h))
     ·exact .inr (.inr (.inr h))
    obtain ⟨n1, n2⟩ := hnew4 q hq4
    have e2 := g2.chg.size; have e3 := hE3.size
    exact ⟨by omega, fun hm => by have := (hL.blk q hm).2; omega⟩
  have bM : ∀ {w' : World} {sk' sd' l' : Sl}, MGo P w4 sk2 sd2 l w' sk' sd' l' → ∀ q ∈ [B1, B2, B4, B5, B6, B7], q ∉ P.zb :: (sk'.blk ++ sd'.blk) ++ l'.blk := fun g q hq hm => by
   obtain ⟨n1, n2⟩ := hbl q hq
   have n3 := b47 g44 q hq
   rcases List.mem_append.1 hm with hm | hm
   ·rcases List.mem_cons.1 hm with rfl | hm
    ·exact n3 (by simp)
    ·rcases g.blk q hm with h | h
     ·exact n3 (List.mem_cons_of_mem _ h)
     ·omega
   ·rcases g.lblk q hm with h | h
    ·exact n2 h
    ·omega
  have m4 : MGo P w sk sd l w4 sk2 sd2 l := MGo.ofZ ((ZGo.ofExt hE1).trans g4) l
  refine ⟨r2, rfl, ⟨by omega, by omega⟩, cst, fun w' hE' => hzc (hS6.ext hE'), ⟨by omega, by omega⟩, fun heq w7 hE7 => ?_, fun hneq => ⟨⟨by omega, by omega⟩, fun w7 hE7 => ?_⟩⟩
  ·have hS7 := hS6.ext hE7
   have g7 := g6.ext hE7
   refine CallK.exact (hzc hS7) fun w8 hE8 => ⟨cst, rfl, ?_⟩
   have hS8 := hS7.ext hE8
   have g8 := g7.ext hE8
   have hL8 := lkeep g8
   have m8 : MGo P w4 sk2 sd2 l w8 sk6 sd6 l := MGo.ofZ g8 l
   refine ⟨fun l' w' => ∃ ps' : List (Int × Int), Own A w' l' 2 40 (ps'.map pc) ∧ ps'.length ≤ ps.length + 1 ∧ (∀ p ∈ ps', PairOk P.x P.y p) ∧ ZSt P w' keys6 ds6 sk6 sd6 ∧ MGo P w4 sk2 sd2 l w' sk6 sd6 l', ⟨fun hlt w9 hE9 => ?_, fun hge => ⟨ps, hL8, by omega, hok, hS8, m8⟩⟩, ?_⟩
   ·have hS9 := hS8.ext hE9
    have hat := hF.at hS9.chg
    obtain ⟨an, p, hp, hpc⟩ := hcellA hat
    obtain ⟨bn, q, hq, hqc⟩ := hcellB hat
    refine ⟨P.pa, hS9.box.cell 2 _ rfl, ⟨by omega, by omega⟩, p, ⟨⟨by omega, by omega⟩, hp⟩, (pi : Int), by rw [ebn]; exact hpc, P.pb, hS9.box.cell 3 _ rfl, ⟨by omega, by omega⟩, q, ⟨⟨by omega, by omega⟩, hq⟩, (pj : Int), by rw [edn]; exact hqc, fun w10 B10 hE10 hB10 hbox10 _ => ?_⟩
    have hE810 := hE9.trans hE10
    have hL10 := hL8.ext hE810
    have hS10 := hS8.ext hE810
    have hln := hL.len
    rw [List.length_map] at hln
    have hbox' : Box w10 B10 40 (pc ((pi : Int), (pj : Int))) := hbox10
    have e8 := g8.chg.size
    have e10 := hE810.size
    have hLx : Own ([B1, B2, B4, B5, B6, B7] ++ A) w10 l 2 40 (ps.map pc) := hL10.avoid fun q hq hm => by
     rcases List.mem_append.1 hm with hm | hm
     ·exact (hbl q hm).2 hq
     ·exact (hL10.blk q hq).1 hm
    refine App.runK Try.underlying29 ti_40 rfl (by decide) (.inl hLx) (fun q hq => ?_) (Own.one (A := []) hbox' (by simp)).row (ones_pc _) (by simp) (by simp only [maxLen, List.length_singleton]; omega) (by simp only [List.length_singleton]; omega) (fun q hq => List.mem_append_left _ hq) fun s' w11 ho11 hC11 hb11 => ⟨s', rfl, fun w12 hE12 => ⟨ps ++ [((pi : Int), (pj : Int))], ?_, by simp, fun p hp => ?_, ?_, ?_⟩⟩
    ·rcases List.mem_append.1 hq with hq | hq
     ·have := (hbl q hq).1; omega
     ·have := hA q hq; omega
    ·rw [List.map_append]
     exact (ho11.less fun q hq => List.mem_append_right _ hq).ext hE12
    ·rcases List.mem_append.1 hp with hp | hp
     ·exact hok p hp
     ·simp only [List.mem_singleton] at hp
      exact ⟨pi, pj, hp, hpi, hpj, cf3 hlt⟩
    ·have hlo : ∀ q ∈ l.own, q ∉ P.zb :: (sk6.blk ++ sd6.blk) := fun q hq => lzA g6 q (Sl.own_blk hq)
     have hlw : ∀ q ∈ l.own, P.wb.heap.size ≤ q := fun q hq => by
      rcases Nat.lt_or_ge q P.wb.heap.size with h | h
      ·exact absurd (hAw q h) (hL.blk q (Sl.own_blk hq)).1
      ·exact h
     exact ZSt.ext ⟨hS10.chg.more' hC11 fun q hq => .inr (hlw q hq), hS10.box.keep hC11 (fun hm => hlo _ hm (by simp)), hS10.ks.keep hC11 (fun q hq hm => hlo q hm (List.mem_cons_of_mem _ (List.mem_append_left _ hq))), hS10.dd.keep hC11 (fun q hq hm => hlo q hm (List.mem_cons_of_mem _ (List.mem_append_right _ hq))), hS10.len, hS10.nod, hS10.low, hS10.val⟩ hE12
    ·refine ((m8.ext hE810).trans ⟨hC11.mono fun q hq => List.mem_append_right _ (Sl.own_blk hq), fun q hq => .inl hq, fun q hq => ?_⟩).ext hE12
     exact (hb11 q hq).imp Sl.own_blk id
   rintro l9 w9 ⟨ps9, hL9, hn9, hok9, hS9, m9⟩ w10 hE10
   have m10 := m9.ext hE10
   have ew := m10.chg.size
   refine CallK.chg (M1 (hS9.ext hE10) (hL9.ext hE10) (hAt (by omega)) (by omega) hok9) (fun q hq => bM m10 q (by simp at hq ⊢; rcases hq with rfl | rfl | rfl | rfl <;> simp)) ?_
   rintro v w11 hC11 ⟨keys11, ds11, sk11, sd11, l11, ps11, rfl, hS11, m11', hL11, hn11, hok11⟩
   have m11 := m10.trans m11'
   refine ⟨l11, rfl, fun w12 hE12 => ?_⟩
   have m12 := m11.ext hE12
   have ew2 := m12.chg.size
   refine CallK.chg (M2 (hS11.ext hE12) (hL11.ext hE12) (hAt (by omega)) (by omega) hok11) (fun q hq => bM m12 q (by simp at hq ⊢; rcases hq with rfl | rfl | rfl | rfl <;> simp)) ?_
   rintro v w13 hC13 ⟨keys13, ds13, sk13, sd13, l13, ps13, rfl, hS13, m13', hL13, hn13, hok13⟩
   refine ⟨l13, rfl, fun w14 hE14 => ?_⟩
   have m14 := m4.trans ((m12.trans m13').ext hE14)
   exact ⟨m14.chg, keys13, ds13, sk13, sd13, l13, ps13, rfl, hS13.ext hE14, m14, hL13.ext hE14, by omega, hok13⟩
  ·have hS7 := hS6.ext hE7
   have g7 := g6.ext hE7
   rw [eb, ed]
   refine CallK.chg (D3 hS7) (b47 g7) ?_
   rintro v w8 hC8 ⟨r3, keys8, ds8, sk8, sd8, rfl, r3a, r3b, hS8, g8', _⟩
   have g8 := g7.trans g8'
   have m8 : MGo P w4 sk2 sd2 l w8 sk8 sd8 l := MGo.ofZ g8 l
   have e8 := g8.chg.size
   refine ⟨r3, rfl, ⟨by omega, by omega⟩, fun _ => ⟨⟨by omega, by omega⟩, ?_⟩, fun _ => ⟨⟨by omega, by omega⟩, ?_⟩⟩
   ·refine CallK.chg (M3 hS8 (lkeep g8) (hAt (by omega)) (by omega) hok) (fun q hq => bM m8 q (by simp at hq ⊢; rcases hq with rfl | rfl <;> simp)) ?_
    rintro v w9 hC9 ⟨keys9, ds9, sk9, sd9, l9, ps9, rfl, hS9, m9', hL9, hn9, hok9⟩
    have m9 := m4.trans (m8.trans m9')
    exact ⟨l9, rfl, m9.chg, keys9, ds9, sk9, sd9, l9, ps9, rfl, hS9, m9, hL9, by omega, hok9⟩
   ·refine CallK.chg (M4 hS8 (lkeep g8) (hAt (by omega)) (by omega) hok) (fun q hq => bM m8 q (by simp at hq ⊢; rcases hq with rfl | rfl <;> simp)) ?_
    rintro v w9 hC9 ⟨keys9, ds9, sk9, sd9, l9, ps9, rfl, hS9, m9', hL9, hn9, hok9⟩
    have m9 := m4.trans (m8.trans m9')
    exact ⟨l9, rfl, m9.chg, keys9, ds9, sk9, sd9, l9, ps9, rfl, hS9, m9, hL9, by omega, hok9⟩
theorem ZSt.pair {P : ZP} {A F : List Nat} (hAw : ∀ q, q < P.wb.heap.size → q ∈ A) {w w' : World} {keys : List Kq} {ds : List Int} {sk sd l : Sl} {us : List (List Value)} (h : ZSt P w keys ds sk sd) (hL : Own A w l 2 40 us) (c : Chg F w w') (hF : ∀ q ∈ F, q ∈ l.blk) : ZSt P w' keys ds sk sd :=
 ⟨h.chg.more' c fun q hq => .inr (by
  rcases Nat.lt_or_ge q P.wb.heap.size with h | h
  ·exact absurd (hAw q h) (hL.blk q (hF q hq)).1
  ·exact h), h.box.keep c (fun hm => (hL.other h.box (by decide)) (hF _ hm)), h.ks.keep c (fun q hq hm => (hL.apart h.ks (by decide)) q (hF q hm) hq), h.dd.keep c (fun q hq hm => (hL.apart h.dd (by decide)) q (hF q hm) hq), h.len, h.nod, h.low, h.val⟩
theorem Own.putP {A : List Nat} {w w' : World} {s : Sl} {g j : Nat} {ps : List (Int × Int)} {cur : List Value} {q : Int × Int} (h : Own A w s 2 40 (ps.map pc)) (ha : s.a = some ⟨g, 0, none⟩) (hb : Box w g 40 cur) (hj : j < ps.length) (hb' : Box w' g 40 (putAt cur (j * 2) [.int .i64 q.1, .int .i64 q.2])) : Own A w' s 2 40 ((ps.set j q).map pc) := by
 have := h.put (o := 0) (us := [.int .i64 q.1, .int .i64 q.2]) ha hb (j := j) (by simpa using hj) (by simp) (by simpa using hb')
 have e : (ps.map pc).set j (putAt ((ps.map pc).getD j []) 0 [.int .i64 q.1, .int .i64 q.2]) = (ps.set j q).map pc := by
  have e1 : (ps.map pc).getD j [] = pc (ps.getD j (0, 0)) := by simp [List.getD_eq_getElem?_getD, hj]
  rw [e1, List.map_set]; rfl
 rwa [e] at this
set_option maxHeartbeats 1000000 in
theorem refWholeZ {X : List Nat} {w : World} {a b : T} {qa ka qb kb : Sl} (ha : RdT X w a qa ka) (hb : RdT X w b qb kb) (na : a.bulk ≤ 400000000) (nb : b.bulk ≤ 400000000) (sa : a.size ≤ 300) (sb : b.size ≤ 300) :
  Calls Try.prog 57 #[tv a qa ka, tv b qb kb] w (Ret fun v w' => Ext w w' ∧ ∃ (n : Int) (l : Sl) (ps : List (Int × Int)), v = .tuple #[.int .i64 n, l.v] ∧ Own (List.range w.heap.size) w' l 2 40 (ps.map pc) ∧ ps.length ≤ 1000 ∧ ∀ p ∈ ps, PairOk a b p) := by
 refine ref20_Whole.ok _ _ _ _ _ _ _ _ _ _ ?_
 unfold ref20_Whole.vc
 intro w1 B1 B2 _ _ _ hE1
 refine CallK.ext (refZNew (ha.ext hE1) (hb.ext hE1) na nb sa sb) ?_
 rintro v w2 hE2 ⟨P, rfl, rfl, rfl, hz1, hz2, hF, hS2, hwb⟩
 refine ⟨_, rfl, fun w3 hE3 => ?_⟩
 have hS3 := hS2.ext hE3
 have hat := hF.at hS3.chg
 have hE03 := (hE1.trans hE2).trans hE3
 obtain ⟨csz, hbz⟩ := hF.box
 have hzb := hbz.lt
 have e1 := hE1.size
 have hwlow : w.heap.size ≤ P.wb.heap.size := by omega
 have hpn := hat.pa.len
 have hqn := hat.pb.len
 rw [List.length_map, (P.x.po_facts).1] at hpn
 rw [List.length_map, (P.y.po_facts).1] at hqn
 refine ⟨_, rfl, P.pa, hS3.box.cell 2 _ rfl, _, rfl, P.pb, hS3.box.cell 3 _ rfl, fun w4 B4 B5 hE4 hB4 hbx4 hB5 hbx5 w5 hC5 => ?_⟩
 have hE35 : Ext w3 w5 := Chg.fresh hE4 hC5 (by simp; omega)
 have hS5 := hS3.ext hE35
 have hE05 := hE03.trans hE35
 have l4 := hbx4.lt
 have l5 := hbx5.lt
 have s5 := hC5.size
 have s35 := hE35.size
 have hwb5 := hS5.chg.size
 have hwb3 := hS3.chg.size
 rw [hpn, hqn]
 obtain ⟨A, hAdef⟩ : ∃ A, A = B4 :: B5 :: List.range P.wb.heap.size := ⟨_, rfl⟩
 have hAw : ∀ q, q < P.wb.heap.size → q ∈ A := fun q hq => by rw [hAdef]; simp [hq]
 have hA5 : ∀ q ∈ A, q < w5.heap.size := fun q hq => by
  rw [hAdef] at hq
  simp only [List.mem_cons, List.mem_range] at hq
  omega
 have hAw0 : ∀ q, q ∉ A → w.heap.size ≤ q := fun q hq => by
  rcases Nat.lt_or_ge q P.wb.heap.size with h | h
  ·exact absurd (hAw q h) hq
  ·omega
 have hBA : ∀ q ∈ [B4, B5], q ∈ A := fun q hq => by rw [hAdef]; simp at hq ⊢; omega
 have nx := hF.nx
 have ny := hF.ny
 have vf : ∀ (t : T), Vf t.fi 0 t.size := fun t q _ _ => Nat.zero_le _
 have hm := refMap hF hAw (P.x.size + P.y.size) 0 P.x.size 0 P.y.size (by omega) (by omega) (by omega) (by omega) (by omega) (vf _) (vf _) (l := Sl.nil) (ps := []) hS5 (Own.nil _ _ _ _) hA5 (by simp; omega) (by simp)
 refine CallK.chg hm (fun q hq hm => ?_) ?_
 ·simp only [List.mem_cons, List.not_mem_nil, or_false] at hq
  simp [Sl.blk, Sl.nil] at hm
  rcases hq with rfl | rfl <;> omega
 rintro v w6 hC6 ⟨keys6, ds6, sk6, sd6, l, ps6, rfl, hS6, m6, hL6, hn6, hok6⟩
 refine ⟨l, rfl, ?_⟩
 have hE06 : Ext w w6 := Chg.fresh hE05 hC6 fun q hq => by
  simp [Sl.blk, Sl.nil] at hq; omega
 have hln := hL6.len
 rw [List.length_map] at hln
 simp only [List.length_nil, Nat.zero_add] at hn6
 have hln6 : ps6.length ≤ 600 := by omega
 have swap : ∀ {w' w'' : World}, Ext w w' → Chg l.blk w' w'' → ∀ {us : List (List Value)}, Own A w' l 2 40 us → Ext w w'' := fun h c _ ho => Chg.fresh h c fun q hq => hAw0 q (ho.blk q hq).1
 refine ⟨fun i w' => ∃ (n : Nat) (ps : List (Int × Int)), i = (n : Int) ∧ ps.length = ps6.length ∧ Own A w' l 2 40 (ps.map pc) ∧ (∀ p ∈ ps, PairOk P.x P.y p) ∧ ZSt P w' keys6 ds6 sk6 sd6 ∧ Ext w w', fun i _ => ps6.length - i.toNat, ⟨1, ps6, rfl, rfl, hL6, hok6, hS6, hE06⟩, ?_⟩
 rintro _ w7 ⟨n, ps7, rfl, hl7, hL7, hok7, hS7, hE7⟩
 refine ⟨fun hi => ?_, fun hi => ?_⟩
 ·have hn' : n < ps6.length := by omega
  obtain ⟨g, cur0, hg, hgA, _⟩ : ∃ g cur, l.a = some ⟨g, 0, none⟩ ∧ g ∉ A ∧ Box w7 g 40 cur := by
   rcases hL7.at_ with h | ⟨g, cur, h1, h2, h3, _⟩
   ·rw [h] at hln; simp [Sl.nil] at hln; omega
   ·exact ⟨g, cur, h1, h2, h3⟩
  have hgb : ∀ q ∈ [g], q ∈ l.blk := by simp [Sl.blk, hg]
  refine ⟨fun k w' => ∃ (m : Nat) (ps : List (Int × Int)), k = (m : Int) ∧ m ≤ n ∧ ps.length = ps6.length ∧ Own A w' l 2 40 (ps.map pc) ∧ (∀ p ∈ ps, PairOk P.x P.y p) ∧ ZSt P w' keys6 ds6 sk6 sd6 ∧ Ext w w', fun k _ => k.toNat, ⟨n, ps7, rfl, by omega, hl7, hL7, hok7, hS7, hE7⟩, ?_⟩
  rintro _ w8 ⟨m, ps8, rfl, hmn, hl8, hL8, hok8, hS8, hE8⟩ w9 hE9
  have hL9 := hL8.ext hE9
  have hS9 := hS8.ext hE9
  have cell : ∀ {w' : World} {ps : List (Int × Int)}, Own A w' l 2 40 (ps.map pc) → ∀ k, k < ps.length → Cells w' ((⟨g, 0, none⟩ : Addr).add (k * 2)) (pc (ps.getD k (0, 0))) := fun h k hk => by
   obtain ⟨p, hp, hc⟩ := h.row.pairAt hk
   rw [hg] at hp; cases hp; exact hc
  have em : ((m : Int) - 1).toNat = m - 1 := by omega
  refine ⟨⟨g, 0, none⟩, fun h0 => ⟨⟨by omega, by omega⟩, hg⟩, (ps8.getD m (0, 0)).1, fun h0 => cell hL9 m (by omega) 0 _ rfl, fun h0 => ⟨by omega, by omega⟩, ⟨g, 0, none⟩, fun h0 => ⟨⟨by omega, by omega⟩, hg⟩, (ps8.getD (m - 1) (0, 0)).1, fun h0 => by rw [em]; exact cell hL9 (m - 1) (by omega) 0 _ rfl, fun hgo w10 hE10 => ?_, fun hno => ⟨⟨by omega, by omega⟩, fun w10 hE10 => ⟨⟨n + 1, ps8, by omega, hl8, hL9.ext hE10, hok8, hS9.ext hE10, (hE8.trans hE9).trans hE10⟩, by dsimp only; omega⟩⟩⟩
  have hm0 : 0 < m := by omega
  have hL10 := hL9.ext hE10
  have hS10 := hS9.ext hE10
  have hE010 := (hE8.trans hE9).trans hE10
  obtain ⟨cur, hbx, hcl⟩ : ∃ cur, Box w10 g 40 cur ∧ cur.length = l.c * 2 := by
   rcases hL10.at_ with h | ⟨g', cur, h1, h2, h3, h4, _⟩
   ·rw [h] at hln; simp [Sl.nil] at hln; omega
   ·rw [hg] at h1; cases h1; exact ⟨cur, h3, h4⟩
  have hcap := hL10.cap
  refine ⟨⟨by omega, by omega⟩, ⟨by omega, by omega⟩, ⟨g, 0, none⟩, ⟨⟨by omega, by omega⟩, hg⟩, (ps8.getD (m - 1) (0, 0)).1, (ps8.getD (m - 1) (0, 0)).2, by rw [em]; exact cell hL10 (m - 1) (by omega), ⟨g, 0, none⟩, ⟨⟨by omega, by omega⟩, hg⟩, (ps8.getD m (0, 0)).1, (ps8.getD m (0, 0)).2, cell hL10 m (by omega), ⟨g, 0, none⟩, ⟨⟨by omega, by omega⟩, hg⟩, g, m * 2, 40, cur, by simp [Addr.add_lit], hbx, by omega, fun q hq e => hgA (e ▸ hBA q hq), fun w11 hC11 hb11 w12 hE12 => ?_⟩
  have hL11 := hL10.putP (q := ps8.getD (m - 1) (0, 0)) hg hbx (j := m) (by omega) hb11
  have hS11 := hS10.pair hAw hL10 hC11 hgb
  have hE011 := swap hE010 (hC11.mono hgb) hL10
  have hb12 := hb11.ext hE12
  have hL12 := hL11.ext hE12
  refine ⟨⟨g, 0, none⟩, ⟨⟨by omega, by omega⟩, hg⟩, fun w13 hE13 => ?_⟩
  have hL13 := hL12.ext hE13
  refine ⟨g, (m - 1) * 2, 40, _, by rw [em]; simp [Addr.add_lit], hb12.ext hE13, by rw [putAt_len]; omega, fun q hq e => hgA (e ▸ hBA q hq), fun w14 hC14 hb14 => ⟨⟨by omega, by omega⟩, ⟨m - 1, (ps8.set m (ps8.getD (m - 1) (0, 0))).set (m - 1) (ps8.getD m (0, 0)), by omega, by omega, by simpa using hl8, ?_, ?_, ?_, ?_⟩, by dsimp only; omega⟩⟩
  ·exact hL13.putP (q := ps8.getD m (0, 0)) hg (hb12.ext hE13) (j := m - 1) (by simp; omega) hb14
  ·intro p hp
   rcases List.mem_or_eq_of_mem_set hp with hp | hp
   ·rcases List.mem_or_eq_of_mem_set hp with hp | hp
    ·exact hok8 p hp
    ·rw [hp]; exact hok8 _ (getD_mem (by omega))
   ·rw [hp]; exact hok8 _ (getD_mem (by omega))
  ·exact ((hS11.ext hE12).ext hE13).pair hAw hL13 hC14 hgb
  ·exact swap ((hE011.trans hE12).trans hE13) (hC14.mono hgb) hL13
 ·have hd := refDist hF (P.x.size + P.y.size) 0 P.x.size 0 P.y.size (by omega) (by omega) (by omega) (by omega) (by omega) (vf _) (vf _) hS7
  refine CallK.chg hd (fun q hq hm => ?_) ?_
  ·have hqA := hBA q hq
   rcases List.mem_cons.1 hm with rfl | hm
   ·simp only [List.mem_cons, List.not_mem_nil, or_false] at hq
    rcases hq with h | h <;> omega
   ·have hq5 := hA5 q hqA
    rcases m6.blk q hm with h | h
    ·simp [Sl.blk, Sl.nil] at h
    ·omega
  rintro v w8 hC8 ⟨r, _, _, _, _, rfl, _, _, _, _, _⟩
  refine ⟨r, rfl, Chg.fresh hE7 hC8 fun q hq => ?_, r, l, ps7, rfl, ?_, by omega, hok7⟩
  ·rcases List.mem_cons.1 hq with rfl | hq
   ·omega
   ·have := (hS7.mem q hq).1; omega
  ·refine (hL7.keep hC8 fun q hq hm => ?_).less fun q hq => hAw q (by have := List.mem_range.1 hq; omega)
   rcases List.mem_cons.1 hm with rfl | hm
   ·exact (hL7.other hS7.box (by decide)) hq
   ·rcases List.mem_append.1 hm with hm | hm
    ·exact (hL7.apart hS7.ks (by decide)) q hq hm
    ·exact (hL7.apart hS7.dd (by decide)) q hq hm
end
section
open Go.RowKit Go.MapKept
theorem refFlatB {X : List Nat} {t : T} (hb : t.bulk ≤ 400000000) {wq w : World} {sa sk : Sl} (hr : RdT X wq t sa sk) (hq : Ext wq w) :
  Calls Try.prog 11 #[tv t sa sk] w (Ret fun v w' => Ext w w' ∧ ∃ s : Sl, v = s.v ∧ RItemsQ (RdT [] wq) w' s t) := by
 refine ref07_Flat.ok _ _ _ _ _ ?_
 unfold ref07_Flat.vc
 intro w1 B hN hE
 have hsz := T.size_bulk t
 have hcall := refFlat t (A := []) (G := []) (vs := []) (-1) 0 0 hr (hq.trans hE) (by simp) (Own.nil _ _ _ _) (by simp) (by simp [Sl.own, Sl.nil]) (by simp; omega) (by omega) (by omega)
 refine CallK.chg hcall (by simp [Sl.own, Sl.nil]) ?_
 rintro v w2 hC ⟨s, rows, rfl, ho, hbl, hR⟩
 have hC' : Ext w1 w2 := hC.mono (by simp [Sl.own, Sl.nil])
 exact ⟨s, rfl, hE.trans hC', s, rfl, rows, by simpa using ho, hR⟩
theorem RItemsQ.at {Q : T → Sl → Sl → Prop} {w : World} {s : Sl} {t : T} (h : RItemsQ Q w s t) : s.n = t.size ∧ ∃ p, s.a = some p ∧ ∀ j, j < t.size → ∃ a sa sk : Sl, Cells w (p.add (j * 15)) (rc (t.nd j) a sa sk (t.zAt j) (t.hAt j)) ∧ Q (t.nd j).t sa sk := by
 have hn := h.to.len
 obtain ⟨rows, ho, hr⟩ := h
 have hrl := hr.1
 rw [T.flat_len] at hrl
 have hpos := T.size_pos t
 obtain ⟨p, hp, _⟩ := ho.row.at_ 0 (by omega)
 refine ⟨hn, p, hp, fun j hj => ?_⟩
 have := ho.row.cells1 (i := j) (by omega) hp
 obtain ⟨u, hu⟩ : ∃ u, rows[j]? = some u := ⟨_, List.getElem?_eq_getElem (by omega)⟩
 obtain ⟨a, sa, sk, rfl, h2, h3⟩ := hr.2 j _ u (t.flat_get hj) hu
 rw [List.getD_eq_getElem?_getD, hu] at this
 exact ⟨a, sa, sk, this, h3⟩
structure WSt (wq w : World) (g : Nat) (x y : T) (rx ry : Sl) (m : Nat) (sa sb : Sl) (fa fb : List Int) : Prop where
 ext : Ext wq w
 box : Box w g 70 [rx.v, ry.v, .pointer (some ⟨m, 0, none⟩)]
 ix : RItemsQ (RdT [] wq) w rx x
 iy : RItemsQ (RdT [] wq) w ry y
 m : MRd (List.range wq.heap.size) w m sa sb fa fb
 inv : MInv x y fa fb
 nx : x.size ≤ 300
 ny : y.size ≤ 300
theorem WSt.next {wq w w' : World} {g : Nat} {x y : T} {rx ry : Sl} {m : Nat} {sa sb : Sl} {fa fb : List Int} (h : WSt wq w g x y rx ry m sa sb fa fb) (c : Ext w w') : WSt wq w' g x y rx ry m sa sb fa fb :=
 ⟨h.ext.trans c, h.box.ext c, h.ix.ext c, h.iy.ext c, h.m.ext c, h.inv, h.nx, h.ny⟩
theorem Chg.split {F G : List Nat} {w w' : World} (c : Chg (F ++ G) w w') : Chg (F ++ G) w w' := c
theorem WSt.put {wq w w' : World} {g : Nat} {x y : T} {rx ry : Sl} {m : Nat} {sa sb : Sl} {fa fb fa' fb' : List Int} (h : WSt wq w g x y rx ry m sa sb fa fb) (c : Chg (sa.blk ++ sb.blk) w w') (hm : MRd (List.range wq.heap.size) w' m sa sb fa' fb') (hi : MInv x y fa' fb') : WSt wq w' g x y rx ry m sa sb fa' fb' := by
 have key : ∀ {s : Sl} {size : Nat} {S : TypeId} {us : List (List Value)} {A : List Nat}, Own A w s size S us → S ≠ 3 → ∀ b ∈ s.blk, b ∉ sa.blk ++ sb.blk := fun ho hne b hb hm => by
  rcases List.mem_append.1 hm with hm | hm
  ·exact (ho.apart h.m.a hne) b hb hm
  ·exact (ho.apart h.m.b hne) b hb hm
 have its : ∀ {s : Sl} {t : T}, RItemsQ (RdT [] wq) w s t → RItemsQ (RdT [] wq) w' s t := fun ⟨rows, h1, h2⟩ => by
  refine ⟨rows, h1.keep c (key h1 (by decide)), h2.1, fun i e u he hu => ?_⟩
  obtain ⟨a, sa, sk, e1, e2, e3⟩ := h2.2 i e u he hu
  exact ⟨a, sa, sk, e1, e2.keep c (key e2 (by decide)), e3⟩
 refine ⟨Chg.fresh h.ext c h.m.low, h.box.keep c fun hm => ?_, its h.ix, its h.iy, hm, hi, h.nx, h.ny⟩
 rcases List.mem_append.1 hm with hm | hm
 ·exact (h.m.a.other h.box (by decide)) hm
 ·exact (h.m.b.other h.box (by decide)) hm
theorem refWAdd {wq w : World} {g : Nat} {x y : T} {rx ry : Sl} {m : Nat} {sa sb : Sl} {fa fb : List Int} (h : WSt wq w g x y rx ry m sa sb fa fb) {i j : Nat} (hi : i < x.size) (hj : j < y.size) (h1 : fa.getD i 0 < 0) (h2 : fb.getD j 0 < 0) (hk : kinB (x.nd i).t (y.nd j).t) :
  Calls Try.prog 32 #[.pointer (some ⟨m, 0, none⟩), .int .i64 (i : Int), .int .i64 (j : Int)] w (Ret fun v w' => Chg (sa.blk ++ sb.blk) w w' ∧ v = .tuple #[] ∧ WSt wq w' g x y rx ry m sa sb (fa.set i (j : Int)) (fb.set j (i : Int))) :=
 Ret.mono (refAdd h.m (i := i) (j := j) (by rw [h.inv.la]; exact hi) (by rw [h.inv.lb]; exact hj)) fun v w' ⟨c, hv, hm⟩ => ⟨c, hv, h.put c hm (h.inv.add hi hj h1 h2 hk)⟩
theorem WSt.cells {wq w : World} {g : Nat} {x y : T} {rx ry : Sl} {m : Nat} {sa sb : Sl} {fa fb : List Int} (h : WSt wq w g x y rx ry m sa sb fa fb) : sa.n = x.size ∧ sb.n = y.size ∧ (∃ p, sa.a = some p ∧ ∀ i, i < x.size → w.cell? (p.add (i * 1)) = some (.int .i64 (fa.getD i 0))) ∧ (∃ p, sb.a = some p ∧ ∀ i, i < y.size → w.cell? (p.add (i * 1)) = some (.int .i64 (fb.getD i 0))) := by
 have la := h.inv.la
 have lb := h.inv.lb
 have n1 := h.m.a.len
 have n2 := h.m.b.len
 rw [List.length_map] at n1 n2
 have hpx := T.size_pos x
 have hpy := T.size_pos y
 obtain ⟨p, hp, _⟩ := h.m.a.row.zAt (k := 0) (by omega)
 obtain ⟨q, hq, _⟩ := h.m.b.row.zAt (k := 0) (by omega)
 refine ⟨by omega, by omega, ⟨p, hp, fun i hi => ?_⟩, ⟨q, hq, fun i hi => ?_⟩⟩
 ·obtain ⟨p', hp', hc⟩ := h.m.a.row.zAt (k := i) (by omega)
  rw [hp] at hp'; cases hp'; exact hc
 ·obtain ⟨p', hp', hc⟩ := h.m.b.row.zAt (k := i) (by omega)
  rw [hq] at hp'; cases hp'; exact hc
theorem refCommon {wq w : World} {g : Nat} {x y : T} {rx ry : Sl} {m : Nat} {sa sb : Sl} {fa fb : List Int} (h : WSt wq w g x y rx ry m sa sb fa fb) {i k : Nat} (hi : i < x.size) (hk : k < y.size) :
  Calls Try.prog 73 #[.pointer (some ⟨g, 0, none⟩), .int .i64 (i : Int), .int .i64 (k : Int)] w (Ret fun v w' => Ext w w' ∧ ∃ n : Nat, v = .int .i64 (n : Int) ∧ n ≤ 300) := by
 refine ref21_W_common.ok _ _ _ ?_
 unfold ref21_W_common.vc
 have nx := h.nx
 have ny := h.ny
 have hzi := x.zAt_end hi
 have hzk := y.zAt_end hk
 refine ⟨⟨by omega, by omega⟩, fun n j w' => ∃ (n' j' : Nat), n = (n' : Int) ∧ j = (j' : Int) ∧ n' ≤ j' ∧ j' ≤ i + x.zAt i ∧ Ext w w', fun _ j _ => i + x.zAt i - j.toNat, ⟨0, i + 1, rfl, by omega, by omega, by omega, Chg.refl _ _⟩, ?_⟩
 rintro _ _ w1 ⟨n, j, rfl, rfl, hnj, hj, hE⟩
 have h1 := h.next hE
 obtain ⟨hxn, px, hpx, hxc⟩ := h1.ix.at
 obtain ⟨hyn, py, hpy, hyc⟩ := h1.iy.at
 obtain ⟨san, sbn, ⟨pa, hpa, hac⟩, _⟩ := h1.cells
 obtain ⟨_, _, _, hxi, _⟩ := hxc i hi
 obtain ⟨_, _, _, hyk, _⟩ := hyc k hk
 refine ⟨rx, h1.box.cell 0 _ rfl, ⟨by omega, by omega⟩, px, hpx, (x.zAt i : Int), hxi 1 _ rfl, ⟨by omega, by omega⟩, fun hlt => ?_, fun hge => ⟨hE, n, rfl, by omega⟩⟩
 have hj' : j < x.size := by omega
 refine ⟨_, h1.box.cell 2 _ rfl, _, rfl, sa, h1.m.box.cell 0 _ rfl, ⟨by omega, by omega⟩, pa, hpa, fa.getD j 0, hac j hj', ry, fun _ => h1.box.cell 1 _ rfl, py, fun _ => ⟨⟨by omega, by omega⟩, hpy⟩, (y.zAt k : Int), fun _ => hyk 1 _ rfl, fun _ => ⟨by omega, by omega⟩, fun _ => ⟨⟨by omega, by omega⟩, ⟨by omega, by omega⟩, ⟨n + 1, j + 1, by omega, by omega, by omega, by omega, hE⟩, by dsimp only; omega⟩, fun _ => ⟨⟨by omega, by omega⟩, ⟨n, j + 1, rfl, by omega, by omega, by omega, hE⟩, by dsimp only; omega⟩⟩
def diceP (c s t : Int) : Int := (bif decide (s = 0) then 0 else c) * (bif decide (t = 0) then 1 else t)
def diceF (c s d t : Int) : Int := if diceP d t s < diceP c s t then 1 else if diceP c s t < diceP d t s then -1 else 0
theorem diceP_le {c s t : Int} (hc : 0 ≤ c ∧ c ≤ 1000) (ht : 0 ≤ t ∧ t ≤ 1000) : 0 ≤ diceP c s t ∧ diceP c s t ≤ 1000000 := by
 unfold diceP
 have h1 : 0 ≤ (bif decide (s = 0) then 0 else c) ∧ (bif decide (s = 0) then 0 else c) ≤ 1000 := by cases decide (s = 0) <;> simp <;> omega
 have h2 : 0 ≤ (bif decide (t = 0) then 1 else t) ∧ (bif decide (t = 0) then 1 else t) ≤ 1000 := by cases decide (t = 0) <;> simp <;> omega
 generalize (bif decide (s = 0) then 0 else c) = u at h1
 generalize (bif decide (t = 0) then 1 else t) = v at h2
 refine ⟨Int.mul_nonneg h1.1 h2.1, ?_⟩
 have := Int.mul_le_mul h1.2 h2.2 h2.1 (by omega : (0 : Int) ≤ 1000)
 omega
theorem refDice {w : World} {c s d t : Int} (hc : 0 ≤ c ∧ c ≤ 1000) (hs : 0 ≤ s ∧ s ≤ 1000) (hd : 0 ≤ d ∧ d ≤ 1000) (ht : 0 ≤ t ∧ t ≤ 1000) :
  Calls Try.prog 74 #[.int .i64 c, .int .i64 s, .int .i64 d, .int .i64 t] w (Ret fun v w' => Ext w w' ∧ v = .int .i64 (diceF c s d t)) := by
 refine ref19_Dice.ok _ _ _ _ ?_
 unfold ref19_Dice.vc
 have b1 := diceP_le (s := s) hc ht
 have b2 := diceP_le (s := t) hd hs
 have e1 : diceP c s t = (bif decide (s = 0) then 0 else c) * (bif decide (t = 0) then 1 else t) := rfl
 have e2 : diceP d t s = (bif decide (t = 0) then 0 else d) * (bif decide (s = 0) then 1 else s) := rfl
 rw [← e1, ← e2]
 refine ⟨⟨by omega, by omega⟩, ⟨by omega, by omega⟩, fun h => ⟨Chg.refl _ _, ?_⟩, fun h => ⟨⟨by omega, by omega⟩, ⟨by omega, by omega⟩, fun h' => ⟨Chg.refl _ _, ?_⟩, fun h' => ⟨Chg.refl _ _, ?_⟩⟩⟩
 ·unfold diceF; rw [if_pos h]
 ·unfold diceF; rw [if_neg h, if_pos h']
 ·unfold diceF; rw [if_neg h, if_neg h']
def BestOk (x y : T) (fb : List Int) (i : Nat) (b : Int) : Prop := b < 0 ∨ ∃ k : Nat, b = (k : Int) ∧ k < y.size ∧ fb.getD k 0 < 0 ∧ kinB (x.nd i).t (y.nd k).t
theorem refBest {wq w : World} {g : Nat} {x y : T} {rx ry : Sl} {m : Nat} {sa sb : Sl} {fa fb : List Int} (h : WSt wq w g x y rx ry m sa sb fa fb) {i : Nat} (hi : i < x.size) :
  Calls Try.prog 55 #[.pointer (some ⟨g, 0, none⟩), .int .i64 (i : Int)] w (Ret fun v w' => Ext w w' ∧ ∃ b c : Int, v = .tuple #[.int .i64 b, .int .i64 c] ∧ 0 ≤ c ∧ c ≤ 1000 ∧ BestOk x y fb i b) := by
 refine ref21_W_best.ok _ _ ?_
 unfold ref21_W_best.vc
 have nx := h.nx
 have ny := h.ny
 have hzi := x.zAt_end hi
 refine ⟨fun b c k w' => ∃ n : Nat, k = (n : Int) ∧ n ≤ y.size ∧ 0 ≤ c ∧ c ≤ 1000 ∧ BestOk x y fb i b ∧ Ext w w', fun _ _ k _ => y.size - k.toNat, ⟨0, rfl, by omega, by omega, by omega, .inl (by omega), Chg.refl _ _⟩, ?_⟩
 rintro b c _ w1 ⟨k, rfl, hk, hc0, hc1, hb, hE⟩
 have h1 := h.next hE
 have hyn := h1.iy.to.len
 refine ⟨ry, h1.box.cell 1 _ rfl, fun hlt w2 hE2 => ?_, fun hge => ⟨hE, b, c, rfl, hc0, hc1, hb⟩⟩
 have hk' : k < y.size := by omega
 have h2 := h1.next hE2
 obtain ⟨hxn, px, hpx, hxc⟩ := h2.ix.at
 obtain ⟨_, py, hpy, hyc⟩ := h2.iy.at
 obtain ⟨san, sbn, _, ⟨pb, hpb, hbc⟩⟩ := h2.cells
 obtain ⟨xa, _, _, hxi, _⟩ := hxc i hi
 obtain ⟨ya, _, _, hyk, _⟩ := hyc k hk'
 have hzk := y.zAt_end hk'
 refine ⟨_, h2.box.cell 2 _ rfl, _, rfl, sb, h2.m.box.cell 1 _ rfl, pb, ⟨⟨by omega, by omega⟩, hpb⟩, fb.getD k 0, hbc k hk', rx, fun _ => h2.box.cell 0 _ rfl, px, fun _ => ⟨⟨by omega, by omega⟩, hpx⟩, (x.nd i).t.kind, (x.nd i).t.name, (x.nd i).t.text, xa, Sl.nil, fun _ => Cells.take (Cells.drop hxi 5) 5, ry, fun _ => h2.box.cell 1 _ rfl, py, fun _ => ⟨⟨by omega, by omega⟩, hpy⟩, (y.nd k).t.kind, (y.nd k).t.name, (y.nd k).t.text, ya, Sl.nil, fun _ => Cells.take (Cells.drop hyk 5) 5, _, fun _ w' hE' => refKin, fun _ => ⟨⟨by omega, by omega⟩, fun w3 hE3 => ⟨⟨k + 1, by omega, by omega, hc0, hc1, hb, (hE.trans hE2).trans hE3⟩, by dsimp only; omega⟩⟩, fun hg w3 hE3 => ?_⟩
 obtain ⟨hg1, hg2⟩ := hg
 have hkin : kinB (x.nd i).t (y.nd k).t := by simpa [kinB] using hg2
 have h3 := h2.next hE3
 refine CallK.ext (refCommon h3 hi hk') ?_
 rintro v w4 hE4 ⟨n, rfl, hn⟩
 refine ⟨(n : Int), rfl, fun w5 hE5 => ?_⟩
 have h5 := (h3.next hE4).next hE5
 obtain ⟨_, px', hpx', hxc'⟩ := h5.ix.at
 obtain ⟨_, py', hpy', hyc'⟩ := h5.iy.at
 obtain ⟨_, _, _, hxi', _⟩ := hxc' i hi
 obtain ⟨_, _, _, hyk', _⟩ := hyc' k hk'
 obtain ⟨kb, hkb, hkb2⟩ : ∃ kb : Nat, kb < y.size ∧ (0 ≤ b → b = (kb : Int)) := by
  rcases hb with hb | ⟨kb, h1, h2, _⟩
  ·exact ⟨k, hk', fun h => by omega⟩
  ·exact ⟨kb, h2, fun _ => h1⟩
 obtain ⟨_, _, _, hyb, _⟩ := hyc' kb hkb
 have hzb := y.zAt_end hkb
 have hE05 := (((hE.trans hE2).trans hE3).trans hE4).trans hE5
 have ebt : ¬ b < 0 → b.toNat = kb := fun h => by have := hkb2 (by omega); omega
 refine ⟨rx, fun _ => h5.box.cell 0 _ rfl, px', fun _ => ⟨⟨by omega, by omega⟩, hpx'⟩, (x.zAt i : Int), fun _ => hxi' 1 _ rfl, ry, fun _ => h5.box.cell 1 _ rfl, py', fun _ => ⟨⟨by omega, by omega⟩, hpy'⟩, (y.zAt k : Int), fun _ => hyk' 1 _ rfl, fun _ => ⟨by omega, by omega⟩, fun _ => ⟨by omega, by omega⟩, rx, fun _ => h5.box.cell 0 _ rfl, px', fun _ => ⟨⟨by omega, by omega⟩, hpx'⟩, (x.zAt i : Int), fun _ => hxi' 1 _ rfl, ry, fun _ => h5.box.cell 1 _ rfl, py', fun hg => ⟨⟨by omega, by have := hkb2 (by omega); omega⟩, hpy'⟩, (y.zAt kb : Int), fun hg => by rw [ebt hg.2]; exact hyb 1 _ rfl, fun _ => ⟨by omega, by omega⟩, fun _ => ⟨by omega, by omega⟩, _, fun _ w' hE' => refDice (by omega) (by omega) ⟨hc0, hc1⟩ (by omega), ⟨by omega, by omega⟩, fun w6 hE6 => ⟨⟨k + 1, by omega, by omega, ?_, ?_, ?_, hE05.trans hE6⟩, by dsimp only; omega⟩⟩
 ·cases (decide (0 < (n : Int)) && (decide (b < 0) || decide (0 < diceF (n : Int) ((x.zAt i : Int) + (y.zAt k : Int) - 2) c ((x.zAt i : Int) + (y.zAt kb : Int) - 2)))) <;> simp <;> omega
 ·cases (decide (0 < (n : Int)) && (decide (b < 0) || decide (0 < diceF (n : Int) ((x.zAt i : Int) + (y.zAt k : Int) - 2) c ((x.zAt i : Int) + (y.zAt kb : Int) - 2)))) <;> simp <;> omega
 ·cases (decide (0 < (n : Int)) && (decide (b < 0) || decide (0 < diceF (n : Int) ((x.zAt i : Int) + (y.zAt k : Int) - 2) c ((x.zAt i : Int) + (y.zAt kb : Int) - 2))))
  ·exact hb
  ·exact .inr ⟨k, rfl, hk', by omega, hkin⟩
theorem refHalf {w : World} {c s : Int} (hc : 0 ≤ c ∧ c ≤ 1000) : Calls Try.prog 56 #[.int .i64 c, .int .i64 s] w (Ret fun v w' => Ext w w' ∧ v = .bool (decide (s < 4 * c))) := by
 refine ref19_Half.ok _ _ ?_
 unfold ref19_Half.vc
 exact ⟨⟨by omega, by omega⟩, Chg.refl _ _, rfl⟩
theorem refUp {wq w : World} {g : Nat} {x y : T} {rx ry : Sl} {m : Nat} {sa sb : Sl} {fa fb : List Int} (h : WSt wq w g x y rx ry m sa sb fa fb) (bx : x.bulk ≤ 400000000) (by_ : y.bulk ≤ 400000000) {i : Nat} (hi : i < x.size) :
  Calls Try.prog 31 #[.pointer (some ⟨g, 0, none⟩), .int .i64 (i : Int)] w (Ret fun v w' => Chg (sa.blk ++ sb.blk) w w' ∧ (v = .tuple #[] ∧ ∃ fa' fb' : List Int, WSt wq w' g x y rx ry m sa sb fa' fb')) := by
 refine ref21_W_up.ok _ _ ?_
 unfold ref21_W_up.vc
 have nx := h.nx
 have ny := h.ny
 have hzi := x.zAt_end hi
 obtain ⟨san, sbn, ⟨pa, hpa, hac⟩, _⟩ := h.cells
 refine ⟨_, h.box.cell 2 _ rfl, _, rfl, sa, h.m.box.cell 0 _ rfl, ⟨by omega, by omega⟩, pa, hpa, fa.getD i 0, hac i hi, fun _ => ⟨Chg.refl _ _, rfl, fa, fb, h⟩, fun hun => ?_⟩
 refine CallK.ext (refBest h hi) ?_
 rintro v w1 hE1 ⟨b, c, rfl, hc0, hc1, hb⟩
 refine ⟨b, c, rfl, fun w2 hE2 => ?_⟩
 have h2 := (h.next hE1).next hE2
 have hE02 := hE1.trans hE2
 obtain ⟨hxn, px, hpx, hxc⟩ := h2.ix.at
 obtain ⟨hyn, py, hpy, hyc⟩ := h2.iy.at
 obtain ⟨_, _, _, hxi, _⟩ := hxc i hi
 obtain ⟨kb, hkb, hkb2, hkb3⟩ : ∃ kb : Nat, kb < y.size ∧ (0 ≤ b → b = (kb : Int)) ∧ (0 ≤ b → fb.getD kb 0 < 0 ∧ kinB (x.nd i).t (y.nd kb).t) := by
  rcases hb with hb | ⟨kb, h1, h2, h3⟩
  ·exact ⟨0, T.size_pos y, fun h => by omega, fun h => by omega⟩
  ·exact ⟨kb, h2, fun _ => h1, fun _ => h3⟩
 obtain ⟨_, _, _, hyb, _⟩ := hyc kb hkb
 have hzb := y.zAt_end hkb
 have ebt : ¬ b < 0 → b.toNat = kb := fun h => by have := hkb2 (by omega); omega
 refine ⟨rx, fun _ => h2.box.cell 0 _ rfl, px, fun _ => ⟨⟨by omega, by omega⟩, hpx⟩, (x.zAt i : Int), fun _ => hxi 1 _ rfl, ry, fun _ => h2.box.cell 1 _ rfl, py, fun hg => ⟨⟨by omega, by have := hkb2 (by omega); omega⟩, hpy⟩, (y.zAt kb : Int), fun hg => by rw [ebt hg]; exact hyb 1 _ rfl, fun _ => ⟨by omega, by omega⟩, fun _ => ⟨by omega, by omega⟩, _, fun _ w' _ => refHalf ⟨hc0, hc1⟩, fun _ w3 hE3 => ⟨(hE02.trans hE3).mono (by simp), rfl, fa, fb, h2.next hE3⟩, fun hg w3 hE3 => ?_⟩
 obtain rfl := hkb2 (by omega)
 obtain ⟨hfb, hkin⟩ := hkb3 (by omega)
 have h3 := h2.next hE3
 have hE03 := hE02.trans hE3
 refine ⟨_, h3.box.cell 2 _ rfl, CallK.chg (refWAdd h3 hi hkb (by omega) hfb hkin) (by simp) ?_⟩
 rintro v w4 hC4 ⟨rfl, h4⟩
 have hC04 : Chg (sa.blk ++ sb.blk) w w4 := (hE03.mono (by simp)).trans hC4
 obtain ⟨_, px4, hpx4, hxc4⟩ := h4.ix.at
 obtain ⟨_, py4, hpy4, hyc4⟩ := h4.iy.at
 obtain ⟨_, _, _, hxi4, _⟩ := hxc4 i hi
 obtain ⟨_, _, _, hyb4, _⟩ := hyc4 kb hkb
 refine ⟨rfl, rx, h4.box.cell 0 _ rfl, ⟨by omega, by omega⟩, px4, hpx4, (x.zAt i : Int), hxi4 1 _ rfl, ry, fun _ => h4.box.cell 1 _ rfl, py4, fun _ => ⟨⟨by omega, by omega⟩, hpy4⟩, (y.zAt kb : Int), fun _ => hyb4 1 _ rfl, fun _ => ⟨hC04, rfl, _, _, h4⟩, fun hsm w5 hE5 => ?_⟩
 have h5 := h4.next hE5
 obtain ⟨_, px5, hpx5, hxc5⟩ := h5.ix.at
 obtain ⟨_, py5, hpy5, hyc5⟩ := h5.iy.at
 obtain ⟨_, xqa, xqk, hxi5, hxr5⟩ := hxc5 i hi
 obtain ⟨_, yqa, yqk, hyb5, hyr5⟩ := hyc5 kb hkb
 have e1 : (x.nd i).t.size = x.zAt i := rfl
 have e2 : (y.nd kb).t.size = y.zAt kb := rfl
 have q1 : (x.nd i).t.bulk ≤ x.bulk := T.flat_bulk x _ (List.mem_of_getElem? (x.flat_get hi))
 have q2 : (y.nd kb).t.bulk ≤ y.bulk := T.flat_bulk y _ (List.mem_of_getElem? (y.flat_get hkb))
 refine ⟨rx, h5.box.cell 0 _ rfl, px5, ⟨⟨by omega, by omega⟩, hpx5⟩, (x.nd i).t.kind, (x.nd i).t.name, (x.nd i).t.text, xqa, xqk, Cells.drop hxi5 10, ry, h5.box.cell 1 _ rfl, py5, ⟨⟨by omega, by omega⟩, hpy5⟩, (y.nd kb).t.kind, (y.nd kb).t.name, (y.nd kb).t.text, yqa, yqk, Cells.drop hyb5 10, fun _ l w' => ∃ ps : List (Int × Int), Own (List.range w5.heap.size) w' l 2 40 (ps.map pc) ∧ ps.length ≤ 1000 ∧ ∀ p ∈ ps, PairOk (x.nd i).t (y.nd kb).t p, fun _ l w' w'' hE ⟨ps, a1, a2, a3⟩ => ⟨ps, a1.ext hE, a2, a3⟩, fun w' hE' => ?_, ?_⟩
 ·refine Ret.mono (refWholeZ (hxr5.ext (h5.ext.trans hE')) (hyr5.ext (h5.ext.trans hE')) (by omega) (by omega) (by omega) (by omega)) ?_
  rintro v w'' ⟨a1, n, l, ps, rfl, a2, a3, a4⟩
  exact ⟨a1, n, l, rfl, ps, a2.less (fun q hq => by have := hE'.size; rw [List.mem_range] at hq ⊢; omega), a3, a4⟩
 rintro w6 _ l hE6 ⟨ps, hL, hpl, hok⟩
 have h6 := h5.next hE6
 have hln := hL.len
 rw [List.length_map] at hln
 have hC06 := (hC04.more hE5).more hE6
 have hblk : ∀ {w' : World} {fa' fb' : List Int}, WSt wq w' g x y rx ry m sa sb fa' fb' → ∀ {us : List (List Value)} {A : List Nat}, Own A w' l 2 40 us → ∀ q ∈ l.blk, q ∉ sa.blk ++ sb.blk := fun h _ _ ho q hq hm => by
  rcases List.mem_append.1 hm with hm | hm
  ·exact (ho.apart h.m.a (by decide)) q hq hm
  ·exact (ho.apart h.m.b (by decide)) q hq hm
 refine ⟨fun j w' => ∃ (n : Nat) (fa' fb' : List Int), j = (n : Int) ∧ n ≤ ps.length ∧ WSt wq w' g x y rx ry m sa sb fa' fb' ∧ Own (List.range w5.heap.size) w' l 2 40 (ps.map pc) ∧ Chg (sa.blk ++ sb.blk) w w', fun j _ => ps.length - j.toNat, ⟨0, _, _, rfl, by omega, h6, hL, hC06⟩, ?_⟩
 rintro _ w7 ⟨n, fa7, fb7, rfl, hn, h7, hL7, hC7⟩
 refine ⟨fun hlt w8 hE8 => ?_, fun hge => ⟨hC7, rfl, fa7, fb7, h7⟩⟩
 have hn' : n < ps.length := by omega
 have h8 := h7.next hE8
 have hL8 := hL7.ext hE8
 obtain ⟨p, hp, hpc⟩ := hL8.row.pairAt hn'
 obtain ⟨p1, p2, hpe, hp1, hp2, hpk⟩ := hok _ (getD_mem (d := (0, 0)) hn')
 rw [hpe] at hpc
 have hx1 : i + p1 < x.size := by omega
 have hy1 : kb + p2 < y.size := by omega
 have hkin2 : kinB (x.nd (i + p1)).t (y.nd (kb + p2)).t := by
  rw [x.nd_in hi (by omega), y.nd_in hkb (by omega)]; exact hpk
 obtain ⟨_, _, ⟨pa8, hpa8, hac8⟩, ⟨pb8, hpb8, hbc8⟩⟩ := h8.cells
 have et1 : ((i : Int) + (p1 : Int)).toNat = i + p1 := by omega
 have et2 : ((kb : Int) + (p2 : Int)).toNat = kb + p2 := by omega
 refine ⟨_, h8.box.cell 2 _ rfl, _, rfl, sa, h8.m.box.cell 0 _ rfl, p, ⟨⟨by omega, by omega⟩, hp⟩, (p1 : Int), hpc 0 _ rfl, ⟨by omega, by omega⟩, pa8, ⟨⟨by omega, by omega⟩, hpa8⟩, fa7.getD (i + p1) 0, by rw [et1]; exact hac8 _ hx1, _, fun _ => h8.box.cell 2 _ rfl, _, fun _ => rfl, sb, fun _ => h8.m.box.cell 1 _ rfl, p, fun _ => ⟨⟨by omega, by omega⟩, hp⟩, (p2 : Int), fun _ => hpc 1 _ rfl, fun _ => ⟨by omega, by omega⟩, pb8, fun _ => ⟨⟨by omega, by omega⟩, hpb8⟩, fb7.getD (kb + p2) 0, fun _ => by rw [et2]; exact hbc8 _ hy1, fun hgo w9 hE9 => ?_, fun _ => ⟨⟨by omega, by omega⟩, fun w9 hE9 => ⟨⟨n + 1, fa7, fb7, by omega, by omega, h8.next hE9, hL8.ext hE9, (hC7.more hE8).more hE9⟩, by dsimp only; omega⟩⟩⟩
 have h9 := h8.next hE9
 have hL9 := hL8.ext hE9
 have hpc9 := hpc.ext hE9
 refine ⟨_, h9.box.cell 2 _ rfl, p, ⟨⟨by omega, by omega⟩, hp⟩, (p1 : Int), hpc9 0 _ rfl, ⟨by omega, by omega⟩, p, ⟨⟨by omega, by omega⟩, hp⟩, (p2 : Int), hpc9 1 _ rfl, ⟨by omega, by omega⟩, fun w10 hE10 => ?_⟩
 have h10 := h9.next hE10
 have hL10 := hL9.ext hE10
 have hadd := refWAdd h10 hx1 hy1 hgo.1 hgo.2 hkin2
 rw [Int.natCast_add, Int.natCast_add] at hadd
 refine CallK.chg hadd (by simp) ?_
 rintro v w11 hC11 ⟨rfl, h11⟩
 exact ⟨rfl, ⟨by omega, by omega⟩, ⟨n + 1, _, _, by omega, by omega, h11, hL10.keep hC11 (hblk h10 hL10), (((hC7.more hE8).more hE9).more hE10).trans hC11⟩, by dsimp only; omega⟩
end
section
open Go.RowKit Go.MapKept
theorem refDown {wq w : World} {g : Nat} {x y : T} {rx ry : Sl} {m : Nat} {sa sb : Sl} {fa fb : List Int} (h : WSt wq w g x y rx ry m sa sb fa fb) :
  Calls Try.prog 33 #[.pointer (some ⟨g, 0, none⟩)] w (Ret fun v w' => Chg (sa.blk ++ sb.blk) w w' ∧ ∃ r : Bool, v = .bool r ∧ (r = false → WSt wq w' g x y rx ry m sa sb fa fb) ∧ (r = true → ∃ i j : Nat, i < x.size ∧ fa.getD i 0 < 0 ∧ WSt wq w' g x y rx ry m sa sb (fa.set i (j : Int)) (fb.set j (i : Int)))) := by
 refine ref21_W_down.ok _ ?_
 unfold ref21_W_down.vc
 have nx := h.nx
 have ny := h.ny
 refine ⟨fun i w' => ∃ n : Nat, i = (n : Int) ∧ n ≤ x.size ∧ Ext w w', fun i _ => x.size - i.toNat, ⟨0, rfl, by omega, Chg.refl _ _⟩, ?_⟩
 rintro _ w1 ⟨n, rfl, hn, hE1⟩
 have h1 := h.next hE1
 obtain ⟨hxn, _⟩ := h1.ix.at
 refine ⟨rx, h1.box.cell 0 _ rfl, fun hlt => ?_, fun hge => ⟨hE1.mono (by simp), false, rfl, fun _ => h1, fun h => (by cases h)⟩⟩
 have hn' : n < x.size := by omega
 obtain ⟨san, sbn, ⟨pa, hpa, hac⟩, _⟩ := h1.cells
 refine ⟨_, h1.box.cell 2 _ rfl, _, rfl, sa, h1.m.box.cell 0 _ rfl, ⟨by omega, by omega⟩, pa, hpa, fa.getD n 0, hac n hn', fun _ => ⟨⟨by omega, by omega⟩, ⟨n + 1, by omega, by omega, hE1⟩, by dsimp only; omega⟩, fun hm w2 hE2 => ?_⟩
 have h2 := h1.next hE2
 obtain ⟨jj, hjj⟩ : ∃ jj : Nat, fa.getD n 0 = (jj : Int) := ⟨(fa.getD n 0).toNat, by omega⟩
 obtain ⟨hjy, _, _⟩ := h.inv.ab n hn' jj hjj
 obtain ⟨_, _, ⟨pa2, hpa2, hac2⟩, _⟩ := h2.cells
 refine ⟨rx, h2.box.cell 0 _ rfl, fun s w' => Own (List.range w2.heap.size) w' s 1 3 ((x.kidsAt n).map nc), fun s w' w'' hE h => h.ext hE, fun w' hE => ?_, ry, h2.box.cell 1 _ rfl, _, h2.box.cell 2 _ rfl, _, rfl, sa, h2.m.box.cell 0 _ rfl, pa2, ⟨⟨by omega, by omega⟩, hpa2⟩, (jj : Int), by rw [← hjj]; exact hac2 n hn', fun s w' => Own (List.range w2.heap.size) w' s 1 3 ((y.kidsAt jj).map nc), fun s w' w'' hE h => h.ext hE, fun w' hE => ?_, ?_⟩
 ·refine Ret.mono (refKids (h2.next hE).ix.to (by omega) hn') ?_
  rintro v w'' ⟨a1, s, rfl, a2⟩
  exact ⟨a1, s, rfl, a2.less fun q hq => by have := hE.size; rw [List.mem_range] at hq ⊢; omega⟩
 ·refine Ret.mono (refKids (h2.next hE).iy.to (by omega) hjy) ?_
  rintro v w'' ⟨a1, s, rfl, a2⟩
  exact ⟨a1, s, rfl, a2.less fun q hq => by have := hE.size; rw [List.mem_range] at hq ⊢; omega⟩
 intro w3 sp sq hE3 hP hQ
 have hpn := hP.len
 have hqn := hQ.len
 rw [List.length_map] at hpn hqn
 have hkx := x.kidsAt_lt hn'
 have hky := y.kidsAt_lt hjy
 have hklx := T.kidsAt_len x hn'
 have hkly := T.kidsAt_len y hjy
 have hE03 := (hE1.trans hE2).trans hE3
 refine ⟨fun a w' => ∃ p : Nat, a = (p : Int) ∧ p ≤ (x.kidsAt n).length ∧ Ext w3 w', fun a _ => (x.kidsAt n).length - a.toNat, ⟨0, rfl, by omega, Chg.refl _ _⟩, ?_⟩
 rintro _ w4 ⟨p, rfl, hp, hE4⟩
 refine ⟨fun hlp => ?_, fun hgp => ⟨⟨by omega, by omega⟩, ⟨n + 1, by omega, by omega, hE03.trans hE4⟩, by dsimp only; omega⟩⟩
 have hp' : p < (x.kidsAt n).length := by omega
 refine ⟨fun b w' => ∃ q : Nat, b = (q : Int) ∧ q ≤ (y.kidsAt jj).length ∧ Ext w3 w', fun b _ => (y.kidsAt jj).length - b.toNat, ⟨0, rfl, by omega, hE4⟩, ?_⟩
 rintro _ w5 ⟨q, rfl, hq, hE5⟩
 refine ⟨fun hlq w6 hE6 => ?_, fun hgq => ⟨⟨by omega, by omega⟩, ⟨p + 1, by omega, by omega, hE5⟩, by dsimp only; omega⟩⟩
 have hq' : q < (y.kidsAt jj).length := by omega
 have hE36 := hE5.trans hE6
 have h6 := h.next (hE03.trans hE36)
 obtain ⟨pp, hpp, hppc⟩ := (hP.ext hE36).row.nAt hp'
 obtain ⟨pq, hpq, hpqc⟩ := (hQ.ext hE36).row.nAt hq'
 have hi := (hkx _ (getD_mem (d := 0) hp')).2
 have hj := (hky _ (getD_mem (d := 0) hq')).2
 have hcp : ∀ w', Ext w6 w' → w'.cell? (pp.add (p * 1)) = some (.int .i64 (((x.kidsAt n).getD p 0 : Nat) : Int)) := fun w' hE => hE.cell hppc
 have hcq : ∀ w', Ext w6 w' → w'.cell? (pq.add (q * 1)) = some (.int .i64 (((y.kidsAt jj).getD q 0 : Nat) : Int)) := fun w' hE => hE.cell hpqc
 generalize (x.kidsAt n).getD p 0 = i at hppc hi hcp
 generalize (y.kidsAt jj).getD q 0 = j at hpqc hj hcq
 obtain ⟨_, _, ⟨pa6, hpa6, hac6⟩, ⟨pb6, hpb6, hbc6⟩⟩ := h6.cells
 obtain ⟨hxn6, px, hpx, hxc⟩ := h6.ix.at
 obtain ⟨hyn6, py, hpy, hyc⟩ := h6.iy.at
 obtain ⟨xa, _, _, hxi, _⟩ := hxc i hi
 obtain ⟨ya, _, _, hyj, _⟩ := hyc j hj
 refine ⟨_, h6.box.cell 2 _ rfl, _, rfl, sa, h6.m.box.cell 0 _ rfl, pp, ⟨⟨by omega, by omega⟩, hpp⟩, (i : Int), hppc, pa6, ⟨⟨by omega, by omega⟩, hpa6⟩, fa.getD i 0, hac6 i hi, _, fun _ => h6.box.cell 2 _ rfl, _, fun _ => rfl, sb, fun _ => h6.m.box.cell 1 _ rfl, pq, fun _ => ⟨⟨by omega, by omega⟩, hpq⟩, (j : Int), fun _ => hpqc, pb6, fun _ => ⟨⟨by omega, by omega⟩, hpb6⟩, fb.getD j 0, fun _ => hbc6 j hj, rx, fun _ => h6.box.cell 0 _ rfl, pp, fun _ => ⟨⟨by omega, by omega⟩, hpp⟩, (i : Int), fun _ => hppc, px, fun _ => ⟨⟨by omega, by omega⟩, hpx⟩, (x.nd i).t.kind, (x.nd i).t.name, (x.nd i).t.text, xa, Sl.nil, fun _ => Cells.take (Cells.drop hxi 5) 5, ry, fun _ => h6.box.cell 1 _ rfl, pq, fun _ => ⟨⟨by omega, by omega⟩, hpq⟩, (j : Int), fun _ => hpqc, py, fun _ => ⟨⟨by omega, by omega⟩, hpy⟩, (y.nd j).t.kind, (y.nd j).t.name, (y.nd j).t.text, ya, Sl.nil, fun _ => Cells.take (Cells.drop hyj 5) 5, _, fun _ w' hE' => refKin, fun hg w7 hE7 => ?_, fun _ => ⟨⟨by omega, by omega⟩, fun w7 hE7 => ⟨⟨q + 1, by omega, by omega, hE36.trans hE7⟩, by dsimp only; omega⟩⟩⟩
 obtain ⟨⟨hg1, hg2⟩, hg3⟩ := hg
 have hkin : kinB (x.nd i).t (y.nd j).t := by simpa [kinB] using hg3
 have h7 := h6.next hE7
 refine ⟨_, h7.box.cell 2 _ rfl, pp, ⟨⟨by omega, by omega⟩, hpp⟩, (i : Int), hcp w7 hE7, pq, ⟨⟨by omega, by omega⟩, hpq⟩, (j : Int), hcq w7 hE7, fun w8 hE8 => ?_⟩
 have h8 := h7.next hE8
 refine CallK.chg (refWAdd h8 hi hj hg1 hg2 hkin) (by simp) ?_
 rintro v w9 hC9 ⟨rfl, h9⟩
 have hE08 := ((hE03.trans hE36).trans hE7).trans hE8
 exact ⟨rfl, (hE08.mono (by simp)).trans hC9, true, rfl, fun h => (by cases h), fun _ => ⟨i, j, hi, hg1, h9⟩⟩
def cntN (fa : List Int) : Nat → Nat
 |0 => 0
 |n + 1 => cntN fa n + if fa.getD n 0 < 0 then 1 else 0
theorem cntN_set (fa : List Int) (i : Nat) (v : Int) (hi : i < fa.length) (h0 : fa.getD i 0 < 0) (hv : 0 ≤ v) : ∀ n, (n ≤ i → cntN (fa.set i v) n = cntN fa n) ∧ (i < n → cntN (fa.set i v) n + 1 = cntN fa n)
 |0 => ⟨fun _ => rfl, fun h => by omega⟩
 |n + 1 => by
  obtain ⟨h1, h2⟩ := cntN_set fa i v hi h0 hv n
  rw [cntN, cntN, getD_setZ _ _ _ _ hi]
  refine ⟨fun h => ?_, fun h => ?_⟩
  ·rw [h1 (by omega), if_neg (by omega : ¬ n = i)]
  ·by_cases e : n = i
   ·rw [if_pos e, if_neg (by omega), h1 (by omega), e, if_pos h0]
   ·rw [if_neg e]
    have := h2 (by omega)
    omega
def negW (w : World) (p : Addr) : Nat → Nat
 |0 => 0
 |n + 1 => negW w p n + (match w.cell? (p.add (n * 1)) with
  |some (.int _ z) => if z < 0 then 1 else 0
  |_ => 0)
theorem negW_eq {w : World} {p : Addr} {fa : List Int} : ∀ n : Nat, (∀ i, i < n → w.cell? (p.add (i * 1)) = some (.int .i64 (fa.getD i 0))) → negW w p n = cntN fa n
 |0, _ => rfl
 |n + 1, h => by
  rw [negW, cntN, negW_eq n (fun i hi => h i (by omega)), h n (by omega)]
theorem refMatch {X : List Nat} {w : World} {a b : T} {qa ka qb kb : Sl} (ha : RdT X w a qa ka) (hb : RdT X w b qb kb) (na : a.bulk ≤ 400000000) (nb : b.bulk ≤ 400000000) (ca : a.check = true) (cb : b.check = true) :
  Calls Try.prog 10 #[tv a qa ka, tv b qb kb] w (Ret fun v w' => Ext w w' ∧ ∃ (l : Sl) (ps : List (Int × Int)), v = l.v ∧ Own (List.range w.heap.size) w' l 2 40 (ps.map pc) ∧ chkP a b ps = true ∧ ps.length ≤ 300) := by
 refine ref21_Match.ok _ _ _ _ _ _ _ _ _ _ ?_
 unfold ref21_Match.vc
 have sz : ∀ {t : T}, t.check = true → t.size ≤ 300 := fun h => by
  unfold T.check at h
  simp only [Bool.and_eq_true, decide_eq_true_eq] at h
  exact h.1.1.1.1.2
 have sxa := sz ca
 have sxb := sz cb
 have hpa := T.size_pos a
 have hpb := T.size_pos b
 intro w1 B1 B2 _ _ _ hE1
 refine CallK.exact (refCheck a (by omega) (ha.ext hE1)) fun w2 hE2 => ⟨_, rfl, _, fun _ => refCheck b (by omega) (hb.ext (hE1.trans hE2)), fun w3 hE3 => ?_⟩
 have hE03 := (hE1.trans hE2).trans hE3
 refine ⟨fun hbad => ?_, fun _ w4 hE4 => ?_⟩
 ·rw [ca, cb] at hbad
  rcases hbad with h | h <;> cases h
 have hE04 := hE03.trans hE4
 refine ⟨fun s w' => RItemsQ (RdT [] w4) w' s a, fun s w' w'' hE h => h.ext hE, fun w' hE => refFlatB na (ha.ext hE04) hE, fun s w' => RItemsQ (RdT [] w4) w' s b, fun s w' w'' hE h => h.ext hE, fun w' hE => refFlatB nb (hb.ext hE04) hE, fun r w' => ∃ (m : Nat) (sa sb : Sl) (fa fb : List Int), r = some ⟨m, 0, none⟩ ∧ MRd (List.range w4.heap.size) w' m sa sb fa fb ∧ MInv a b fa fb, fun r w' w'' hE ⟨m, sa, sb, fa, fb, h1, h2, h3⟩ => ⟨m, sa, sb, fa, fb, h1, h2.ext hE, h3⟩, fun w' hE => ?_, ?_⟩
 ·refine Ret.mono (refAlike (ha.ext (hE04.trans hE)) (hb.ext (hE04.trans hE)) na nb 2) ?_
  rintro v w'' ⟨h1, m, sa, sb, fa, fb, rfl, h2, h3⟩
  exact ⟨h1, _, rfl, m, sa, sb, fa, fb, rfl, h2.less (fun q hq => by have := hE.size; rw [List.mem_range] at hq ⊢; omega), h3⟩
 rintro w5 rx ry _ g hE5 hX hY ⟨m, sa, sb, fa0, fb0, rfl, hM, hI⟩ hg hbox
 have hE05 := hE04.trans hE5
 refine CallK.ext (refPost0 na (ha.ext hE05)) ?_
 rintro v w6 hE6 ⟨rp, rfl, hP⟩
 refine ⟨rp, rfl, fun hbox6 => ?_⟩
 have hS6 : WSt w4 w6 g a b rx ry m sa sb fa0 fb0 := ⟨hE5.trans hE6, hbox6, hX.ext hE6, hY.ext hE6, hM.ext hE6, hI, sxa, sxb⟩
 have hpn := hP.len
 obtain ⟨po1, po2, _⟩ := a.po_facts
 rw [List.length_map, po1] at hpn
 have hap : ∀ q ∈ rp.blk, q ∉ sa.blk ++ sb.blk := fun q hq hm => by
  have h1 := (hP.blk q hq).1
  rw [List.mem_range] at h1
  rcases List.mem_append.1 hm with hm | hm
  ·have := (hM.a.blk q hm).2; omega
  ·have := (hM.b.blk q hm).2; omega
 obtain ⟨_, _, ⟨pa, hpaa, _⟩, ⟨pb, hpbb, _⟩⟩ := hS6.cells
 have cA : ∀ {w' : World} {fa fb : List Int}, WSt w4 w' g a b rx ry m sa sb fa fb → ∀ i, i < a.size → w'.cell? (pa.add (i * 1)) = some (.int .i64 (fa.getD i 0)) := fun h i hi => by
  obtain ⟨_, _, ⟨p, hp, hc⟩, _⟩ := h.cells
  rw [hpaa] at hp; cases hp; exact hc i hi
 have cB : ∀ {w' : World} {fa fb : List Int}, WSt w4 w' g a b rx ry m sa sb fa fb → ∀ i, i < b.size → w'.cell? (pb.add (i * 1)) = some (.int .i64 (fb.getD i 0)) := fun h i hi => by
  obtain ⟨_, _, _, ⟨p, hp, hc⟩⟩ := h.cells
  rw [hpbb] at hp; cases hp; exact hc i hi
 have hsan : sa.n = a.size := hS6.cells.1
 have hsbn : sb.n = b.size := hS6.cells.2.1
 refine ⟨fun i w' => ∃ (n : Nat) (fa fb : List Int), i = (n : Int) ∧ n ≤ a.size ∧ WSt w4 w' g a b rx ry m sa sb fa fb ∧ Own (List.range w5.heap.size) w' rp 1 3 (a.po.map nc), fun i _ => a.size - i.toNat, ⟨0, _, _, rfl, by omega, hS6, hP⟩, ?_⟩
 rintro _ w7 ⟨n, fa, fb, rfl, hn, hS7, hP7⟩
 refine ⟨fun hlt => ?_, fun hge => ?_⟩
 ·have hn' : n < a.size := by omega
  obtain ⟨p, hp, hpc⟩ := hP7.row.nAt (k := n) (by omega)
  refine ⟨⟨by omega, by omega⟩, p, hp, _, hpc, CallK.chg (refUp hS7 na nb (po2 _ (getD_mem (by omega)))) (by simp) ?_⟩
  rintro v w8 hC8 ⟨rfl, fa8, fb8, hS8⟩
  exact ⟨rfl, ⟨by omega, by omega⟩, ⟨n + 1, fa8, fb8, by omega, by omega, hS8, hP7.keep hC8 hap⟩, by dsimp only; omega⟩
 obtain ⟨ka1, ka2, ka3⟩ := T.root_kind ca
 obtain ⟨kb1, kb2, kb3⟩ := T.root_kind cb
 refine ⟨_, hS7.box.cell 2 _ rfl, _, rfl, sa, hS7.m.box.cell 0 _ rfl, ⟨by omega, by omega⟩, pa, hpaa, fa.getD 0 0, cA hS7 0 (by omega), _, fun _ => hS7.box.cell 2 _ rfl, _, fun _ => rfl, sb, fun _ => hS7.m.box.cell 1 _ rfl, pb, fun _ => ⟨⟨by omega, by omega⟩, hpbb⟩, fb.getD 0 0, fun _ => cB hS7 0 (by omega), fun w' => ∃ fa fb : List Int, WSt w4 w' g a b rx ry m sa sb fa fb ∧ fa.getD 0 0 = 0, ⟨fun hno => ⟨_, hS7.box.cell 2 _ rfl, ?_⟩, fun hyes => ⟨fa, fb, hS7, ?_⟩⟩, ?_⟩
 ·have hk0 : kinB (a.nd 0).t (b.nd 0).t := by
   rw [T.nd_zero, T.nd_zero]
   exact ⟨by show a.kind = b.kind; omega, by show a.name = b.name; rw [ka2, kb2]⟩
  refine CallK.chg (refWAdd hS7 (i := 0) (j := 0) (by omega) (by omega) hno.1 hno.2 hk0) (by simp) ?_
  rintro v w8 hC8 ⟨rfl, hS8⟩
  refine ⟨rfl, _, _, hS8, ?_⟩
  rw [getD_setZ _ _ _ _ (by rw [hS7.inv.la]; omega), if_pos rfl]; rfl
 ·have kd : ∀ {t : T}, t.check = true → (t.nd 0).t.kind = 1 := fun h => by rw [T.nd_zero]; exact (T.root_kind h).1
  have main : ∀ j : Nat, fa.getD 0 0 = (j : Int) → fa.getD 0 0 = 0 := fun j hj => by
   obtain ⟨h1, h2, h3⟩ := hS7.inv.ab 0 (by omega) j hj
   rcases Nat.eq_zero_or_pos j with h | h
   ·omega
   ·exact absurd (h3.1.symm.trans (kd ca)) (kb3 j h h1)
  rcases hyes with h | h
  ·exact main (fa.getD 0 0).toNat (by omega)
  ·obtain ⟨i, hi⟩ : ∃ i : Nat, fb.getD 0 0 = (i : Int) := ⟨(fb.getD 0 0).toNat, by omega⟩
   obtain ⟨h1, h2⟩ := hS7.inv.ba 0 (by omega) i hi
   obtain ⟨_, _, h3⟩ := hS7.inv.ab i h1 0 (by omega)
   rcases Nat.eq_zero_or_pos i with h | h
   ·subst h; omega
   ·exact absurd (h3.1.trans (kd cb)) (ka3 i h h1)
 rintro w8 hw8
 refine ⟨fun w' => ∃ fa fb : List Int, WSt w4 w' g a b rx ry m sa sb fa fb ∧ fa.getD 0 0 = 0, fun w' => negW w' pa a.size, hw8, ?_⟩
 rintro w9 ⟨fa9, fb9, hS9, h09⟩
 have hc9 := negW_eq a.size (cA hS9)
 refine CallK.chg (refDown hS9) (by simp) ?_
 rintro v w10 hC10 ⟨r, rfl, hr0, hr1⟩
 refine ⟨r, rfl, fun hr => ?_, fun hr => ?_⟩
 ·obtain ⟨i, j, hi, hneg, hS10⟩ := hr1 hr
  have la := hS9.inv.la
  refine ⟨⟨_, _, hS10, ?_⟩, ?_⟩
  ·rw [getD_setZ _ _ _ _ (by omega), if_neg (fun e => by subst e; omega)]; exact h09
  ·have hc10 := negW_eq a.size (cA hS10)
   have := (cntN_set fa9 i (j : Int) (by omega) hneg (by omega) a.size).2 hi
   dsimp only
   omega
 ·have hS10 := hr0 hr
  have la := hS10.inv.la
  refine ⟨_, hS10.box.cell 2 _ rfl, CallK.ext (refPairs hS10.m (by omega)) ?_⟩
  rintro v w11 hE11 ⟨l, rfl, hL⟩
  rw [la] at hL
  have hE0 : Ext w w11 := hE04.trans (hS10.next hE11).ext
  have hE010 : Ext w w10 := hE04.trans hS10.ext
  refine ⟨l, rfl, hE0, l, prs fa9 a.size, rfl, hL.less fun q hq => ?_, chkP_prs ca cb hS10.inv h09, ?_⟩
  ·have := hE010.size; rw [List.mem_range] at hq ⊢; omega
  ·unfold prs
   refine Nat.le_trans (List.length_filterMap_le _ _) ?_
   simp; omega
end
section
open Go.RowKit Go.MapKept
theorem nurW {A A' : List Nat} {w : World} {s : Sl} {ts : List T} (h : Nur A w s ts) (hA : ∀ b ∈ A', b ∈ A ∨ w.heap.size ≤ b) : Nur A' w s ts := by
 obtain ⟨ps, hl, ho, hr⟩ := h
 refine ⟨ps, hl, ho.avoid fun b hb hm => ?_, fun i t p ht hp => RdT.wide (hr i t p ht hp) fun b hb => ?_⟩
 ·have h2 := ho.blk b hb
  rcases hA b hm with h3 | h3
  ·exact h2.1 h3
  ·omega
 ·rcases List.mem_append.1 hb with hb | hb
  ·exact .inl (List.mem_append_left _ hb)
  ·exact (hA b hb).imp_left fun h => List.mem_append_right _ h
theorem RdT.next {A : List Nat} {w w' : World} {t : T} {sa sk s s' : Sl} (h : RdT (s.blk ++ A) w t sa sk) (hc : Chg s.own w w') (hb : ∀ b ∈ s'.blk, b ∈ s.blk ∨ w.heap.size ≤ b) : RdT (s'.blk ++ A) w' t sa sk := by
 have h1 : RdT (s'.blk ++ (s.blk ++ A)) w t sa sk := h.wide fun b hm => by
  rcases List.mem_append.1 hm with hm | hm
  ·exact (hb b hm).imp_left fun h => List.mem_append_left _ h
  ·exact .inl hm
 refine (h1.chg hc fun b hm => List.mem_append_right _ (List.mem_append_left _ (Sl.own_blk hm))).less fun b hm => ?_
 rcases List.mem_append.1 hm with hm | hm
 ·exact List.mem_append_left _ hm
 ·exact List.mem_append_right _ (List.mem_append_right _ hm)
theorem ones_zip : ∀ (us : List T) (qs : List (Sl × Sl)), ∀ v ∈ (List.zipWith tc us qs).flatten, v.oneCell' = true
 |[], _, v, h => by simp at h
 |_ :: _, [], v, h => by simp at h
 |u :: us, q :: qs, v, h => by
  rw [List.zipWith_cons_cons, List.flatten_cons] at h
  rcases List.mem_append.1 h with h | h
  ·exact ones_tc u q v (by simpa using h)
  ·exact ones_zip us qs v h
theorem Nur.appR {A bx : List Nat} {w : World} {s x : Sl} {ts us : List T} {qs : List (Sl × Sl)} {ty : TypeId} {K : Value → World → Prop} (h : Nur A w s ts) (hA : ∀ b ∈ A, b < w.heap.size) (hx : Row [] w x 5 (List.zipWith tc us qs)) (hq : qs.length = us.length) (h0 : us ≠ [])
  (hu : ∀ (i : Nat) (u : T) (p : Sl × Sl), us[i]? = some u → qs[i]? = some p → RdT (s.blk ++ A) w u p.1 p.2) (hl : ts.length + us.length ≤ 1000000000) (hbx : ∀ b ∈ bx, b ∈ A)
  (k : ∀ s' w', Nur A w' s' (ts ++ us) → Chg s.own w w' → (∀ b ∈ s'.blk, b ∈ s.own ∨ w.heap.size ≤ b) → K s'.v w') :
  RunK Try.prog (Builtin.append_ #[24, 24] ty #[s.v, x.v]) w bx K := by
 have hn := h.own.1
 obtain ⟨ps, hpl, ho, hr⟩ := h
 have hz : (List.zipWith tc us qs).length = us.length := by simp [hq]
 refine App.runK Try.underlying24 ti_26 rfl (by decide) (.inl ho) hA hx (ones_zip us qs) (fun e => h0 (List.eq_nil_of_length_eq_zero (by rw [← hz, e]; rfl))) (by simp only [maxLen]; omega) (by omega) hbx fun s' w' ho' hc hb => k s' w' ?_ hc hb
 have hb' : ∀ b ∈ s'.blk, b ∈ s.blk ∨ w.heap.size ≤ b := fun b hm => (hb b hm).imp_left Sl.own_blk
 refine ⟨ps ++ qs, by simp [hpl, hq], ?_, fun i t p ht hp => ?_⟩
 ·rw [List.zipWith_append (by omega)]; exact ho'
 ·by_cases hi : i < ts.length
  ·rw [List.getElem?_append_left hi] at ht
   rw [List.getElem?_append_left (by omega)] at hp
   exact RdT.next (hr i t p ht hp) hc hb'
  ·rw [List.getElem?_append_right (by omega)] at ht hp
   rw [hpl] at hp
   exact RdT.next (hu _ t p ht hp) hc hb'
theorem Nur.lit {A : List Nat} {w : World} {B : Nat} {u : T} {p : Sl × Sl} (h : Box w B 26 (tc u p)) (hA : B ∉ A) (hu : RdT (B :: A) w u p.1 p.2) : Nur A w ⟨some ⟨B, 0, none⟩, 1, 1⟩ [u] := by
 refine ⟨[p], rfl, Own.one h hA, fun i t q ht hq => ?_⟩
 cases i with
 |zero =>
  simp at ht hq
  subst ht; subst hq
  exact hu.less fun b hb => by simpa [Sl.blk] using hb
 |succ i => simp at ht
theorem Nur.front {A bx : List Nat} {w : World} {s c : Sl} {ts us : List T} {ty : TypeId} {K : Value → World → Prop} (h : Nur A w s ts) (hA : ∀ b ∈ A, b < w.heap.size) (hc : Nur (s.blk ++ A) w c us) (hl : ts.length + us.length ≤ 1000000000) (hbx : ∀ b ∈ bx, b ∈ A)
  (k : ∀ s' w', Nur A w' s' (ts ++ us) → Chg s.own w w' → (∀ b ∈ s'.blk, b ∈ s.blk ∨ w.heap.size ≤ b) → K s'.v w') :
  RunK Try.prog (Builtin.append_ #[24, 24] ty #[s.v, c.v]) w bx K := by
 by_cases h0 : us = []
 ·subst h0
  have hn := hc.own.1
  have e := append_none (P := Try.prog) (w := w) (s := s) (x := c) (t := 24) (ty := ty) Try.underlying24 ti_26 h.own.2.1 hn
  exact ⟨_, _, e, fun _ _ _ => rfl, Nat.le_refl _, k s w (by rw [List.append_nil]; exact h) (Chg.refl _ _) (fun b hb => .inl hb)⟩
 ·obtain ⟨qs, hq, ho, hr⟩ := hc
  exact h.appR hA (ho.row.less (by simp)) hq h0 (fun i u p hu hp => (hr i u p hu hp).less fun b hb => List.mem_append_right _ hb) hl hbx fun s' w' h1 h2 h3 => k s' w' h1 h2 fun b hb => (h3 b hb).imp_left Sl.own_blk
theorem sum_take_succ (f : T → Nat) {l : List T} {k : Nat} (h : k < l.length) : ((l.take (k + 1)).map f).sum = ((l.take k).map f).sum + f (l.getD k T.nul) := by
 rw [take_snoc l T.nul h]; simp
theorem tsum_take_le (f : T → Nat) (l : List T) (k : Nat) : ((l.take k).map f).sum ≤ (l.map f).sum := by
 have h := congrArg (fun l => (l.map f).sum) (List.take_append_drop k l)
 simp only [List.map_append, List.sum_append] at h
 omega
theorem bulk_node (k : Int) (n x : Str) (ats : List (Str × Str)) (ks : List T) : (T.node k n x ats ks).bulk = 1 + n.length + x.length + (ats.map T.abulk).sum + (ks.map T.bulk).sum := T.bulk_eq _
theorem lawTurned1 {A : List Nat} {l : Sl} {zs : List Int} {Ba : Nat} (hBA : Ba ∈ A) : ∀ t : T, t.bulk ≤ 400000000 → ∀ {w : World} {sa sk : Sl} (x : Nat) (deep : Int), 0 ≤ deep → deep + t.size ≤ 1000000000 → x + 2 * t.size ≤ 1000000000 → RdT A w t sa sk → Row A w l 1 (zs.map ic) → Box w Ba 3 [.int .i64 (x : Int)] →
  Calls Try.prog 27 #[tv t sa sk, l.v, .pointer (some ⟨Ba, 0, none⟩), .int .i64 deep] w (Ret fun v w' => Chg [Ba] w w' ∧ ∃ (u : T) (su sv : Sl) (x' : Nat), v = tv u su sv ∧ RdT (List.range w.heap.size) w' u su sv ∧ Box w' Ba 3 [.int .i64 (x' : Int)] ∧ x' + 1 ≤ x + 2 * t.size ∧ u.bulk + 4 ≤ t.bulk + 8 * t.size) := T.ind' fun t ih hb w sa sk x deep hd0 hd hx h hl hBa => by
 refine law00_turned.ok _ _ _ _ _ _ _ _ ?_
 unfold law00_turned.vc
 have hlBa := hBa.lt
 have hn := h.nkids
 have hcp := h.caps
 have hkl := T.kids_len t
 have hsz := T.size_eq t
 have hbk := T.bulk_eq t
 have hla : t.attrs.length ≤ 1099511627776 := by have := T.slots_bulk t; have := T.slots_eq t; omega
 intro w25 B5 B13 hN5 hN13 hne5 hE25
 have g5 := hN5.ge
 have g13 := hN13.ge
 have l5 := hN5.lt
 have l13 := hN13.lt
 have s25 := hE25.size
 refine ⟨fun r w' => Own (List.range w25.heap.size) w' r 2 47 (t.attrs.map ac), fun r w' w'' hE h => h.ext hE, fun w' hE => ?_, ?_⟩
 ·refine Ret.mono (lawAttrs ((h.ext (hE25.trans hE)).attrs) hla) ?_
  rintro v w'' ⟨h1, s, h2, h3⟩
  exact ⟨h1, s, h2, h3.less fun b hb => List.mem_range.2 (Nat.lt_of_lt_of_le (List.mem_range.1 hb) hE.size)⟩
 intro w54 X0 B48 hE54 hV g48 hbox48 w72 hC72
 have s54 := hE54.size
 have l48 := hbox48.lt
 have s72 := hC72.size
 have hE025 : Ext w w54 := hE25.trans hE54
 have hEw72 : Ext w w72 := Chg.fresh hE025 hC72 (by simp; omega)
 have hV72 : Own (B48 :: List.range w25.heap.size) w72 X0 2 47 (t.attrs.map ac) := (hV.cons (hV.other hbox48 (by decide))).chg hC72 (by simp)
 refine CallK.chg (lawNext (hl.ext hEw72) hBA (hBa.ext hEw72) (by omega)) (by simp; omega) ?_
 rintro v w86 hC86 ⟨r, x1, rfl, hr, hx1, hBa86⟩
 have s86 := hC86.size
 have hCw86 : Chg [Ba] w w86 := (Chg.ext hEw72).trans hC86
 refine ⟨(r : Int), rfl, ?_⟩
 have q9 : ((r : Int)).tdiv 9 = ((r / 9 : Nat) : Int) := rfl
 have q3 : (((r / 9 : Nat) : Int)).tmod 3 = ((r / 9 % 3 : Nat) : Int) := rfl
 rw [q9, q3]
 have hj3 : r / 9 % 3 < 3 := Nat.mod_lt _ (by decide)
 have hj9 : r / 9 ≤ r := Nat.div_le_self _ _
 generalize r / 9 % 3 = j at hj3
 have hBaA : Ba ∈ B48 :: List.range w25.heap.size := List.mem_cons_of_mem _ (List.mem_range.2 (by omega))
 have hV86 : Own (B48 :: List.range w25.heap.size) w86 X0 2 47 (t.attrs.map ac) := hV72.chg hC86 (by simpa using (List.mem_cons.1 hBaA))
 refine ⟨fun tx X w' => ∃ (ats : List (Str × Str)) (x1 : Nat), RdT (B48 :: List.range w25.heap.size) w' (.node t.kind t.name tx ats []) X Sl.nil ∧ Box w' Ba 3 [.int .i64 (x1 : Int)] ∧ x1 ≤ x + 1 ∧ Chg [Ba] w w' ∧ w54.heap.size ≤ w'.heap.size ∧ tx.length + (ats.map T.abulk).sum ≤ t.text.length + (t.attrs.map T.abulk).sum + 3, ⟨fun _ => ?_, fun _ => ⟨fun _ => ?_, fun _ => ⟨fun _ => ?_, fun _ => ?_⟩⟩⟩, ?_⟩
 ·refine ⟨⟨by omega, by omega⟩, ⟨by omega, by omega⟩, ⟨by omega, by omega⟩, ⟨by omega, by omega, by simp; omega⟩, fun w' hC' => ⟨t.attrs, x1, .mk [] (hV86.chg hC' (by simp)).row rfl (Row.nil _ _ _) (by simp), hBa86.keep hC' (by simp; omega), hx1, hCw86.more' hC' (by simp; omega), by have := hC'.size; omega, ?_⟩⟩
  have : (List.take (((j : Int) + 1).toNat - (j : Int).toNat) (List.drop (j : Int).toNat ([103, 104, 105] : Str))).length ≤ ((j : Int) + 1).toNat - (j : Int).toNat := List.length_take_le _ _
  omega
 ·intro w' B255 hN255 hC' hbox255
  have g255 := hN255.ge
  refine ⟨[([120], [119])], x1, .mk [] ?_ rfl (Row.nil _ _ _) (by simp), hBa86.keep hC' (by simp; omega), hx1, hCw86.more' hC' (by simp; omega), by have := hC'.size; omega, by simp [T.abulk]⟩
  exact (Own.one (A := B48 :: List.range w25.heap.size) hbox255 (by simp; omega)).row
 ·intro w' hC'
  exact ⟨[], x1, .mk [] (Row.nil _ _ _) rfl (Row.nil _ _ _) (by simp), hBa86.keep hC' (by simp; omega), hx1, hCw86.more' hC' (by simp; omega), by have := hC'.size; omega, by simp; omega⟩
 ·exact ⟨t.attrs, x1, .mk [] hV86.row rfl (Row.nil _ _ _) (by simp), hBa86, hx1, hCw86, by omega, by omega⟩
 rintro tx X w198 ⟨ats, x1, hX, hBa198, hx1, hC198, s198, hown⟩
 refine ⟨fun i c w' => ∃ (k : Nat) (us : List T) (x' : Nat), i = (k : Int) ∧ k ≤ t.kids.length ∧ us.length ≤ 2 * k ∧ (us.map T.bulk).sum ≤ ((t.kids.take k).map T.bulk).sum + 8 * ((t.kids.take k).map T.size).sum ∧ Nur (B48 :: List.range w25.heap.size) w' c us ∧ RdT (c.blk ++ (B48 :: List.range w25.heap.size)) w' (.node t.kind t.name tx ats []) X Sl.nil ∧ Box w' Ba 3 [.int .i64 (x' : Int)] ∧ x' ≤ x + 1 + 2 * ((t.kids.take k).map T.size).sum ∧ Chg [Ba] w w' ∧ w54.heap.size ≤ w'.heap.size, fun i _ _ => t.kids.length - i.toNat, ⟨0, [], x1, rfl, by omega, by simp, by simp, Nur.nil _ _, by simpa [Sl.blk, Sl.nil] using hX, hBa198, by simp; omega, hC198, s198⟩, ?_⟩
 rintro _ c w2 ⟨k, us, x2, rfl, hk, hul, hub, hNu, hX2, hBa2, hx2, hC2, s2⟩
 have hcb : ∀ b ∈ c.blk, w25.heap.size ≤ b ∧ b < w2.heap.size := fun b hb => by
  have h1 := hNu.own.2.2.2 b hb
  simp at h1; omega
 have hsk := tsum_take_le T.size t.kids k
 refine ⟨fun hi => ?_, fun hi w' hC' => ?_⟩
 ·have hk' : k < t.kids.length := by omega
  have hm := getD_mem (d := T.nul) hk'
  have hsk1 := tsum_take_le T.size t.kids (k + 1)
  rw [sum_take_succ T.size hk'] at hsk1
  refine CallK.chg (lawNext (hl.chg hC2 (by simpa using hBA)) hBA hBa2 (by omega)) (by simp; omega) ?_
  rintro v w3 hC3 ⟨r2, x3, rfl, hr2, hx3, hBa3⟩
  have hCw3 := hC2.trans hC3
  have s3 := hC3.size
  obtain ⟨p, sau, sku, hp, _, hc, hru⟩ := (h.chg hCw3 (by simpa using hBA)).kid hk'
  refine ⟨(r2 : Int), rfl, ⟨by omega, hi⟩, p, hp, _, _, _, sau, sku, by rw [Int.toNat_natCast]; exact hc, ⟨by omega, by omega⟩, ?_⟩
  generalize hkd : t.kids.getD k T.nul = kd at hc hru hm hsk1
  have hkb := T.kid_bulk hm
  refine CallK.chg (ih kd hm (by omega) x3 (deep + 1) (by omega) (by omega) (by omega) hru (hl.chg hCw3 (by simpa using hBA)) hBa3) (by simp; omega) ?_
  rintro v w4 hC4 ⟨u, su, sv, x4, rfl, hu, hBa4, hx4, hub4⟩
  refine ⟨_, _, _, su, sv, rfl, ?_⟩
  have hCw4 := hCw3.trans hC4
  have s4 := hC4.size
  have hF : ∀ b ∈ [Ba], b ∈ B48 :: List.range w25.heap.size := by simpa using (List.mem_cons.1 hBaA)
  have hNu4 : Nur (B48 :: List.range w25.heap.size) w4 c us := (hNu.chg hC3 hF).chg hC4 hF
  have hX4 : RdT (c.blk ++ (B48 :: List.range w25.heap.size)) w4 (.node t.kind t.name tx ats []) X Sl.nil := (hX2.chg hC3 fun b hb => List.mem_append_right _ (hF b hb)).chg hC4 fun b hb => List.mem_append_right _ (hF b hb)
  have hA4 : ∀ b ∈ B48 :: List.range w25.heap.size, b < w3.heap.size := fun b hb => by
   rcases List.mem_cons.1 hb with rfl | hb
   ·omega
   ·have := List.mem_range.1 hb; omega
  have hu4 : RdT (c.blk ++ (B48 :: List.range w25.heap.size)) w4 u su sv := hu.less fun b hb => List.mem_range.2 (by
   rcases List.mem_append.1 hb with hb | hb
   ·have := (hcb b hb).2; omega
   ·exact hA4 b hb)
  have fin : ∀ (us' : List T) (s' : Sl) (w7 w8 w9 : World) (F : List Nat), us'.length ≤ us.length + 2 → (us'.map T.bulk).sum ≤ (us.map T.bulk).sum + kd.bulk + 8 * kd.size → Ext w4 w7 → Chg F w7 w8 → (∀ b ∈ F, w25.heap.size ≤ b) → Nur (B48 :: List.range w25.heap.size) w8 s' us' → RdT (s'.blk ++ (B48 :: List.range w25.heap.size)) w8 (.node t.kind t.name tx ats []) X Sl.nil → Chg [B48] w8 w9 →
    (∃ (k' : Nat) (us : List T) (x' : Nat), (k : Int) + 1 = (k' : Int) ∧ k' ≤ t.kids.length ∧ us.length ≤ 2 * k' ∧ (us.map T.bulk).sum ≤ ((t.kids.take k').map T.bulk).sum + 8 * ((t.kids.take k').map T.size).sum ∧ Nur (B48 :: List.range w25.heap.size) w9 s' us ∧ RdT (s'.blk ++ (B48 :: List.range w25.heap.size)) w9 (.node t.kind t.name tx ats []) X Sl.nil ∧ Box w9 Ba 3 [.int .i64 (x' : Int)] ∧ x' ≤ x + 1 + 2 * ((t.kids.take k').map T.size).sum ∧ Chg [Ba] w w9 ∧ w54.heap.size ≤ w9.heap.size) ∧ t.kids.length - ((k : Int) + 1).toNat < t.kids.length - (k : Int).toNat := by
   intro us' s' w7 w8 w9 F e1 e2 e3 e4 e5 e6 e7 e8
   have z1 := e3.size
   have z2 := e4.size
   have z3 := e8.size
   refine ⟨⟨k + 1, us', x4, by omega, by omega, by omega, ?_, e6.chg e8 (by simp), e7.chg e8 (by simp), ?_, ?_, ?_, by omega⟩, by omega⟩
   ·rw [sum_take_succ T.bulk hk', sum_take_succ T.size hk', hkd]; omega
   ·exact ((hBa4.ext e3).keep e4 fun hm => by have := e5 _ hm; omega).keep e8 (by simp; omega)
   ·rw [sum_take_succ T.size hk', hkd]; omega
   ·exact ((hCw4.more' e3 (by simp)).more' e4 fun b hb => .inr (by have := e5 b hb; omega)).more' e8 (by simp; omega)
  have hI : I64 ((k : Int) + 1) := ⟨by omega, by omega⟩
  have hcl : c.n = us.length := hNu.own.1
  have hdrop : ∀ {w7 w8 w9 : World} {s' : Sl} {us' : List T} {B1 : Nat} {o : Sl}, us'.length ≤ us.length + 2 → (us'.map T.bulk).sum ≤ (us.map T.bulk).sum + kd.bulk + 8 * kd.size → Ext w4 w7 → RdT (o.blk ++ (B48 :: List.range w25.heap.size)) w7 (.node t.kind t.name tx ats []) X Sl.nil → (∀ b ∈ o.blk, w25.heap.size ≤ b) → Nur (B1 :: B48 :: List.range w25.heap.size) w8 s' us' → Chg o.own w7 w8 → (∀ b ∈ s'.blk, b ∈ o.blk ∨ w7.heap.size ≤ b) → Chg [B48] w8 w9 → _ :=
   fun {w7 w8 w9 s' us' B1 o} e1 e2 e3 hX7 ho hN8 hC8 hb8 hC9 => fin us' s' w7 w8 w9 o.own e1 e2 e3 hC8 (fun b hb => ho b (Sl.own_blk hb)) (hN8.less fun b hb => List.mem_cons_of_mem _ hb) (hX7.next hC8 hb8) hC9
  have hA8 : ∀ {w7 : World} {B1 : Nat}, New w4 B1 w7 → w4.heap.size ≤ w7.heap.size → ∀ b ∈ B1 :: B48 :: List.range w25.heap.size, b < w7.heap.size := fun h1 h2 b hb => by
   rcases List.mem_cons.1 hb with rfl | hb
   ·exact h1.lt
   ·have := hA4 b hb; omega
  have hW1 : ∀ {w7 : World} {B1 : Nat} (L : List Nat), New w4 B1 w7 → ∀ b ∈ L ++ (B1 :: B48 :: List.range w25.heap.size), b ∈ L ++ (B48 :: List.range w25.heap.size) ∨ w4.heap.size ≤ b := fun L h1 b hb => by
   rcases List.mem_append.1 hb with hb | hb
   ·exact .inl (List.mem_append_left _ hb)
   rcases List.mem_cons.1 hb with rfl | hb
   ·exact .inr h1.ge
   ·exact .inl (List.mem_append_right _ hb)
  have hWn : ∀ {w7 : World} {B1 : Nat}, New w4 B1 w7 → Ext w4 w7 → Nur (B1 :: B48 :: List.range w25.heap.size) w7 c us := fun h1 h2 => (nurW hNu4 (hW1 [] h1)).ext h2
  have hWu : ∀ {w7 : World} {B1 : Nat}, New w4 B1 w7 → Ext w4 w7 → RdT (c.blk ++ (B1 :: B48 :: List.range w25.heap.size)) w7 u su sv := fun h1 h2 => (hu4.wide (hW1 _ h1)).ext h2
  have hbxs : ∀ B1 : Nat, ∀ b ∈ [B5, B13, B48, B1], b ∈ B1 :: B48 :: List.range w25.heap.size := fun B1 b hb => by
   simp only [List.mem_cons, List.not_mem_nil, or_false] at hb
   rcases hb with rfl | rfl | rfl | rfl
   ·exact List.mem_cons_of_mem _ (List.mem_cons_of_mem _ (List.mem_range.2 l5))
   ·exact List.mem_cons_of_mem _ (List.mem_cons_of_mem _ (List.mem_range.2 l13))
   ·simp
   ·simp
  have hu7 : ∀ {w7 : World} {L : List Nat}, Ext w4 w7 → True → (∀ b ∈ L, b < w3.heap.size ∨ w4.heap.size ≤ b) → RdT L w7 u su sv := fun h1 _ h2 => (hu.wide fun b hb => (h2 b hb).imp_left fun h => List.mem_range.2 h).ext h1
  refine ⟨fun _ => ⟨hI, fun w7 B1 hN1 hE7 => ?_⟩, fun _ => ⟨fun _ w7 B1 B2 hN1 hN2 _ hE7 hbx2 => ?_, fun _ => ⟨fun _ w7 B1 B2 hN1 hN2 hne hE7 hbx2 => ?_, fun _ => ⟨fun _ => ⟨fun _ w7 B1 B2 B3 hN1 hN2 hN3 h12 h13 h23 hE7 hbx2 hbx3 => ?_, fun _ w7 B1 B2 hN1 hN2 _ hE7 hbx2 => ?_⟩, fun _ w7 B1 B2 hN1 hN2 _ hE7 hbx2 => ?_⟩⟩⟩⟩
  ·exact fin us c w7 w7 w7 [] (by omega) (by omega) hE7 (Chg.refl _ _) (by simp) (hNu4.ext hE7) (hX4.ext hE7) (Chg.refl _ _)
  ·have z := hE7.size
   have hA7 := hA8 hN1 z
   refine (hWn hN1 hE7).appR (us := [.node 3 [] [110, 101, 119] [] [], u]) (qs := [(Sl.nil, Sl.nil), (su, sv)]) hA7 (Own.many (A := []) (us := [tc (.node 3 [] [110, 101, 119] [] []) (Sl.nil, Sl.nil), tc u (su, sv)]) hbx2 (by simp [tc]) (by simp [maxLen]) (by simp)).row rfl (by simp) (fun i v p hv hp => ?_) (by simp; omega) (hbxs B1) fun s' w8 hN8 hC8 hb8 => ⟨s', rfl, hI, fun w9 hC9 => hdrop (by simp) (by simp [bulk_node]; omega) hE7 (hX4.ext hE7) (fun b hb => (hcb b hb).1) hN8 hC8 (fun b hb => (hb8 b hb).imp_left Sl.own_blk) hC9⟩
   match i with
   |0 => simp at hv hp; subst hv; subst hp; exact RdT.nil _ _ _ _ _
   |1 => simp at hv hp; subst hv; subst hp; exact hWu hN1 hE7
   |i + 2 => simp at hv
  ·have z := hE7.size
   have hA7 := hA8 hN1 z
   have g2 := hN2.ge
   have hn2 : B2 ∉ B1 :: B48 :: List.range w25.heap.size := by simp; omega
   refine (Nur.lit (A := B1 :: B48 :: List.range w25.heap.size) (p := (su, sv)) hbx2 hn2 (hu7 hE7 trivial fun b hb => ?_)).front hA7 ((nurW hNu4 fun b hb => ?_).ext hE7) (by simp; omega) (hbxs B1) fun s' w8 hN8 hC8 hb8 => ⟨s', rfl, hI, fun w9 hC9 => hdrop (by simp) (by simp; omega) hE7 ((hX4.wide fun b hb => ?_).ext hE7) (fun b hb => ?_) hN8 hC8 hb8 hC9⟩
   ·rcases List.mem_cons.1 hb with rfl | hb
    ·exact .inr hN2.ge
    rcases List.mem_cons.1 hb with rfl | hb
    ·exact .inr hN1.ge
    ·exact .inl (hA4 b hb)
   ·rcases List.mem_append.1 hb with hb | hb
    ·have e : b = B2 := by simpa [Sl.blk] using hb
     exact .inr (by omega)
    rcases List.mem_cons.1 hb with rfl | hb
    ·exact .inr hN1.ge
    ·exact .inl hb
   ·rcases List.mem_append.1 hb with hb | hb
    ·have e : b = B2 := by simpa [Sl.blk] using hb
     exact .inr (by omega)
    ·exact .inl (List.mem_append_right _ hb)
   ·have e : b = B2 := by simpa [Sl.blk] using hb
    omega
  ·have z := hE7.size
   have hA7 := hA8 hN1 z
   refine (hWn hN1 hE7).push (u := .node 2 [100, 105, 118] [] [] [u]) (su := Sl.nil) hA7 hbx3 ((Nur.lit (A := c.blk ++ (B1 :: B48 :: List.range w25.heap.size)) (p := (su, sv)) hbx2 ?_ ?_).rd (Row.nil _ _ _)) (by omega) (hbxs B1) fun s' w8 hN8 hC8 hb8 => ⟨s', rfl, hI, fun w9 hC9 => hdrop (by simp) (by simp [bulk_node]; omega) hE7 (hX4.ext hE7) (fun b hb => (hcb b hb).1) hN8 hC8 (fun b hb => (hb8 b hb).imp_left Sl.own_blk) hC9⟩
   ·intro hm
    have g2 := hN2.ge
    rcases List.mem_append.1 hm with hm | hm
    ·have := (hcb _ hm).2; omega
    rcases List.mem_cons.1 hm with rfl | hm
    ·exact h12 rfl
    ·have := hA4 _ hm; omega
   ·refine hu7 hE7 trivial fun b hb => ?_
    rcases List.mem_cons.1 hb with rfl | hb
    ·exact .inr hN2.ge
    rcases List.mem_append.1 hb with hb | hb
    ·have := (hcb _ hb).2; exact .inl (by omega)
    rcases List.mem_cons.1 hb with rfl | hb
    ·exact .inr hN1.ge
    ·exact .inl (hA4 b hb)
  ·have z := hE7.size
   exact (hWn hN1 hE7).push (hA8 hN1 z) hbx2 (hWu hN1 hE7) (by omega) (hbxs B1) fun s' w8 hN8 hC8 hb8 => ⟨s', rfl, hI, fun w9 hC9 => hdrop (by simp) (by simp; omega) hE7 (hX4.ext hE7) (fun b hb => (hcb b hb).1) hN8 hC8 (fun b hb => (hb8 b hb).imp_left Sl.own_blk) hC9⟩
  ·have z := hE7.size
   exact (hWn hN1 hE7).push (hA8 hN1 z) hbx2 (hWu hN1 hE7) (by omega) (hbxs B1) fun s' w8 hN8 hC8 hb8 => ⟨s', rfl, hI, fun w9 hC9 => hdrop (by simp) (by simp; omega) hE7 (hX4.ext hE7) (fun b hb => (hcb b hb).1) hN8 hC8 (fun b hb => (hb8 b hb).imp_left Sl.own_blk) hC9⟩
 ·have hkl2 : k = t.kids.length := by omega
  subst hkl2
  rw [List.take_of_length_le (Nat.le_refl _)] at hub hx2
  have hF : ∀ b ∈ [B13], b ∈ B48 :: List.range w25.heap.size := by simp; omega
  have hrd := (hNu.chg hC' hF).rd (k := t.kind) (n := t.name) (x := tx) (ats := ats) ((hX2.less (A' := B48 :: List.range w25.heap.size) fun b hb => List.mem_append_right _ hb).attrs.chg hC' hF)
  have z := hC'.size
  refine ⟨hC2.more' hC' (by simp; omega), _, X, c, x2, rfl, hrd.less fun b hb => List.mem_cons_of_mem _ (List.mem_range.2 (by have := List.mem_range.1 hb; omega)), hBa2.keep hC' (by simp; omega), by omega, ?_⟩
  rw [bulk_node, hbk]
  omega
end
section
open Go.RowKit Go.MapKept
theorem lawTurned {A : List Nat} {w : World} {t : T} {sa sk l : Sl} {zs : List Int} (h : RdT A w t sa sk) (hl : Row A w l 1 (zs.map ic)) (hb : t.bulk ≤ 1000) (hck : t.check = true) :
  Calls Try.prog 9 #[tv t sa sk, l.v] w (Ret fun v w' => Ext w w' ∧ ∃ (u : T) (su sv : Sl), v = tv u su sv ∧ RdT (List.range w.heap.size) w' u su sv ∧ u.check = true ∧ u.bulk ≤ 400000000) := by
 refine law00_Turned.ok _ _ _ _ _ _ ?_
 unfold law00_Turned.vc
 have hsz := T.size_bulk t
 intro w1 B3 B11 B23 hN3 hN11 hN23 _ n2 n3 hE1 hbox
 have g11 := hN11.ge
 have l11 := hN11.lt
 have g23 := hN23.ge
 have h1 : RdT (B23 :: A) w1 t sa sk := (h.fresh g23).ext hE1
 have hl1 : Row (B23 :: A) w1 l 1 (zs.map ic) := (hl.fresh (by decide) g23).ext hE1
 have s1 := hE1.size
 refine CallK.chg (lawTurned1 (List.mem_cons_self ..) t (by omega) 0 1 (by omega) (by omega) (by omega) h1 hl1 hbox) (by simp; omega) ?_
 rintro v w2 hC2 ⟨u, su, sv, x', rfl, hu, _, _, hub⟩
 have hE2 : Ext w w2 := Chg.fresh hE1 hC2 (by simpa using g23)
 refine ⟨_, _, _, su, sv, rfl, ?_⟩
 intro w3 B63 hN63 hE3
 have hu3 := hu.ext hE3
 refine CallK.exact (refCheck u (by omega) hu3) fun w4 hE4 => ⟨u.check, rfl, (u.size : Int), fun _ => refSizeG u (by omega) (hu3.ext hE4), fun w5 hE5 => ⟨fun _ => ?_, fun hg w6 hC6 => ?_⟩⟩
 ·have hE05 := ((hE2.trans hE3).trans hE4).trans hE5
  refine CallK.ext (lawTree t (by omega) (h.ext hE05)) ?_
  rintro v w6 hE6 ⟨sa', sk', rfl, h6⟩
  refine ⟨_, _, _, sa', sk', rfl, fun w7 hC7 => ⟨Chg.fresh (hE05.trans hE6) hC7 (by simpa using g11), t, sa', sk', rfl, ?_, hck, by omega⟩⟩
  have s5 := hE05.size
  have s25 := ((hE3.trans hE4).trans hE5).size
  have s2 := hC2.size
  exact (h6.chg hC7 (by simp; omega)).less fun b hb => List.mem_range.2 (by have := List.mem_range.1 hb; omega)
 ·have hE25 := (hE3.trans hE4).trans hE5
  have hE05 := hE2.trans hE25
  exact ⟨Chg.fresh hE05 hC6 (by simpa using g11), u, su, sv, rfl, ((hu.ext hE25).chg hC6 (by simpa using l11)).less fun b hb => List.mem_range.2 (by have := List.mem_range.1 hb; omega), hg.1, by omega⟩
theorem slotsTurnedLaw {w : World} {l m : Sl} {zs ms : List Int} (hl : Row [] w l 1 (zs.map ic)) (hm : Row [] w m 1 (ms.map ic)) :
  Calls Try.prog 6 #[l.v, m.v] w (Ret fun v w' => Ext w w' ∧ v = .bool true) := by
 refine law25_SlotsTurned.ok _ _ ?_
 unfold law25_SlotsTurned.vc
 refine CallK.ext (lawGrownT hl) ?_
 rintro v w1 hE1 ⟨us, sk, rfl, hN, hG⟩
 have ha1 : RdT [] w1 (grownT us) Sl.nil sk := (hN.less (A' := []) (by simp)).rd (Row.nil _ _ _)
 have hba := hG.bulk
 refine ⟨_, _, _, Sl.nil, sk, rfl, fun w2 B2 hN2 hE2 => ?_⟩
 have hE02 := hE1.trans hE2
 refine CallK.ext (lawTurned (ha1.ext hE2) (hm.ext hE02) (by omega) hG.check) ?_
 rintro v w3 hE3 ⟨b, sb, tb, rfl, hb3, hcb, hbb⟩
 refine ⟨_, _, _, sb, tb, rfl, fun w4 B4 hN4 hE4 => ?_⟩
 have hb3' : RdT [] w3 b sb tb := hb3.less (by simp)
 have hE24 := hE3.trans hE4
 refine CallK.ext (refMatch ((ha1.ext hE2).ext hE24) (hb3'.ext hE4) (by omega) hbb hG.check hcb) ?_
 rintro v w5 hE5 ⟨p, ps, rfl, hp, hck, hpl⟩
 refine ⟨p, rfl, fun w6 hE6 => ?_⟩
 have hp6 : Row [] w6 p 2 (ps.map pc) := ((hp.less (A' := []) (by simp)).row).ext hE6
 refine ⟨fun s w' => Row [] w' s 2 (ps.map pc), fun _ _ _ hE h => h.ext hE, fun w' hE => ?_, ?_⟩
 ·refine Ret.mono (lawPairs (hp6.ext hE) (by omega)) ?_
  rintro v w'' ⟨h1, s, rfl, h2⟩
  exact ⟨h1, s, rfl, h2⟩
 intro w7 q hE7 hq
 have hE17 : Ext w1 w7 := (((hE2.trans hE24).trans hE5).trans hE6).trans hE7
 have hE37 : Ext w3 w7 := ((hE4.trans hE5).trans hE6).trans hE7
 refine CallK.ext (slotsOfC (ha1.ext hE17) (hb3'.ext hE37) hq (by omega) hbb (by omega)) ?_
 intro v w8 hE8 hv
 rcases hv with ⟨hf, _⟩ | ⟨_, s, rfl, hS⟩
 ·rw [hck] at hf; cases hf
 refine ⟨s, 0, rfl, fun w9 hE9 => ?_⟩
 have hE79 := hE8.trans hE9
 have ha9 := (ha1.ext hE17).ext hE79
 have hb9 := (hb3'.ext hE37).ext hE79
 have hp9 := (hp6.ext hE7).ext hE79
 refine ⟨fun r w' => ∃ (c : Nat) (ro rx L : Sl) (m : Addr), r = some ⟨c, 0, none⟩ ∧ Box w' c 91 [ro.v, rx.v, .pointer (some m), L.v] ∧ RItems w' ro (grownT us) ∧ RSlots [] w' L (slotsOf (grownT us) b ps), ?_, fun _ w' hE => ?_, ?_⟩
 ·rintro r w' w'' hE ⟨c, ro, rx, L, m, h1, h2, h3, h4⟩
  exact ⟨c, ro, rx, L, m, h1, h2.ext hE, h3.ext hE, h4.ext hE⟩
 ·refine Ret.mono (refOf25 (ha9.ext hE) (hb9.ext hE) (hp9.ext hE) (by omega) hbb (by omega)) ?_
  rintro v w'' ⟨h1, ⟨hf, _⟩ | ⟨_, c, ro, rx, L, m, rfl, h2, h3, h4⟩⟩
  ·rw [hck] at hf; cases hf
  ·exact ⟨h1, _, rfl, c, ro, rx, L, m, rfl, h2, h3, h4⟩
 intro w10 r hE10 hr
 obtain ⟨c, ro, rx, L, m, rfl, h2, h3, h4⟩ := hr rfl
 refine ⟨true, fun _ => lawAll25 (ha9.ext hE10) (by omega) (hS.ext (hE9.trans hE10)) h2 h3 h4 (by simp [slotsOf]) (-1), fun w11 hE11 => ⟨true, fun _ => slotsAwake w11, fun w12 hE12 => ⟨?_, rfl⟩⟩⟩
 exact ((((hE1.trans hE17).trans hE79).trans hE10).trans hE11).trans hE12
end
end Go.Proofs.Yteohbfaechfliaa
