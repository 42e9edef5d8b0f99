/-
  What the proof of the statement leans on: texts one behind the other.
-/
import Derived.Test.YteohbfaechfliaaQSlotsAll1
import Derived.Test.YteohbfaechfliaaQSlotsAllGref05P1
import Derived.Test.YteohbfaechfliaaQSlotsAllGref05P2
import Derived.Test.YteohbfaechfliaaQSlotsAllGref04
import Derived.Test.YteohbfaechfliaaQSlotsAllGref19
import Derived.Test.YteohbfaechfliaaQSlotsAllGref21P3
import Derived.Test.YteohbfaechfliaaQSlotsAllGref21P4
import Derived.Test.YteohbfaechfliaaQSlotsAllGref25P1
import Derived.Test.YteohbfaechfliaaQSlotsAllGref25P2
import Derived.Test.YteohbfaechfliaaQSlotsAllGref25P3
import Derived.Test.YteohbfaechfliaaQSlotsAllGlaw25same
import Derived.Test.YteohbfaechfliaaQSlotsAllGlaw25all
import Derived.Test.YteohbfaechfliaaQSlotsAllGlaw25SlotsAll
import Derived.Test.YteohbfaechfliaaQSlotsAll0
import Derived.DataReads
import Derived.ChangeArms
namespace Go.Proofs.Yteohbfaechfliaa
section
open Go.RowKit
theorem refSize {A : List Nat} : ∀ t : T, t.bulk ≤ 1099511627776 → ∀ {w : World} {sa sk : Sl}, RdT A w t sa sk →
  Calls Try.prog 15 #[tv t sa sk] w (Ret fun v w' => Ext w w' ∧ v = .int .i64 (t.size : Int)) := T.ind' fun t ih hb w sa sk h => by
 refine ref05_Size.ok _ _ _ _ _ ?_
 unfold ref05_Size.vc
 have hn := h.nkids
 have hcp := h.caps
 have hl := T.kids_len t
 intro w1 B1 _ hE1
 refine ⟨fun n i w2 => ∃ k : Nat, i = (k : Int) ∧ k ≤ t.kids.length ∧ n = ((1 + ((t.kids.take k).map T.size).sum : Nat) : Int) ∧ Ext w w2, fun _ i _ => t.kids.length - i.toNat, ⟨0, rfl, Nat.zero_le _, by simp, hE1⟩, ?_⟩
 rintro _ _ w2 ⟨k, rfl, hk, rfl, hE⟩
 refine ⟨fun hi => ?_, fun hi => ⟨hE, ?_⟩⟩
 ·have hk' : k < t.kids.length := by omega
  obtain ⟨p, sa', sk', hp, _, hc, hr⟩ := (h.ext hE).kid hk'
  rw [Int.toNat_natCast]
  have hm := getD_mem (d := T.nul) hk'
  have hs := sum_take T.size hk'
  have hsl := sum_take_le T.size t.kids (k + 1)
  have ht := T.size_eq t
  have htb := T.size_bulk t
  refine ⟨⟨by omega, hi⟩, p, hp, _, _, _, sa', sk', hc, CallK.exact (ih _ hm (by have := T.kid_bulk hm; omega) hr) fun w4 hE4 => ⟨_, rfl, ⟨by omega, by omega⟩, ⟨by omega, by omega⟩, ⟨k + 1, by omega, by omega, by omega, hE.trans hE4⟩, by dsimp only; omega⟩⟩
 ·have hkl : k = t.kids.length := by omega
  subst hkl
  rw [List.take_of_length_le (Nat.le_refl _), T.size_eq t]
theorem refDepth {A : List Nat} : ∀ t : T, t.bulk ≤ 1099511627776 → ∀ {w : World} {sa sk : Sl}, RdT A w t sa sk →
  Calls Try.prog 50 #[tv t sa sk] w (Ret fun v w' => Ext w w' ∧ v = .int .i64 (t.depth : Int)) := T.ind' fun t ih hb w sa sk h => by
 refine ref05_Depth.ok _ _ _ _ _ ?_
 unfold ref05_Depth.vc
 have hn := h.nkids
 have hcp := h.caps
 have hl := T.kids_len t
 intro w1 B1 _ hE1
 refine ⟨fun n i w2 => ∃ k : Nat, i = (k : Int) ∧ k ≤ t.kids.length ∧ n = ((((t.kids.take k).map T.depth).foldr max 0 : Nat) : Int) ∧ Ext w w2, fun _ i _ => t.kids.length - i.toNat, ⟨0, rfl, Nat.zero_le _, by simp, hE1⟩, ?_⟩
 rintro _ _ w2 ⟨k, rfl, hk, rfl, hE⟩
 refine ⟨fun hi => ?_, fun hi => ?_⟩
 ·have hk' : k < t.kids.length := by omega
  obtain ⟨p, sa', sk', hp, _, hc, hr⟩ := (h.ext hE).kid hk'
  rw [Int.toNat_natCast]
  have hm := getD_mem (d := T.nul) hk'
  have hs := max_take T.depth hk'
  refine ⟨⟨by omega, hi⟩, p, hp, _, _, _, sa', sk', hc, CallK.exact (ih _ hm (by have := T.kid_bulk hm; omega) hr) fun w4 hE4 => ⟨_, rfl, ⟨by omega, by omega⟩, ⟨k + 1, by omega, by omega, by omega, hE.trans hE4⟩, by dsimp only; omega⟩⟩
 ·have hkl : k = t.kids.length := by omega
  subst hkl
  have h1 := T.depth_eq t
  have h2 := T.depth_size t
  have h3 := T.size_bulk t
  rw [List.take_of_length_le (Nat.le_refl _)]
  refine ⟨⟨by omega, by omega⟩, hE, ?_⟩
  rw [h1]; congr 1; omega
theorem refBlank {w : World} (c : Int) : Calls Try.prog 90 #[.int .u8 c] w (Ret fun v w' => Ext w w' ∧ v = .bool ((((decide (c = 9)) || (decide (c = 10))) || (decide (c = 12))) || (decide (c = 32)))) := by
 refine ref04_Blank.ok _ ?_
 unfold ref04_Blank.vc
 exact ⟨Chg.refl _ _, rfl⟩
theorem refName {w : World} (s : Str) : Calls Try.prog 82 #[.string (Bs s)] w (Ret fun v w' => Ext w w' ∧ v = .bool (nameOk s)) := by
 refine ref05_Name.ok _ ?_
 unfold ref05_Name.vc
 refine ⟨fun hc => ⟨Chg.refl _ _, ?_⟩, fun hc => ?_⟩
 ·have : nameOk s = false := by
   unfold nameOk
   rcases hc with hc | hc
   ·have : s = [] := List.eq_nil_of_length_eq_zero (by omega)
    subst this; rfl
   ·simp; omega
  rw [this]
 ·obtain ⟨h0, h32⟩ := hc
  refine ⟨fun i w1 => ∃ k : Nat, i = (k : Int) ∧ k ≤ s.length ∧ (s.take k).all byteOk = true ∧ Ext w w1, fun i _ => s.length - i.toNat, ⟨0, rfl, Nat.zero_le _, rfl, Chg.refl _ _⟩, ?_⟩
  rintro _ w1 ⟨k, rfl, hk, hall, hE⟩
  rw [Int.toNat_natCast]
  refine ⟨fun hi => ?_, fun hi => ⟨hE, ?_⟩⟩
  ·have hk' : k < s.length := by omega
   have hbad : byteOk (s.getD k 0) = false → nameOk s = false := fun hb => by
    have hm : s.getD k 0 ∈ s := by rw [List.getD_eq_getElem?_getD, List.getElem?_eq_getElem hk']; exact List.getElem_mem hk'
    unfold nameOk
    have : s.all byteOk = false := by
     rw [List.all_eq_false]; exact ⟨_, hm, fun h => by rw [hb] at h; cases h⟩
    rw [this, Bool.and_false]
   generalize hx : s.getD k 0 = c at hbad
   refine ⟨⟨by omega, hi⟩, CallK.exact (refBlank _) fun w2 hE2 => ⟨_, rfl, fun hset => ⟨hE.trans hE2, ?_⟩, fun hset => ⟨⟨by omega, by omega⟩, ⟨k + 1, by omega, by omega, ?_, hE.trans hE2⟩, by dsimp only; omega⟩⟩⟩
   ·rw [hbad ?_]
    unfold byteOk
    simp only [Bool.or_eq_true, decide_eq_true_eq] at hset
    simp; omega
   ·rw [List.take_succ_eq_append_getElem hk', List.all_append, hall]
    have : s[k] = c := by rw [← hx, List.getD_eq_getElem?_getD, List.getElem?_eq_getElem hk']; rfl
    rw [this]
    simp only [List.all_cons, List.all_nil, Bool.and_true, Bool.true_and]
    unfold byteOk
    simp only [Bool.or_eq_false_iff, decide_eq_false_iff_not] at hset
    simp; omega
  ·have hkl : k = s.length := by omega
   subst hkl
   rw [List.take_of_length_le (Nat.le_refl _)] at hall
   unfold nameOk
   rw [hall]
   have : s.isEmpty = false := by cases s <;> simp_all
   simp [this]; omega
theorem refAttr {A : List Nat} {w : World} {s : Sl} {l : List (Str × Str)} (h : Row A w s 2 (l.map ac)) (nm : Str) :
  Calls Try.prog 13 #[s.v, .string (Bs nm)] w (Ret fun v w' => Ext w w' ∧ v = .tuple #[.string (Bs (attrGet l nm).1), .bool (attrGet l nm).2]) := by
 refine ref05_Attr.ok _ _ ?_
 unfold ref05_Attr.vc
 have hl := h.len
 have hm := h.most
 have hc := h.cap
 simp only [List.length_map] at hl
 simp only [maxLen] at hm
 refine ⟨fun i w2 => ∃ k : Nat, i = (k : Int) ∧ k ≤ l.length ∧ attrGet l nm = attrGet (l.drop k) nm ∧ Ext w w2, fun i _ => l.length - i.toNat, ⟨0, rfl, Nat.zero_le _, rfl, Chg.refl _ _⟩, ?_⟩
 rintro _ w2 ⟨k, rfl, hk, heq, hE⟩
 rw [Int.toNat_natCast]
 refine ⟨fun hi => ?_, fun hi => ⟨hE, ?_⟩⟩
 ·have hk' : k < l.length := by omega
  obtain ⟨p, hp, _, hcell, _⟩ := (h.ext hE).at_ k (by simpa using hk')
  have e : (l.map ac).getD k [] = ac (l.getD k ([], [])) := by simp [List.getD_eq_getElem?_getD, hk']
  rw [e] at hcell
  have hd : l.drop k = l.getD k ([], []) :: l.drop (k + 1) := by
   rw [List.drop_eq_getElem_cons hk', List.getD_eq_getElem?_getD, List.getElem?_eq_getElem hk']; rfl
  rw [hd] at heq
  generalize l.getD k ([], []) = q at hcell heq
  obtain ⟨qn, qv⟩ := q
  refine ⟨⟨by omega, hi⟩, p, hp, qn, hcell 0 _ rfl, fun he => ⟨⟨by omega, hi⟩, p, hp, qv, hcell 1 _ rfl, hE, ?_⟩, fun hne => ⟨⟨by omega, by omega⟩, ⟨k + 1, by omega, by omega, ?_, hE⟩, by dsimp only; omega⟩⟩
  ·rw [heq, attrGet, if_pos he]
  ·rw [heq, attrGet, if_neg hne]
 ·have hkl : k = l.length := by omega
  subst hkl
  rw [heq, List.drop_length]; rfl
theorem attrsOk_nil {p : Str × Str} {r : List (Str × Str)} : attrsOk [] (p :: r) = (nameOk p.1 && decide (p.2.length ≤ 4096) && attrsOk p.1 r) := by
 have h1 : Op.bytesLess p.1 ([] : Str) = false := by cases p.1 <;> rfl
 rw [attrsOk, h1]
 by_cases h2 : p.1 = []
 ·have : nameOk p.1 = false := by rw [h2]; rfl
  simp [this]
 ·simp [h2]
theorem refAttrs {A : List Nat} {w : World} {s : Sl} {l : List (Str × Str)} (h : Row A w s 2 (l.map ac)) :
  Calls Try.prog 83 #[s.v] w (Ret fun v w' => Ext w w' ∧ v = .bool (decide (l.length ≤ 12) && attrsOk [] l)) := by
 refine ref05_attrs.ok _ ?_
 unfold ref05_attrs.vc
 have hl := h.len
 simp only [List.length_map] at hl
 refine ⟨fun hb => ⟨Chg.refl _ _, ?_⟩, fun hb => ?_⟩
 ·rw [decide_eq_false (show ¬ l.length ≤ 12 by omega)]; rfl
 rw [decide_eq_true (show l.length ≤ 12 by omega), Bool.true_and]
 refine ⟨fun i w1 => ∃ k : Nat, i = (k : Int) ∧ k ≤ l.length ∧ attrsOk [] l = attrsOk (if k = 0 then [] else (l.getD (k - 1) ([], [])).1) (l.drop k) ∧ Ext w w1, fun i _ => l.length - i.toNat, ⟨0, rfl, Nat.zero_le _, rfl, Chg.refl _ _⟩, ?_⟩
 rintro _ w1 ⟨k, rfl, hk, heq, hE⟩
 rw [Int.toNat_natCast]
 refine ⟨fun hi w2 hE2 => ?_, fun hi => ⟨hE, ?_⟩⟩
 ·have hk' : k < l.length := by omega
  have hE12 := hE.trans hE2
  obtain ⟨p, hp, _, hcell, _⟩ := (h.ext hE12).at_ k (by simpa using hk')
  have e : (l.map ac).getD k [] = ac (l.getD k ([], [])) := by simp [List.getD_eq_getElem?_getD, hk']
  rw [e] at hcell
  have hprev : ∃ q, 0 < k → s.a = some q ∧ w2.cell? ((q.add ((k - 1) * 2)).add 0) = some (.string (Bs (l.getD (k - 1) ([], [])).1)) := by
   by_cases h0 : 0 < k
   ·obtain ⟨q, hq, _, hqc, _⟩ := (h.ext hE12).at_ (k - 1) (by simp; omega)
    have e : (l.map ac).getD (k - 1) [] = ac (l.getD (k - 1) ([], [])) := by simp [List.getD_eq_getElem?_getD, show k - 1 < l.length by omega]
    rw [e] at hqc
    exact ⟨q, fun _ => ⟨hq, hqc 0 _ rfl⟩⟩
   ·exact ⟨p, fun h => absurd h h0⟩
  obtain ⟨q, hq⟩ := hprev
  have hnx : attrsOk (l.getD k ([], [])).1 (l.drop (k + 1)) = attrsOk (if k + 1 = 0 then [] else (l.getD (k + 1 - 1) ([], [])).1) (l.drop (k + 1)) := by rw [if_neg (by omega), Nat.add_sub_cancel]
  have hstep : attrsOk [] l = (nameOk (l.getD k ([], [])).1 && decide ((l.getD k ([], [])).2.length ≤ 4096) && (decide (k = 0) || (!(Op.bytesLess (l.getD k ([], [])).1 (l.getD (k - 1) ([], [])).1) && !(decide ((l.getD k ([], [])).1 = (l.getD (k - 1) ([], [])).1)))) && attrsOk (l.getD k ([], [])).1 (l.drop (k + 1))) := by
   by_cases h0 : k = 0
   ·subst h0
    rw [heq, if_pos rfl, drop_at l ([], []) hk', attrsOk_nil]; simp
   ·rw [heq, if_neg h0, attrsOk_drop hk']
    simp only [decide_eq_false h0, Bool.false_or]
    generalize Op.bytesLess (l.getD k ([], [])).1 (l.getD (k - 1) ([], [])).1 = x1
    generalize decide ((l.getD k ([], [])).1 = (l.getD (k - 1) ([], [])).1) = x2
    generalize nameOk (l.getD k ([], [])).1 = x3
    generalize decide ((l.getD k ([], [])).2.length ≤ 4096) = x4
    generalize attrsOk (l.getD k ([], [])).1 (l.drop (k + 1)) = x5
    cases x1 <;> cases x2 <;> cases x3 <;> cases x4 <;> rfl
  refine ⟨p, ⟨⟨by omega, hi⟩, hp⟩, _, hcell 0 _ rfl, _, fun w' _ => refName _, p, fun _ => ⟨⟨by omega, hi⟩, hp⟩, _, fun _ => hcell 1 _ rfl, p, fun _ => ⟨⟨by omega, hi⟩, hp⟩, _, fun _ => hcell 0 _ rfl, fun _ => ⟨by omega, by omega⟩, q, fun hg => ⟨⟨by omega, by omega⟩, (hq (by omega)).1⟩, (l.getD (k - 1) ([], [])).1, fun hg => ?_, fun hbad w3 hE3 => ⟨hE12.trans hE3, ?_⟩, fun hgood => ⟨⟨by omega, by omega⟩, fun w3 hE3 => ⟨⟨k + 1, by omega, by omega, ?_, hE12.trans hE3⟩, by dsimp only; omega⟩⟩⟩
  ·have := (hq (by omega)).2
   rw [show ((k : Int) - 1).toNat = k - 1 by omega]; exact this
  ·rw [hstep]
   rcases hbad with (hb | hb) | ⟨h0, hb⟩
   ·rw [hb]; rfl
   ·rw [decide_eq_false (show ¬ (l.getD k ([], [])).2.length ≤ 4096 by omega)]; simp
   ·rw [decide_eq_false (show ¬ k = 0 by omega)]
    rcases hb with hb | hb
    ·rw [hb]; simp
    ·rw [decide_eq_true hb]; simp
  ·rw [hstep, ← hnx]
   obtain ⟨⟨h1, h2⟩, h3⟩ := hgood
   rw [h1, decide_eq_true (show (l.getD k ([], [])).2.length ≤ 4096 by omega)]
   rcases h3 with h3 | ⟨h3, h4⟩
   ·rw [decide_eq_true (show k = 0 by omega)]; simp
   ·rw [h3, decide_eq_false h4]; simp
 ·have hkl : k = l.length := by omega
  subst hkl
  rw [heq, List.drop_length]; rfl
def mayOk (t : T) (top root : Bool) : Bool :=
 if t.kind = 1 then top && t.name.isEmpty && t.text.isEmpty && t.attrs.isEmpty
 else if t.kind = 2 then nameOk t.name && t.text.isEmpty && (decide (t.attrs.length ≤ 12) && attrsOk [] t.attrs)
 else if t.kind = 3 then t.name.isEmpty && t.attrs.isEmpty && t.kids.isEmpty && !t.text.isEmpty && decide (t.text.length ≤ 4096)
 else if t.kind = 4 then t.name.isEmpty && t.attrs.isEmpty && t.kids.isEmpty && decide (t.text.length ≤ 4096)
 else if t.kind = 5 then root && decide (t.name.length ≤ 32) && t.text.isEmpty && t.attrs.isEmpty && t.kids.isEmpty
 else false
theorem len_zero_dec {α : Type} (l : List α) (n : Nat) (h : n = l.length) : decide ((n : Int) = 0) = l.isEmpty := by
 subst h; cases l with
 |nil => rfl
 |cons a r => simp; omega
theorem refMay {A : List Nat} {w : World} {t : T} {sa sk : Sl} (h : RdT A w t sa sk) (top root : Bool) :
  Calls Try.prog 71 #[tv t sa sk, .bool top, .bool root] w (Ret fun v w' => Ext w w' ∧ v = .bool (mayOk t top root)) := by
 refine ref05_May.ok _ _ _ _ _ _ _ ?_
 unfold ref05_May.vc
 have hn := len_zero_dec t.kids sk.n h.nkids
 have ha := len_zero_dec t.attrs sa.n h.nattrs
 have l4 := le_dec t.text 4096
 have l3 := le_dec t.name 32
 rw [show ((4096 : Nat) : Int) = 4096 from rfl] at l4
 rw [show ((32 : Nat) : Int) = 32 from rfl] at l3
 have l1 : decide (1 ≤ (t.text.length : Int)) = !t.text.isEmpty := by cases t.text with
  |nil => rfl
  |cons a r => simp; omega
 rw [hn, ha, l4, l3, l1, isEmpty_dec, isEmpty_dec]
 unfold mayOk
 refine ⟨fun h1 w1 B1 _ hE1 => ⟨hE1, by rw [if_pos h1]⟩, fun h1 => ⟨fun h2 w1 B1 _ hE1 => ?_, fun h2 => ⟨fun h3 w1 B1 _ hE1 => ⟨hE1, by rw [if_neg h1, if_neg h2, if_pos h3]⟩, fun h3 => ⟨fun h4 w1 B1 _ hE1 => ⟨hE1, by rw [if_neg h1, if_neg h2, if_neg h3, if_pos h4]⟩, fun h4 =>
  ⟨fun h5 w1 B1 _ hE1 => ⟨hE1, by rw [if_neg h1, if_neg h2, if_neg h3, if_neg h4, if_pos h5]⟩, fun h5 w1 B1 _ hE1 => ⟨hE1, by rw [if_neg h1, if_neg h2, if_neg h3, if_neg h4, if_neg h5]⟩⟩⟩⟩⟩⟩
 rw [if_neg h1, if_pos h2]
 exact CallK.exact (refName _) fun w2 hE2 => ⟨_, rfl, _, fun _ => refAttrs ((h.ext (hE1.trans hE2)).attrs), fun w3 hE3 => ⟨(hE1.trans hE2).trans hE3, rfl⟩⟩
theorem may_false {t : T} {root : Bool} (h : mayOk t false root = false) : (nodeOk t && !(decide (t.kind = 5) && !root)) = false := by
 unfold mayOk at h
 by_cases h2 : t.kind = 2
 ·rw [if_neg (by omega), if_pos h2] at h
  rw [nodeOk_el h2, h]; rfl
 ·rw [nodeOk_ne h2]
  by_cases h1 : t.kind = 1
  ·rw [if_neg (by omega), if_neg (by omega), if_neg (by omega)]; simp
  ·rw [if_neg h1, if_neg h2] at h
   by_cases h3 : t.kind = 3
   ·rw [if_pos h3] at h ⊢
    generalize t.name.isEmpty = x1 at *
    generalize t.attrs.isEmpty = x2 at *
    generalize t.kids.isEmpty = x3 at *
    generalize t.text.isEmpty = x4 at *
    generalize decide (t.text.length ≤ 4096) = x5 at *
    cases x1 <;> cases x2 <;> cases x3 <;> cases x4 <;> cases x5 <;> simp_all
   ·rw [if_neg h3] at h ⊢
    by_cases h4 : t.kind = 4
    ·rw [if_pos h4] at h ⊢
     generalize t.name.isEmpty = x1 at *
     generalize t.attrs.isEmpty = x2 at *
     generalize t.kids.isEmpty = x3 at *
     generalize decide (t.text.length ≤ 4096) = x5 at *
     cases x1 <;> cases x2 <;> cases x3 <;> cases x5 <;> simp_all
    ·rw [if_neg h4] at h ⊢
     by_cases h5 : t.kind = 5
     ·rw [if_pos h5] at h ⊢
      rw [decide_eq_true h5]
      generalize t.attrs.isEmpty = x2 at *
      generalize t.kids.isEmpty = x3 at *
      generalize t.text.isEmpty = x4 at *
      generalize decide (t.name.length ≤ 32) = x5 at *
      cases x2 <;> cases x3 <;> cases x4 <;> cases x5 <;> cases root <;> simp_all
     ·rw [if_neg h5]; simp
theorem may_true {t : T} {root : Bool} (h : mayOk t false root = true) : (nodeOk t && !(decide (t.kind = 5) && !root)) = kidsOk t := by
 unfold mayOk at h
 by_cases h2 : t.kind = 2
 ·rw [if_neg (by omega), if_pos h2] at h
  rw [nodeOk_el h2, h, decide_eq_false (by omega : ¬ t.kind = 5)]; simp
 ·have key : t.kids.isEmpty = true → kidsOk t = true := fun hk => by
   unfold kidsOk; rw [List.isEmpty_iff.1 hk]; rfl
  rw [nodeOk_ne h2]
  by_cases h1 : t.kind = 1
  ·rw [if_pos h1] at h; simp at h
  ·rw [if_neg h1, if_neg h2] at h
   by_cases h3 : t.kind = 3
   ·rw [if_pos h3] at h ⊢
    rw [decide_eq_false (by omega : ¬ t.kind = 5)]
    simp only [Bool.and_eq_true] at h
    obtain ⟨⟨⟨⟨a1, a2⟩, a3⟩, a4⟩, a5⟩ := h
    rw [a1, a2, a3, a4, a5, key a3]; rfl
   ·rw [if_neg h3] at h ⊢
    by_cases h4 : t.kind = 4
    ·rw [if_pos h4] at h ⊢
     rw [decide_eq_false (by omega : ¬ t.kind = 5)]
     simp only [Bool.and_eq_true] at h
     obtain ⟨⟨⟨a1, a2⟩, a3⟩, a5⟩ := h
     rw [a1, a2, a3, a5, key a3]; rfl
    ·rw [if_neg h4] at h ⊢
     by_cases h5 : t.kind = 5
     ·rw [if_pos h5] at h ⊢
      simp only [Bool.and_eq_true] at h
      obtain ⟨⟨⟨⟨a1, a2⟩, a3⟩, a4⟩, a5⟩ := h
      rw [a1, a2, a3, a4, a5, key a5]; simp
     ·rw [if_neg h5] at h; cases h
theorem refAllLoop {A : List Nat} (t : T) (ih : ∀ u ∈ t.kids, ∀ (root : Bool) {w : World} {sa sk : Sl}, RdT A w u sa sk → Calls Try.prog 51 #[tv u sa sk, .bool false, .bool root] w (Ret fun v w' => Ext w w' ∧ v = .bool (nodeOk u && !(decide (u.kind = 5) && !root))))
  (top root r : Bool) (h0 : mayOk t top root = false → r = false) (h1 : mayOk t top root = true → r = kidsOk t) {w : World} {sa sk : Sl} (h : RdT A w t sa sk) :
  Calls Try.prog 51 #[tv t sa sk, .bool top, .bool root] w (Ret fun v w' => Ext w w' ∧ v = .bool r) := by
 refine ref05_all.ok _ _ _ _ _ _ _ ?_
 unfold ref05_all.vc
 have hn := h.nkids
 have hcp := h.caps
 simp only [maxLen] at hcp
 intro w1 B1 _ hE1
 refine CallK.exact (refMay (h.ext hE1) top root) fun w2 hE2 => ⟨_, rfl, fun hf => ⟨hE1.trans hE2, by rw [h0 hf]⟩, fun ht => ?_⟩
 rw [h1 ht]
 refine ⟨fun i w3 => ∃ k : Nat, i = (k : Int) ∧ k ≤ t.kids.length ∧ kidsOk t = (t.kids.drop k).all (fun u => nodeOk u && !(decide (u.kind = 5) && !(decide (t.kind = 1)))) ∧ Ext w w3, fun i _ => t.kids.length - i.toNat, ⟨0, rfl, Nat.zero_le _, rfl, hE1.trans hE2⟩, ?_⟩
 rintro _ w3 ⟨k, rfl, hk, heq, hE⟩
 rw [Int.toNat_natCast]
 refine ⟨fun hi w4 hE4 => ?_, fun hi => ⟨hE, ?_⟩⟩
 ·have hk' : k < t.kids.length := by omega
  have hE34 := hE.trans hE4
  obtain ⟨p, sa', sk', hp, _, hc, hr⟩ := (h.ext hE34).kid hk'
  have hm := getD_mem (d := T.nul) hk'
  rw [drop_at t.kids T.nul hk', List.all_cons] at heq
  refine ⟨p, ⟨⟨by omega, hi⟩, hp⟩, _, _, _, sa', sk', hc, _, fun w' hE' => ih _ hm _ (hr.ext hE'), fun hf w5 hE5 => ⟨hE34.trans hE5, ?_⟩, fun ht => ⟨⟨by omega, by omega⟩, fun w5 hE5 => ⟨⟨k + 1, by omega, by omega, ?_, hE34.trans hE5⟩, by dsimp only; omega⟩⟩⟩
  ·rw [heq, hf]; rfl
  ·rw [heq, ht]; rfl
 ·have hkl : k = t.kids.length := by omega
  subst hkl
  rw [heq, List.drop_length]; rfl
theorem refAll {A : List Nat} : ∀ t : T, ∀ (root : Bool) {w : World} {sa sk : Sl}, RdT A w t sa sk → Calls Try.prog 51 #[tv t sa sk, .bool false, .bool root] w (Ret fun v w' => Ext w w' ∧ v = .bool (nodeOk t && !(decide (t.kind = 5) && !root))) :=
 T.ind' fun t ih root _ _ _ h => refAllLoop t ih false root _ may_false may_true h
theorem refCheck {A : List Nat} (t : T) (hb : t.bulk ≤ 1099511627776) {w : World} {sa sk : Sl} (h : RdT A w t sa sk) :
  Calls Try.prog 28 #[tv t sa sk] w (Ret fun v w' => Ext w w' ∧ v = .bool t.check) := by
 refine ref05_Check.ok _ _ _ _ _ ?_
 unfold ref05_Check.vc
 intro w1 B1 _ hE1
 refine ⟨_, fun _ => refSize t hb (h.ext hE1), fun w2 hE2 => ⟨_, fun _ => refDepth t hb (h.ext (hE1.trans hE2)), fun w3 hE3 => ⟨(t.name.isEmpty && t.text.isEmpty && t.attrs.isEmpty && kidsOk t), fun hg => ?_, fun w4 hE4 => ⟨((hE1.trans hE2).trans hE3).trans hE4, ?_⟩⟩⟩⟩
 ·have hk := hg.1.1
  refine refAllLoop t (fun u _ root _ _ _ h => refAll u root h) true false _ (fun hf => ?_) (fun ht => ?_) (h.ext ((hE1.trans hE2).trans hE3))
  ·unfold mayOk at hf; rw [if_pos hk, Bool.true_and] at hf; rw [hf]; rfl
  ·unfold mayOk at ht; rw [if_pos hk, Bool.true_and] at ht; rw [ht]; simp
 ·unfold T.check
  have e1 : decide ((t.size : Int) ≤ 300) = decide (t.size ≤ 300) := by rw [Bool.eq_iff_iff]; simp; omega
  have e2 : decide ((t.depth : Int) ≤ 60) = decide (t.depth ≤ 60) := by rw [Bool.eq_iff_iff]; simp; omega
  rw [e1, e2]
  simp only [Bool.and_assoc]
end
section
open Go.RowKit Go.MapKept
theorem Cells.take {w : World} {p : Addr} {cs : List Value} (h : Cells w p cs) (n : Nat) : Cells w p (cs.take n) := fun j v hv => h j v (by
 rw [List.getElem?_take] at hv
 split at hv
 ·exact hv
 ·cases hv)
theorem RItems.at {w : World} {s : Sl} {t : T} (h : RItems w s t) : s.n = t.size ∧ ∃ p, s.a = some p ∧ ∀ w', Ext w w' → ∀ j, j < t.size → ∃ a sa sk : Sl, Cells w' (p.add (j * 15)) (rc (t.nd j) a sa sk (t.zAt j) (t.hAt j)) ∧ Own [] w' a 2 47 ((t.nd j).t.attrs.map ac) := by
 have hn := h.len
 obtain ⟨rows, ho, hr⟩ := h
 have hrl := hr.1
 rw [T.flat_len] at hrl
 have hpos := T.size_pos t
 obtain ⟨p, hp, _⟩ := ho.row.at_ 0 (by omega)
 refine ⟨hn, p, hp, fun w' hE j hj => ?_⟩
 have := (ho.ext hE).row.cells1 (i := j) (by omega) hp
 obtain ⟨u, hu⟩ : ∃ u, rows[j]? = some u := ⟨_, List.getElem?_eq_getElem (by omega)⟩
 obtain ⟨a, sa, sk, rfl, h2⟩ := hr.2 j _ u (t.flat_get hj) hu
 rw [List.getD_eq_getElem?_getD, hu] at this
 exact ⟨a, sa, sk, this, h2.ext hE⟩
theorem Row.pairAt {A : List Nat} {w : World} {l : Sl} {ps : List (Int × Int)} (h : Row A w l 2 (ps.map pc)) {k : Nat} (hk : k < ps.length) : ∃ p, l.a = some p ∧ Cells w (p.add (k * 2)) (pc (ps.getD k (0, 0))) := by
 obtain ⟨p, hp, _, hc, _⟩ := h.at_ k (by simpa using hk)
 refine ⟨p, hp, ?_⟩
 have e : (ps.map pc).getD k [] = pc (ps.getD k (0, 0)) := by simp [List.getD_eq_getElem?_getD, hk]
 rwa [e] at hc
theorem refKin {w : World} {e f : T} {a b : Sl} : Calls Try.prog 58 #[.agg #[.int .i64 e.kind, .string (Bs e.name), .string (Bs e.text), a.v, Sl.nil.v], .agg #[.int .i64 f.kind, .string (Bs f.name), .string (Bs f.text), b.v, Sl.nil.v]] w (Ret fun v w' => Ext w w' ∧ v = .bool (decide (e.kind = f.kind) && decide (e.name = f.name))) := by
 refine ref21_kin.ok _ _ _ _ _ _ _ _ _ _ ?_
 unfold ref21_kin.vc
 intro w1 B1 B2 _ _ _ hE
 exact ⟨hE, rfl⟩
theorem chkL_gt {x y : T} : ∀ (l : List (Int × Int)) (last : Int) (seen : List Int), chkL x y last l seen = true → ∀ p ∈ l, last < p.1
 |[], _, _, _, p, hp => by cases hp
 |q :: r, last, seen, h, p, hp => by
  rw [chkL] at h
  simp only [Bool.and_eq_true, decide_eq_true_eq] at h
  have h1 : last < q.1 := by obtain ⟨⟨⟨⟨⟨⟨h, _⟩, _⟩, _⟩, _⟩, _⟩, _⟩ := h; exact h
  rcases List.mem_cons.1 hp with rfl | hp
  ·exact h1
  ·have := chkL_gt r q.1 (q.2 :: seen) h.2 p hp
   omega
theorem chkL_head {x y : T} {l : List (Int × Int)} (h : chkL x y (-1) l [] = true) : decide ((0, 0) ∈ l) = decide (l.head? = some (0, 0)) := by
 cases l with
 |nil => rfl
 |cons q r =>
  congr 1
  rw [chkL] at h
  simp only [Bool.and_eq_true, decide_eq_true_eq] at h
  have h1 : -1 < q.1 := by obtain ⟨⟨⟨⟨⟨⟨h, _⟩, _⟩, _⟩, _⟩, _⟩, _⟩ := h; exact h
  have h2 := chkL_gt r q.1 _ h.2
  simp only [List.mem_cons, List.head?_cons, Option.some.injEq, eq_iff_iff]
  constructor
  ·rintro (h | h)
   ·exact h.symm
   ·have := h2 _ h
    simp only at this; omega
  ·intro h; exact .inl h.symm
theorem refCheck21 {A : List Nat} {w : World} {a b : T} {sa sk ta tk l : Sl} {ps : List (Int × Int)} (ha : RdT A w a sa sk) (hb : RdT A w b ta tk) (hl : Row A w l 2 (ps.map pc)) (na : a.bulk ≤ 400000000) (nb : b.bulk ≤ 400000000) (np : ps.length ≤ 1000000000) :
  Calls Try.prog 44 #[tv a sa sk, tv b ta tk, l.v] w (Ret fun v w' => Ext w w' ∧ v = .bool (chkP a b ps)) := by
 refine ref21_Check.ok _ _ _ _ _ _ _ _ _ _ _ ?_
 unfold ref21_Check.vc
 have hln := hl.len
 rw [List.length_map] at hln
 intro w1 B1 B2 _ _ _ hE1
 refine CallK.exact (refCheck a (by omega) (ha.ext hE1)) fun w2 hE2 => ⟨_, rfl, _, fun _ => refCheck b (by omega) (hb.ext (hE1.trans hE2)), fun w3 hE3 => ?_⟩
 have hE03 := (hE1.trans hE2).trans hE3
 refine ⟨fun hbad => ⟨hE03, ?_⟩, fun hg w4 hE4 => ?_⟩
 ·unfold chkP
  rcases hbad with h | h <;> rw [h] <;> simp
 have hE04 := hE03.trans hE4
 refine ⟨fun s w' => RItems w' s a, fun s w' w'' hE h => h.ext hE, fun w' hE => ?_, fun s w' => RItems w' s b, fun s w' w'' hE h => h.ext hE, fun w' hE => ?_, fun w5 x y hE5 hX hY => ?_⟩
 ·refine Ret.mono (refFlat0 na (ha.ext (hE04.trans hE))) ?_
  rintro v w'' ⟨h1, s, rfl, h2, _⟩
  exact ⟨h1, s, rfl, h2⟩
 ·refine Ret.mono (refFlat0 nb (hb.ext (hE04.trans hE))) ?_
  rintro v w'' ⟨h1, s, rfl, h2, _⟩
  exact ⟨h1, s, rfl, h2⟩
 obtain ⟨hxn, px, hpx, hxc⟩ := hX.at
 obtain ⟨hyn, py, hpy, hyc⟩ := hY.at
 have hE05 := hE04.trans hE5
 have hchk : chkP a b ps = (decide (ps.head? = some (0, 0)) && chkL a b (-1) ps []) := by
  unfold chkP; rw [hg.1, hg.2]; simp
 rw [hchk]
 refine ⟨fun root i w' => ∃ (k : Nat) (last : Int) (seen : List Int), i = (k : Int) ∧ k ≤ ps.length ∧ root = decide ((0, 0) ∈ ps.take k) ∧ -1 ≤ last ∧ (k = 0 → last = -1) ∧ (0 < k → last = (ps.getD (k - 1) (0, 0)).1) ∧ (∀ z, seen.contains z = true ↔ ∃ j, j < k ∧ (ps.getD j (0, 0)).2 = z) ∧ chkL a b (-1) ps [] = chkL a b last (ps.drop k) seen ∧ Ext w5 w', fun _ i _ => ps.length - i.toNat,
  ⟨0, -1, [], rfl, by omega, rfl, by omega, fun _ => rfl, by omega, fun z => by simp, rfl, Chg.refl _ _⟩, ?_⟩
 rintro root _ w6 ⟨k, last, seen, rfl, hk, hroot, hlast, hl0, hl1, hseen, heq, hE6⟩
 refine ⟨fun hi => ?_, fun hi => ⟨hE05.trans hE6, ?_⟩⟩
 ·have hk' : k < ps.length := by omega
  obtain ⟨p, hp, hc⟩ := (hl.ext (hE05.trans hE6)).pairAt hk'
  have hdr : ps.drop k = ps.getD k (0, 0) :: ps.drop (k + 1) := by
   rw [List.drop_eq_getElem_cons hk', List.getD_eq_getElem?_getD, List.getElem?_eq_getElem hk']; rfl
  rw [hdr] at heq
  have htk := take_snoc ps (0, 0) hk'
  have hkk : ps.getD k (0, 0) = ps.getD k (0, 0) := rfl
  generalize hq : ps.getD k (0, 0) = q at hc heq htk
  obtain ⟨qa, qb⟩ := q
  rw [chkL] at heq
  simp only at heq
  refine ⟨⟨by omega, hi⟩, p, hp, qa, qb, hc, fun w7 B7 hN7 hE7 => ?_⟩
  have hE67 := hE6.trans hE7
  have hprev : ∀ w', Ext w w' → 0 < k → w'.cell? ((p.add (((k : Int) - 1).toNat * 2)).add 0) = some (.int .i64 last) := fun w' hE h0 => by
   obtain ⟨p', hp', hc'⟩ := (hl.ext hE).pairAt (k := k - 1) (by omega)
   rw [hp] at hp'; cases hp'
   rw [show ((k : Int) - 1).toNat = k - 1 by omega, hl1 h0]
   exact hc' 0 _ rfl
  by_cases hgd : (0 ≤ qa ∧ qa < (a.size : Int)) ∧ (0 ≤ qb ∧ qb < (b.size : Int)) ∧ last < qa
  ·obtain ⟨⟨g1, g2⟩, ⟨g3, g4⟩, g5⟩ := hgd
   obtain ⟨xa, xs, xk, hxc, _⟩ := hxc w7 hE67 qa.toNat (by omega)
   obtain ⟨ya, ys, yk, hyc, _⟩ := hyc w7 hE67 qb.toNat (by omega)
   refine ⟨fun _ => ⟨by omega, by omega⟩, p, fun h => ⟨⟨by omega, by omega⟩, hp⟩, last, fun h => hprev w7 (hE05.trans hE67) (by omega), px, fun _ => ⟨⟨by omega, by omega⟩, hpx⟩, (a.nd qa.toNat).t.kind, (a.nd qa.toNat).t.name, (a.nd qa.toNat).t.text, xa, Sl.nil, fun _ => Cells.take (Cells.drop hxc 5) 5, py, fun _ => ⟨⟨by omega, by omega⟩, hpy⟩, (b.nd qb.toNat).t.kind, (b.nd qb.toNat).t.name, (b.nd qb.toNat).t.text, ya, Sl.nil, fun _ => Cells.take (Cells.drop hyc 5) 5, _, fun _ w' hE => refKin, ?_, ?_⟩
   ·intro hbad w8 hE8
    refine ⟨(hE05.trans hE67).trans hE8, ?_⟩
    have : (decide (last < qa) && decide (qa < (a.size : Int)) && decide (0 ≤ qb) && decide (qb < (b.size : Int)) && !seen.contains qb && decide ((a.nd qa.toNat).t.kind = (b.nd qb.toNat).t.kind ∧ (a.nd qa.toNat).t.name = (b.nd qb.toNat).t.name)) = false := by
     rcases hbad with ((((h | h) | h) | h) | h) | h
     ·omega
     ·omega
     ·omega
     ·omega
     ·omega
     ·simp only [Bool.and_eq_false_iff, decide_eq_false_iff_not] at h
      have hn : ¬ ((a.nd qa.toNat).t.kind = (b.nd qb.toNat).t.kind ∧ (a.nd qa.toNat).t.name = (b.nd qb.toNat).t.name) := fun h' => h.elim (fun h => h h'.1) (fun h => h h'.2)
      rw [decide_eq_false hn]; simp
    rw [heq, this]; simp
   ·intro hgood w8 hE8
    have hkn : (a.nd qa.toNat).t.kind = (b.nd qb.toNat).t.kind ∧ (a.nd qa.toNat).t.name = (b.nd qb.toNat).t.name := by simpa using hgood.2
    refine ⟨fun kk w' => ∃ j : Nat, kk = (j : Int) ∧ j ≤ k ∧ (∀ i, i < j → (ps.getD i (0, 0)).2 ≠ qb) ∧ Ext w5 w', fun kk _ => k - kk.toNat, ⟨0, rfl, by omega, by omega, hE67.trans hE8⟩, ?_⟩
    rintro _ w9 ⟨j, rfl, hj, hne, hE9⟩
    refine ⟨fun hjk w10 hE10 => ?_, fun hjk => ?_⟩
    ·have hjk' : j < k := by omega
     obtain ⟨p', hp', hc'⟩ := (hl.ext ((hE05.trans hE9).trans hE10)).pairAt (k := j) (by omega)
     refine ⟨p', ⟨⟨by omega, by omega⟩, hp'⟩, (ps.getD j (0, 0)).2, hc' 1 _ rfl, fun he w11 hE11 => ⟨((hE05.trans hE9).trans hE10).trans hE11, ?_⟩, fun hn => ⟨⟨by omega, by omega⟩, fun w11 hE11 => ⟨⟨j + 1, by omega, by omega, fun i hi' => ?_, (hE9.trans hE10).trans hE11⟩, by dsimp only; omega⟩⟩⟩
     ·have hs := (hseen qb).2 ⟨j, hjk', he⟩
      rw [heq, hs]; simp
     ·rcases Nat.lt_or_ge i j with h | h
      ·exact hne i h
      ·rw [show i = j by omega]; exact hn
    ·have hjk' : j = k := by omega
     subst hjk'
     have hs : seen.contains qb = false := by
      rw [Bool.eq_false_iff]; intro h
      obtain ⟨i, hi', he⟩ := (hseen qb).1 h
      exact hne i hi' he
     refine ⟨⟨by omega, by omega⟩, ⟨j + 1, qa, qb :: seen, by omega, by omega, ?_, by omega, by omega, fun _ => ?_, fun z => ?_, ?_, hE9⟩, by dsimp only; omega⟩
     ·rw [htk, hroot]
      simp only [List.mem_append, List.mem_singleton, Prod.mk.injEq]
      rw [Bool.decide_or]
      congr 1
      rw [decide_eq_decide]
      constructor
      ·rintro ⟨h1, h2⟩; exact ⟨h1.symm, h2.symm⟩
      ·rintro ⟨h1, h2⟩; exact ⟨h1.symm, h2.symm⟩
     ·rw [Nat.add_sub_cancel, hq]
     ·have hz := hseen z
      simp only [List.contains_cons, Bool.or_eq_true, beq_iff_eq]
      rw [hz]
      constructor
      ·rintro (h | ⟨i, h1, h2⟩)
       ·exact ⟨j, by omega, by rw [hq, h]⟩
       ·exact ⟨i, by omega, h2⟩
      ·rintro ⟨i, h1, h2⟩
       rcases Nat.lt_or_ge i j with h | h
       ·exact .inr ⟨i, h, h2⟩
       ·rw [show i = j by omega, hq] at h2; exact .inl h2.symm
     ·rw [heq, hs, decide_eq_true g5, decide_eq_true g2, decide_eq_true g3, decide_eq_true g4, decide_eq_true hkn]; rfl
  ·have hf : (decide (last < qa) && decide (qa < (a.size : Int)) && decide (0 ≤ qb) && decide (qb < (b.size : Int))) = false := by
    rw [Bool.eq_false_iff]; intro h
    simp only [Bool.and_eq_true, decide_eq_true_eq] at h
    omega
   refine ⟨fun _ => ⟨by omega, by omega⟩, p, fun h => ⟨⟨by omega, by omega⟩, hp⟩, last, fun h => hprev w7 (hE05.trans hE67) (by omega), px, fun h => by omega, 0, [], [], Sl.nil, Sl.nil, fun h => by omega, px, fun h => by omega, 0, [], [], Sl.nil, Sl.nil, fun h => by omega, false, fun h => by omega, fun _ w8 hE8 => ⟨(hE05.trans hE67).trans hE8, ?_⟩, fun h => (by cases h.2)⟩
   rw [heq, hf]; simp
 ·have hkl : k = ps.length := by omega
  subst hkl
  rw [List.drop_length, chkL] at heq
  rw [List.take_of_length_le (Nat.le_refl _)] at hroot
  rw [heq, hroot, chkL_head heq]; simp
theorem flatten_zc (vs : List Int) : (vs.map zc).flatten = vs.map fun n => .int .i64 n := by
 induction vs with
 |nil => rfl
 |cons x r ih => simp only [List.map_cons, List.flatten_cons, ih, zc, List.singleton_append]
theorem Own.setZ {A : List Nat} {w : World} {s : Sl} {S : TypeId} {vs : List Int} (h : Own A w s 1 S (vs.map zc)) {i : Nat} (hi : i < vs.length) :
  ∃ g cur, s.a = some ⟨g, 0, none⟩ ∧ Box w g S cur ∧ i + 1 ≤ cur.length ∧ ∀ w' (x : Int), Box w' g S (putAt cur i [.int .i64 x]) → Own A w' s 1 S ((vs.set i x).map zc) := by
 have hl := h.len
 rw [List.length_map] at hl
 rcases h.at_ with e | ⟨g, cur, h1, h2, h3, h4, h5⟩
 ·rw [e] at hl; simp [Sl.nil] at hl; omega
 ·have hc := h.cap
  refine ⟨g, cur, h1, h3, by omega, fun w' x hB => ⟨by simpa using hl, h.cap, h.most, ?_, .inr ⟨g, cur.set i (.int .i64 x), h1, h2, hB, by simpa using h4, ?_⟩⟩⟩
  ·intro u hu
   simp only [List.mem_map] at hu
   obtain ⟨y, _, rfl⟩ := hu; rfl
  ·rw [flatten_zc] at h5 ⊢
   rw [List.map_set, ← h5, List.take_set]
structure MRd (A : List Nat) (w : World) (B : Nat) (sa sb : Sl) (fa fb : List Int) : Prop where
 box : Box w B 74 [sa.v, sb.v]
 out : B ∉ A
 a : Own A w sa 1 3 (fa.map zc)
 b : Own A w sb 1 3 (fb.map zc)
 apart : ∀ x ∈ sa.blk, x ∉ sb.blk
theorem MRd.chg {A F : List Nat} {w w' : World} {B : Nat} {sa sb : Sl} {fa fb : List Int} (h : MRd A w B sa sb fa fb) (c : Chg F w w') (hF : ∀ b ∈ F, b ∈ A) : MRd A w' B sa sb fa fb :=
 ⟨h.box.keep c (fun hm => h.out (hF _ hm)), h.out, h.a.chg c hF, h.b.chg c hF, h.apart⟩
theorem MRd.ext {A : List Nat} {w w' : World} {B : Nat} {sa sb : Sl} {fa fb : List Int} (h : MRd A w B sa sb fa fb) (c : Ext w w') : MRd A w' B sa sb fa fb := h.chg c (by simp)
theorem MRd.less {A A' : List Nat} {w : World} {B : Nat} {sa sb : Sl} {fa fb : List Int} (h : MRd A w B sa sb fa fb) (hA : ∀ b ∈ A', b ∈ A) : MRd A' w B sa sb fa fb :=
 ⟨h.box, fun hm => h.out (hA _ hm), h.a.less hA, h.b.less hA, h.apart⟩
theorem refMNew {w : World} (m n : Nat) (hm : m ≤ 1000000000) (hn : n ≤ 1000000000) :
  Calls Try.prog 45 #[.int .i64 (m : Int), .int .i64 (n : Int)] w (Ret fun v w' => Ext w w' ∧ ∃ (B : Nat) (sa sb : Sl), v = .pointer (some ⟨B, 0, none⟩) ∧ MRd (List.range w.heap.size) w' B sa sb (List.replicate m (-1)) (List.replicate n (-1))) := by
 refine ref19_New.ok _ _ ?_
 unfold ref19_New.vc
 intro w1 B1 hN1 hE1
 have g1 := hN1.ge
 have l1 := hN1.lt
 refine ⟨fun i c w' => ∃ k : Nat, i = (k : Int) ∧ k ≤ m ∧ Own (B1 :: List.range w.heap.size) w' c 1 3 ((List.replicate k (-1 : Int)).map zc) ∧ Ext w w' ∧ B1 < w'.heap.size, fun i _ _ => m - i.toNat, ⟨0, rfl, by omega, Own.nil _ _ _ _, hE1, l1⟩, ?_⟩
 rintro _ c w2 ⟨k, rfl, hk, hO, hE2, hl2⟩
 refine ⟨fun hi w3 B3 hN3 hE3 hbox => ?_, fun hi => ?_⟩
 ·have hcn := hO.len
  simp only [List.length_map, List.length_replicate] at hcn
  have hbox' : Box w3 B3 3 (zc (-1)) := hbox
  have s3 := hE3.size
  refine App.runK Try.underlying22 ti_3 rfl (by decide) (.inl (hO.ext hE3)) (fun b hb => ?_) (Own.one (A := []) hbox' (by simp)).row (ones_zc _) (by simp) (by simp only [maxLen, List.length_singleton]; omega) (by simp only [List.length_singleton]; omega) (by simp) fun s' w4 ho4 hC4 hb4 => ⟨s', rfl, ⟨by omega, by omega⟩, fun w5 hC5 => ⟨⟨k + 1, by omega, by omega, ?_, ?_, ?_⟩, by dsimp only; omega⟩⟩
  ·have := hE2.size
   rcases List.mem_cons.1 hb with rfl | hb
   ·omega
   ·have := List.mem_range.1 hb; omega
  ·rw [List.replicate_succ', List.map_append]
   exact ho4.chg hC5 (by simp)
  ·have h4 : Ext w w4 := Chg.fresh (hE2.trans hE3) hC4 fun b hb => by
    have := (hO.blk b (Sl.own_blk hb)).1
    simp at this; omega
   exact Chg.fresh h4 hC5 (by simpa using g1)
  ·have := hC4.size; have := hC5.size; omega
 have hkm : k = m := by omega
 subst hkm
 refine ⟨fun i d w' => ∃ j : Nat, i = (j : Int) ∧ j ≤ n ∧ Own (B1 :: (c.blk ++ List.range w.heap.size)) w' d 1 3 ((List.replicate j (-1 : Int)).map zc) ∧ Own (B1 :: List.range w.heap.size) w' c 1 3 ((List.replicate k (-1 : Int)).map zc) ∧ Ext w w' ∧ B1 < w'.heap.size, fun i _ _ => n - i.toNat, ⟨0, rfl, by omega, Own.nil _ _ _ _, hO, hE2, hl2⟩, ?_⟩
 rintro _ d w3 ⟨j, rfl, hj, hD, hO3, hE3, hl3⟩
 refine ⟨fun hi w4 B4 hN4 hE4 hbox => ?_, fun hi hbox => ?_⟩
 ·have hdn := hD.len
  simp only [List.length_map, List.length_replicate] at hdn
  have hbox' : Box w4 B4 3 (zc (-1)) := hbox
  have s4 := hE4.size
  refine App.runK Try.underlying22 ti_3 rfl (by decide) (.inl (hD.ext hE4)) (fun b hb => ?_) (Own.one (A := []) hbox' (by simp)).row (ones_zc _) (by simp) (by simp only [maxLen, List.length_singleton]; omega) (by simp only [List.length_singleton]; omega) (by simp) fun s' w5 ho5 hC5 hb5 => ⟨s', rfl, ⟨by omega, by omega⟩, fun w6 hC6 => ⟨⟨j + 1, by omega, by omega, ?_, ?_, ?_, ?_⟩, by dsimp only; omega⟩⟩
  ·have := hE3.size
   rcases List.mem_cons.1 hb with rfl | hb
   ·omega
   rcases List.mem_append.1 hb with hb | hb
   ·have := (hO3.blk b hb).2; omega
   ·have := List.mem_range.1 hb; omega
  ·rw [List.replicate_succ', List.map_append]
   exact ho5.chg hC6 (by simp)
  ·exact ((hO3.ext hE4).keep hC5 (fun b hb hm => (hD.blk b (Sl.own_blk hm)).1 (by simp [hb]))).chg hC6 (by simp)
  ·have h4 : Ext w w5 := Chg.fresh (hE3.trans hE4) hC5 fun b hb => by
    have := (hD.blk b (Sl.own_blk hb)).1
    simp at this; omega
   exact Chg.fresh h4 hC6 (by simpa using g1)
  ·have := hC5.size; have := hC6.size; omega
 have hjn : j = n := by omega
 subst hjn
 refine ⟨hE3, B1, c, d, rfl, hbox, by simp; omega, hO3.less (fun b hb => List.mem_cons_of_mem _ hb), hD.less (fun b hb => List.mem_cons_of_mem _ (List.mem_append_right _ hb)), fun b hb hm => (hD.blk b hm).1 (by simp [hb])⟩
theorem refAdd {A : List Nat} {w : World} {B : Nat} {sa sb : Sl} {fa fb : List Int} (h : MRd A w B sa sb fa fb) {i j : Nat} (hi : i < fa.length) (hj : j < fb.length) :
  Calls Try.prog 32 #[.pointer (some ⟨B, 0, none⟩), .int .i64 (i : Int), .int .i64 (j : Int)] w (Ret fun v w' => Chg (sa.blk ++ sb.blk) w w' ∧ v = .tuple #[] ∧ MRd A w' B sa sb (fa.set i (j : Int)) (fb.set j (i : Int))) := by
 refine ref19_M_Add.ok _ _ _ ?_
 unfold ref19_M_Add.vc
 have hna := h.a.len
 have hnb := h.b.len
 rw [List.length_map] at hna hnb
 obtain ⟨ga, ca, ha1, ha2, ha3, ha4⟩ := h.a.setZ hi
 have hga : sa.blk = [ga] := by simp [Sl.blk, ha1]
 refine ⟨sa, h.box.cell 0 _ rfl, ⟨by omega, by omega⟩, _, ha1, ga, i, 3, ca, by simp [Addr.add_lit], ha2, by omega, by simp, fun w1 hC1 hb1 => ?_⟩
 have hBa : B ∉ [ga] := by
  have := h.a.other h.box (by decide)
  rw [hga] at this; exact this
 have hO1 := ha4 w1 (j : Int) hb1
 have hbox1 := h.box.keep hC1 hBa
 have hP1 : Own A w1 sb 1 3 (fb.map zc) := h.b.keep hC1 (fun b hb hm => h.apart b (by rw [hga]; exact hm) hb)
 obtain ⟨gb, cb, hb1', hb2, hb3, hb4⟩ := hP1.setZ hj
 have hgb : sb.blk = [gb] := by simp [Sl.blk, hb1']
 refine ⟨sb, hbox1.cell 1 _ rfl, ⟨by omega, by omega⟩, _, hb1', gb, j, 3, cb, by simp [Addr.add_lit], hb2, by omega, by simp, fun w2 hC2 hb2' => ?_⟩
 have hBb : B ∉ [gb] := by
  have := h.b.other h.box (by decide)
  rw [hgb] at this; exact this
 refine ⟨(hC1.mono (by simp [hga])).trans (hC2.mono (by simp [hgb])), rfl, hbox1.keep hC2 hBb, h.out, ?_, hb4 w2 (i : Int) hb2', h.apart⟩
 exact hO1.keep hC2 (fun b hb hm => h.apart b hb (by rw [hgb]; exact hm))
end
section
open Go.RowKit Go.MapKept
structure CRd (w : World) (c : Nat) (o x : T) (ro rx L : Sl) (m : Nat) (sa sb : Sl) (fa fb : List Int) : Prop where
 box : Box w c 91 [ro.v, rx.v, .pointer (some ⟨m, 0, none⟩), L.v]
 o : RItems w ro o
 x : RItems w rx x
 m : MRd [] w m sa sb fa fb
theorem CRd.ext {w w' : World} {c : Nat} {o x : T} {ro rx L : Sl} {m : Nat} {sa sb : Sl} {fa fb : List Int} (h : CRd w c o x ro rx L m sa sb fa fb) (k : Ext w w') : CRd w' c o x ro rx L m sa sb fa fb := ⟨h.box.ext k, h.o.ext k, h.x.ext k, h.m.ext k⟩
def idF (fb : List Int) (k : Nat) : Int := if 0 ≤ fb.getD k 0 then fb.getD k 0 else -2 - (k : Int)
theorem refId {w : World} {c : Nat} {o x : T} {ro rx L : Sl} {m : Nat} {sa sb : Sl} {fa fb : List Int} (h : CRd w c o x ro rx L m sa sb fa fb) {k : Nat} (hk : k < fb.length) (hb : fb.length ≤ 1000000000) :
  Calls Try.prog 67 #[.pointer (some ⟨c, 0, none⟩), .int .i64 (k : Int)] w (Ret fun v w' => Ext w w' ∧ v = .int .i64 (idF fb k)) := by
 refine ref25_C_id.ok _ _ ?_
 unfold ref25_C_id.vc
 obtain ⟨p, hp, hc⟩ := h.m.b.row.zAt hk
 have hn := h.m.b.len
 rw [List.length_map] at hn
 refine ⟨_, h.box.cell 2 _ rfl, _, rfl, sb, h.m.box.cell 1 _ rfl, ⟨by omega, by omega⟩, p, hp, fb.getD k 0, hc, fun h0 => ⟨_, h.box.cell 2 _ rfl, _, rfl, sb, h.m.box.cell 1 _ rfl, ⟨by omega, by omega⟩, p, hp, fb.getD k 0, hc, Chg.refl _ _, ?_⟩, fun h0 => ⟨⟨by omega, by omega⟩, Chg.refl _ _, ?_⟩⟩
 ·unfold idF; rw [if_pos h0]
 ·unfold idF; rw [if_neg h0]
theorem refKids25 {w : World} {c : Nat} {o x : T} {ro rx L : Sl} {m : Nat} {sa sb : Sl} {fa fb : List Int} (h : CRd w c o x ro rx L m sa sb fa fb) {p : Nat} (hp : p < x.size) (hx : x.size ≤ 1000000000) (hfb : fb.length = x.size) :
  Calls Try.prog 68 #[.pointer (some ⟨c, 0, none⟩), .int .i64 (p : Int)] w (Ret fun v w' => Ext w w' ∧ ∃ s : Sl, v = s.v ∧ Own (List.range w.heap.size) w' s 1 3 (((x.kidsAt p).map (idF fb)).map zc)) := by
 refine ref25_C_Kids.ok _ _ ?_
 unfold ref25_C_Kids.vc
 refine ⟨rx, h.box.cell 1 _ rfl, CallK.ext (refKids h.x hx hp) ?_⟩
 rintro v w1 hE1 ⟨s, rfl, hK⟩
 have hkl := x.kidsAt_lt hp
 have hkn := T.kidsAt_len x hp
 have hsn := hK.len
 rw [List.length_map] at hsn
 have hK' : Own (List.range w.heap.size) w1 s 1 3 (((x.kidsAt p).map fun k : Nat => (k : Int)).map zc) := by
  have e : (x.kidsAt p).map nc = ((x.kidsAt p).map fun k : Nat => (k : Int)).map zc := by simp [nc, zc]
  rwa [e] at hK
 refine ⟨s, rfl, fun i w' => ∃ k : Nat, i = (k : Int) ∧ k ≤ (x.kidsAt p).length ∧ Own (List.range w.heap.size) w' s 1 3 ((((x.kidsAt p).take k).map (idF fb) ++ ((x.kidsAt p).drop k).map fun k : Nat => (k : Int)).map zc) ∧ Ext w w', fun i _ => (x.kidsAt p).length - i.toNat, ⟨0, rfl, by omega, by simpa using hK', hE1⟩, ?_⟩
 rintro _ w2 ⟨k, rfl, hk, hO, hE2⟩
 refine ⟨fun hi => ?_, fun hi => ?_⟩
 ·have hk' : k < (x.kidsAt p).length := by omega
  have hlen : (((x.kidsAt p).take k).map (idF fb) ++ ((x.kidsAt p).drop k).map fun k : Nat => (k : Int)).length = (x.kidsAt p).length := by simp; omega
  obtain ⟨a, ha, hc⟩ := hO.row.zAt (k := k) (by omega)
  have hdr : (x.kidsAt p).drop k = (x.kidsAt p).getD k 0 :: (x.kidsAt p).drop (k + 1) := by
   rw [List.drop_eq_getElem_cons hk', List.getD_eq_getElem?_getD, List.getElem?_eq_getElem hk']; rfl
  have htk := take_snoc (x.kidsAt p) 0 hk'
  have hq := hkl _ (getD_mem (d := 0) hk')
  generalize (x.kidsAt p).getD k 0 = q at hdr htk hq
  have hget : (((x.kidsAt p).take k).map (idF fb) ++ ((x.kidsAt p).drop k).map fun k : Nat => (k : Int)).getD k 0 = (q : Int) := by
   rw [List.getD_eq_getElem?_getD, List.getElem?_append_right (by simp; omega), hdr]
   simp [Nat.min_eq_left hk]
  rw [hget] at hc
  refine ⟨⟨by omega, by omega⟩, a, ha, _, hc, CallK.exact (refId (h.ext hE2) (by omega) (by omega)) fun w3 hE3 => ⟨_, rfl, ⟨by omega, by omega⟩, a, ha, ?_⟩⟩
  obtain ⟨g, cur, hg1, hg2, hg3, hg4⟩ := (hO.ext hE3).setZ (i := k) (by omega)
  have hga : s.blk = [g] := by simp [Sl.blk, hg1]
  have hag : a = ⟨g, 0, none⟩ := by rw [hg1] at ha; exact (Option.some.inj ha).symm
  refine ⟨g, k, 3, cur, by rw [hag]; simp [Addr.add_lit], hg2, by omega, by simp, fun w4 hC4 hb4 => ⟨⟨by omega, by omega⟩, ⟨k + 1, by omega, by omega, ?_, ?_⟩, by dsimp only; omega⟩⟩
  ·have := hg4 w4 (idF fb q) (by simpa using hb4)
   rw [htk]
   have e : (((x.kidsAt p).take k).map (idF fb) ++ ((x.kidsAt p).drop k).map fun k : Nat => (k : Int)).set k (idF fb q) = (((x.kidsAt p).take k ++ [q]).map (idF fb) ++ ((x.kidsAt p).drop (k + 1)).map fun k : Nat => (k : Int)) := by
    rw [hdr, List.set_append_right _ _ (by simp; omega)]
    simp [Nat.min_eq_left hk]
   rwa [e] at this
  ·refine Chg.fresh (hE2.trans hE3) hC4 fun b hb => ?_
   have := (hO.blk b (by rw [hga]; exact hb)).1
   simp at this; omega
 ·have hkl' : k = (x.kidsAt p).length := by omega
  subst hkl'
  refine ⟨hE2, s, rfl, ?_⟩
  simpa using hO
def slotR (o x : T) (fa fb : List Int) (i : Nat) : SV := if fa.getD i 0 < 0 then ⟨true, false, [], [], 0, []⟩ else
 ⟨false, decide ((o.nd i).t.text ≠ (x.nd (fa.getD i 0).toNat).t.text), setOf (o.nd i).t.attrs (x.nd (fa.getD i 0).toNat).t.attrs, unsetOf (o.nd i).t.attrs (x.nd (fa.getD i 0).toNat).t.attrs, if 0 ≤ (x.nd (fa.getD i 0).toNat).par then idF fb (x.nd (fa.getD i 0).toNat).par.toNat else -1, (x.kidsAt (fa.getD i 0).toNat).map (idF fb)⟩
theorem attrs_le (t : T) {j : Nat} (hb : t.bulk ≤ 400000000) (hj : j < t.size) : (t.nd j).t.attrs.length ≤ 1000000000 := by
 have h1 := T.flat_bulk t _ (List.mem_of_getElem? (t.flat_get hj))
 have h2 := T.slots_bulk (t.nd j).t
 have h3 := T.slots_eq (t.nd j).t
 have h4 : (t.nd j).t.bulk ≤ t.bulk := h1
 omega
theorem refSlot {w : World} {c : Nat} {o x : T} {ro rx L : Sl} {m : Nat} {sa sb : Sl} {fa fb : List Int} (h : CRd w c o x ro rx L m sa sb fa fb) (no : o.bulk ≤ 400000000) (nx : x.bulk ≤ 400000000) (hfa : fa.length = o.size) (hfb : fb.length = x.size) {i : Nat} (hi : i < o.size) (hlt : ∀ z ∈ fa, z < x.size) :
  Calls Try.prog 46 #[.pointer (some ⟨c, 0, none⟩), .int .i64 (i : Int)] w (Ret fun v w' => Ext w w' ∧ ∃ se un ki : Sl, v = .agg (slc (slotR o x fa fb i) se un ki).toArray ∧ Own [] w' se 2 47 ((slotR o x fa fb i).set.map ac) ∧ Own [] w' un 1 9 ((slotR o x fa fb i).unset.map wc) ∧ Own [] w' ki 1 3 ((slotR o x fa fb i).kids.map zc)) := by
 refine ref25_C_slot.ok _ _ ?_
 unfold ref25_C_slot.vc
 have hso := T.size_bulk o
 have hsx := T.size_bulk x
 intro w1 B3 hN3 hE1
 have g3 := hN3.ge
 have h1 := h.ext hE1
 obtain ⟨p, hp, hc⟩ := h1.m.a.row.zAt (k := i) (by omega)
 have hn := h1.m.a.len
 rw [List.length_map] at hn
 have hmem := hlt _ (getD_mem (d := 0) (show i < fa.length by omega))
 refine ⟨_, h1.box.cell 2 _ rfl, _, rfl, sa, h1.m.box.cell 0 _ rfl, ⟨by omega, by omega⟩, p, hp, fa.getD i 0, hc, fun hneg w2 hC2 => ?_, fun hpos w2 hE2 => ?_⟩
 ·have e : slotR o x fa fb i = ⟨true, false, [], [], 0, []⟩ := by unfold slotR; rw [if_pos hneg]
  rw [e]
  exact ⟨Chg.fresh hE1 hC2 (by simpa using g3), Sl.nil, Sl.nil, Sl.nil, rfl, Own.nil _ _ _ _, Own.nil _ _ _ _, Own.nil _ _ _ _⟩
 have hsl : slotR o x fa fb i = slotR o x fa fb i := rfl
 conv at hsl => rhs; unfold slotR
 rw [if_neg hpos] at hsl
 rw [hsl]
 clear hsl
 generalize fa.getD i 0 = z at hmem hpos
 obtain ⟨j, rfl⟩ : ∃ j : Nat, z = (j : Int) := ⟨z.toNat, by omega⟩
 simp only [Int.toNat_natCast]
 have hj : j < x.size := by omega
 have h2 := h1.ext hE2
 have hE02 := hE1.trans hE2
 obtain ⟨hon, po, hpo, hoc⟩ := h2.o.at
 obtain ⟨hxn, px, hpx, hxc⟩ := h2.x.at
 obtain ⟨oa, oq, ok', hoc, hor⟩ := hoc w2 (Chg.refl _ _) i hi
 obtain ⟨xa, xq, xk, hxcj, hxr⟩ := hxc w2 (Chg.refl _ _) j hj
 have nao := attrs_le o no hi
 have nax := attrs_le x nx hj
 generalize hta : (o.nd i).t.attrs = aa at hor nao
 generalize htb : (x.nd j).t.attrs = bb at hxr nax
 refine ⟨ro, h2.box.cell 0 _ rfl, po, ⟨⟨by omega, by omega⟩, hpo⟩, (o.nd i).t.kind, (o.nd i).t.name, (o.nd i).t.text, oa, Sl.nil, ?_, rx, h2.box.cell 1 _ rfl, px, ⟨⟨by omega, by omega⟩, hpx⟩, (x.nd j).t.kind, (x.nd j).t.name, (x.nd j).t.text, xa, Sl.nil, ?_, ?_⟩
 ·exact Cells.take (Cells.drop hoc 5) 5
 ·exact Cells.take (Cells.drop hxcj 5) 5
 intro w3 B4 B5 hE3 g4 hb4 g5 hb5 w4 B6 hN6 hC4
 have g6 := hN6.ge
 have l6 := hN6.lt
 have s02 := hE02.size
 have s3 := hE3.size
 have hE24 : Ext w2 w4 := Chg.fresh hE3 hC4 (by simp; omega)
 have h4 := h2.ext hE24
 have hla := hor.len
 have hlb := hxr.len
 rw [List.length_map] at hla hlb
 have s24 := hE24.size
 have hB4 : B4 < w4.heap.size ∧ B5 < w4.heap.size ∧ B3 < w2.heap.size := by
  have := hN3.lt
  have := hb4.lt; have := hb5.lt; have := hC4.size; have := hE2.size; have := hN6.ge
  omega
 have hAs : ∀ w' : World, w4.heap.size ≤ w'.heap.size → ∀ b ∈ B3 :: B4 :: B5 :: B6 :: List.range w2.heap.size, b < w'.heap.size := fun w' hw b hb => by
  simp only [List.mem_cons, List.mem_range] at hb
  rcases hb with rfl | rfl | rfl | rfl | hb <;> omega
 have hAg : ∀ {s : Sl} {w' : World} {S : TypeId} {sz : Nat} {us : List (List Value)}, Own (B3 :: B4 :: B5 :: B6 :: List.range w2.heap.size) w' s sz S us → ∀ b ∈ s.own, w2.heap.size ≤ b := fun ho b hb => by
  have := (ho.blk b (Sl.own_blk hb)).1
  simp at this; omega
 have hO6 : ∀ {w' w'' : World}, Ext w2 w' → Chg [B6] w' w'' → Ext w2 w'' := fun h c => Chg.fresh h c (by simp; omega)
 refine ⟨fun i c w' => ∃ k : Nat, i = (k : Int) ∧ k ≤ bb.length ∧ Own (B3 :: B4 :: B5 :: B6 :: List.range w2.heap.size) w' c 2 47 (((bb.take k).filter (setKeep aa)).map ac) ∧ w4.heap.size ≤ w'.heap.size ∧ Ext w2 w', fun i _ _ => bb.length - i.toNat, ⟨0, rfl, by omega, Own.nil _ _ _ _, Nat.le_refl _, hE24⟩, ?_⟩
 rintro _ c1 w5 ⟨k, rfl, hk, hO, hsz, hE25⟩
 refine ⟨fun hi w6 hE6 => ?_, fun hi => ?_⟩
 ·have hk' : k < bb.length := by omega
  have hE26 := hE25.trans hE6
  obtain ⟨pp, hpp, hcc⟩ := (hxr.ext hE26).row.attrAt hk'
  have hcq : ∀ w', Ext w6 w' → Cells w' (pp.add (k * 2)) (ac (bb.getD k ([], []))) := fun w' hE => hcc.ext hE
  have hfs := filter_take_succ (setKeep aa) ([], []) hk'
  generalize bb.getD k ([], []) = q at hcq hcc hfs
  obtain ⟨qn, qv⟩ := q
  refine ⟨pp, ⟨⟨by omega, hi⟩, hpp⟩, qn, hcc 0 _ rfl, (attrGet aa qn).1, (attrGet aa qn).2, fun w' hE => refAttr (hor.ext (hE26.trans hE)).row qn, pp, fun _ => ⟨⟨by omega, hi⟩, hpp⟩, fun w7 hE7 => ⟨qv, fun _ => hcq w7 hE7 1 _ rfl, fun hset w8 hE8 => ⟨pp, ⟨⟨by omega, hi⟩, hpp⟩, qn, qv, hcq w8 (hE7.trans hE8), fun w9 B9 hE9 g9 hb9 _ => ?_⟩, fun hno => ⟨⟨by omega, by omega⟩, ⟨k + 1, by omega, by omega, ?_, ?_, hE26.trans hE7⟩, by dsimp only; omega⟩⟩⟩
  ·have hE59 := ((hE6.trans hE7).trans hE8).trans hE9
   have hkeep : setKeep aa (qn, qv) = true := by
    unfold setKeep
    rcases hset with h | h
    ·rw [show (attrGet aa qn).2 = false from h]; rfl
    ·rw [decide_eq_false (show ¬ (attrGet aa qn).1 = qv from h)]; simp
   have hcn := hO.len
   rw [List.length_map] at hcn
   have hcl : ((bb.take k).filter (setKeep aa)).length ≤ k := Nat.le_trans (List.length_filter_le _ _) (by simp; omega)
   have hbox' : Box w9 B9 47 (ac (qn, qv)) := hb9
   have s9 := hE59.size
   refine App.runK Try.underlying23 ti_47 rfl (by decide) (.inl (hO.ext hE59)) (hAs w9 (by omega)) (Own.one (A := []) hbox' (by simp)).row (ones_ac _) (by simp) (by simp only [maxLen, List.length_singleton]; omega) (by simp only [List.length_singleton]; omega) (fun x hx => by simp at hx ⊢; omega) fun s' w10 ho10 hC10 hb10 => ⟨s', rfl, ⟨by omega, by omega⟩, fun w11 hC11 => ⟨⟨k + 1, by omega, by omega, ?_, ?_, ?_⟩, by dsimp only; omega⟩⟩
   ·rw [hfs, hkeep, if_pos rfl, List.map_append]
    exact ho10.chg hC11 (by simp)
   ·have := hC10.size; have := hC11.size; omega
   ·exact hO6 (Chg.fresh (hE25.trans hE59) hC10 (hAg hO)) hC11
  ·have hkeep : setKeep aa (qn, qv) = false := by
    unfold setKeep
    rw [show (attrGet aa qn).2 = true from hno.1, show (attrGet aa qn).1 = qv from Classical.not_not.1 hno.2]; simp
   rw [hfs, hkeep]; simpa using (hO.ext (hE6.trans hE7))
  ·have := (hE6.trans hE7).size; omega
 have hkl : k = bb.length := by omega
 subst hkl
 rw [List.take_of_length_le (Nat.le_refl _)] at hO
 refine ⟨fun i u w' => ∃ k : Nat, i = (k : Int) ∧ k ≤ aa.length ∧ Own (B3 :: B4 :: B5 :: B6 :: List.range w2.heap.size) w' u 1 9 ((((aa.take k).filter fun p => !(attrGet bb p.1).2).map (·.1)).map wc) ∧ Own (B3 :: B4 :: B5 :: B6 :: List.range w2.heap.size) w' c1 2 47 ((setOf aa bb).map ac) ∧ w4.heap.size ≤ w'.heap.size ∧ Ext w2 w', fun i _ _ => aa.length - i.toNat, ⟨0, rfl, by omega, Own.nil _ _ _ _, hO, hsz, hE25⟩, ?_⟩
 rintro _ u w6 ⟨k, rfl, hk, hU, hO3, hsz3, hE26⟩
 refine ⟨fun hi w7 hE7 => ?_, fun hi => ?_⟩
 ·have hk' : k < aa.length := by omega
  have hE27 := hE26.trans hE7
  obtain ⟨pp, hpp, hcc⟩ := (hor.ext hE27).row.attrAt hk'
  have hcq : ∀ w', Ext w7 w' → Cells w' (pp.add (k * 2)) (ac (aa.getD k ([], []))) := fun w' hE => hcc.ext hE
  have hfs := filter_take_succ (fun p => !(attrGet bb p.1).2) ([], []) hk'
  generalize aa.getD k ([], []) = q at hcq hcc hfs
  obtain ⟨qn, qv⟩ := q
  refine ⟨pp, ⟨⟨by omega, hi⟩, hpp⟩, qn, hcc 0 _ rfl, (attrGet bb qn).1, (attrGet bb qn).2, fun w' hE => refAttr (hxr.ext (hE27.trans hE)).row qn, fun hset w8 hE8 => ⟨pp, ⟨⟨by omega, hi⟩, hpp⟩, qn, hcq w8 hE8 0 _ rfl, fun w9 B9 hE9 g9 hb9 _ => ?_⟩, fun hno => ⟨⟨by omega, by omega⟩, fun w8 hE8 => ⟨⟨k + 1, by omega, by omega, ?_, hO3.ext (hE7.trans hE8), ?_, hE27.trans hE8⟩, by dsimp only; omega⟩⟩⟩
  ·have hE69 := (hE7.trans hE8).trans hE9
   have hun := hU.len
   rw [List.length_map, List.length_map] at hun
   have hul : ((aa.take k).filter fun p => !(attrGet bb p.1).2).length ≤ k := Nat.le_trans (List.length_filter_le _ _) (by simp; omega)
   have hbox' : Box w9 B9 9 (wc qn) := hb9
   have s9 := hE69.size
   refine App.runK Try.underlying41 ti_9 rfl (by decide) (.inl (hU.ext hE69)) (hAs w9 (by omega)) (Own.one (A := []) hbox' (by simp)).row (ones_wc _) (by simp) (by simp only [maxLen, List.length_singleton]; omega) (by simp only [List.length_singleton]; omega) (fun x hx => by simp at hx ⊢; omega) fun s' w10 ho10 hC10 hb10 => ⟨s', rfl, ⟨by omega, by omega⟩, fun w11 hC11 => ⟨⟨k + 1, by omega, by omega, ?_, ?_, ?_, ?_⟩, by dsimp only; omega⟩⟩
   ·rw [hfs, show (!(attrGet bb (qn, qv).1).2) = true by rw [show (attrGet bb qn).2 = false from hset]; rfl, if_pos rfl, List.map_append, List.map_append]
    exact ho10.chg hC11 (by simp)
   ·have h9 := hO3.ext hE69
    exact (h9.keep hC10 (fun x hx hm => ((hU.ext hE69).apart h9 (by decide)) x (Sl.own_blk hm) hx)).chg hC11 (by simp)
   ·have := hC10.size; have := hC11.size; omega
   ·exact hO6 (Chg.fresh (hE26.trans hE69) hC10 (hAg hU)) hC11
  ·rw [hfs, show (!(attrGet bb (qn, qv).1).2) = false by rw [show (attrGet bb qn).2 = true from hno]; rfl]; simpa using (hU.ext (hE7.trans hE8))
  ·have := (hE7.trans hE8).size; omega
 have hkl : k = aa.length := by omega
 subst hkl
 rw [List.take_of_length_le (Nat.le_refl _)] at hU
 have h6 := h2.ext hE26
 obtain ⟨_, px', hpx', hxc'⟩ := h6.x.at
 rw [hpx] at hpx'; cases hpx'
 obtain ⟨_, _, _, hxcj', _⟩ := hxc' w6 (Chg.refl _ _) j hj
 have hpar := hxcj' 0 _ rfl
 have hpl : (x.nd j).par < j := T.flat_lt x (x.flat_get hj)
 refine ⟨rx, h6.box.cell 1 _ rfl, ⟨by omega, by omega⟩, px, hpx, (x.nd j).par, hpar, fun c' w' => c' = (if 0 ≤ (x.nd j).par then idF fb (x.nd j).par.toNat else -1) ∧ Own (B3 :: B4 :: B5 :: B6 :: List.range w2.heap.size) w' c1 2 47 ((setOf aa bb).map ac) ∧ Own (B3 :: B4 :: B5 :: B6 :: List.range w2.heap.size) w' u 1 9 ((unsetOf aa bb).map wc) ∧ Ext w2 w' ∧ w4.heap.size ≤ w'.heap.size, ⟨fun h0 => ⟨rx, h6.box.cell 1 _ rfl, ⟨by omega, by omega⟩, px, hpx, (x.nd j).par, hpar, ?_⟩, fun h0 => ⟨by rw [if_neg h0], hO3, hU, hE26, hsz3⟩⟩, ?_⟩
 ·have hid := refId h6 (k := (x.nd j).par.toNat) (by omega) (by omega)
  rw [show (((x.nd j).par.toNat : Nat) : Int) = (x.nd j).par by omega] at hid
  refine CallK.exact hid fun w7 hE7 => ⟨_, rfl, fun w8 hC8 => ⟨by rw [if_pos h0], (hO3.ext hE7).chg hC8 (by simp), (hU.ext hE7).chg hC8 (by simp), hO6 (hE26.trans hE7) hC8, by have := hE7.size; have := hC8.size; omega⟩⟩
 rintro c' w7 ⟨rfl, hO7, hU7, hE27, hsz7⟩
 refine CallK.ext (refKids25 (h2.ext hE27) hj (by omega) hfb) ?_
 rintro v w8 hE8 ⟨ki, rfl, hK⟩
 have hE28 := hE27.trans hE8
 refine ⟨ki, rfl, fun w9 hC9 => ⟨?_, c1, u, ki, rfl, ?_, ?_, ?_⟩⟩
 ·exact Chg.fresh (hE02.trans hE28) hC9 (by simp; omega)
 ·exact ((hO7.ext hE8).chg hC9 (by simp)).less (by simp)
 ·exact ((hU7.ext hE8).chg hC9 (by simp)).less (by simp)
 ·refine (hK.chg hC9 fun b hb => ?_).less (by simp)
  have := hE27.size
  simp only [List.mem_cons, List.not_mem_nil, or_false] at hb
  have := hE2.size
  rw [List.mem_range]
  rcases hb with rfl | rfl
  ·omega
  ·omega
theorem RItems.box {w w' : World} {s : Sl} {t : T} (h : RItems w s t) {B : Nat} {S : TypeId} {cs : List Value} (hB : Box w B S cs) (h1 : 38 ≠ S) (h2 : 47 ≠ S) (c : Chg [B] w w') : RItems w' s t := by
 obtain ⟨rows, ho, hr⟩ := h
 refine ⟨rows, ho.keep c fun b hb hm => ?_, hr.1, fun i e u he hu => ?_⟩
 ·have := ho.other hB h1
  simp at hm; subst hm; exact this hb
 ·obtain ⟨a, sa, sk, e1, e2⟩ := hr.2 i e u he hu
  refine ⟨a, sa, sk, e1, e2.keep c fun b hb hm => ?_⟩
  have := e2.other hB h2
  simp at hm; subst hm; exact this hb
def setA (l : List Int) (p : Int × Int) : List Int := l.set p.1.toNat p.2
def faN (n : Nat) (ps : List (Int × Int)) : List Int := ps.foldl setA (List.replicate n (-1))
theorem faN_len (n : Nat) (ps : List (Int × Int)) : (faN n ps).length = n := by
 have key : ∀ (ps : List (Int × Int)) (l : List Int), (ps.foldl setA l).length = l.length := by
  intro ps
  induction ps with
  |nil => intro l; rfl
  |cons p r ih => intro l; rw [List.foldl_cons, ih]; simp [setA]
 unfold faN; rw [key]; simp
theorem faN_snoc (n : Nat) (ps : List (Int × Int)) (p : Int × Int) : faN n (ps ++ [p]) = (faN n ps).set p.1.toNat p.2 := by
 unfold faN; rw [List.foldl_append]; rfl
theorem faN_get (n : Nat) (i : Nat) (hi : i < n) (ps : List (Int × Int)) (hp : ∀ p ∈ ps, 0 ≤ p.1) : (faN n ps).getD i 0 = (toF ps i).getD (-1) := by
 have key : ∀ (r l : List (Int × Int)), (∀ p ∈ r, 0 ≤ p.1) → (faN n l).getD i 0 = (toF l i).getD (-1) → (faN n (l ++ r)).getD i 0 = (toF (l ++ r) i).getD (-1) := by
  intro r
  induction r with
  |nil => intro l _ h; simpa using h
  |cons p r ih =>
   intro l hp h
   have e : l ++ p :: r = (l ++ [p]) ++ r := by simp
   rw [e]
   refine ih (l ++ [p]) (fun q hq => hp q (by simp [hq])) ?_
   rw [faN_snoc, toF_snoc]
   have h0 := hp p (by simp)
   have hl := faN_len n l
   by_cases hq : (i : Int) = p.1
   ·rw [if_pos hq]
    rw [List.getD_eq_getElem?_getD, List.getElem?_set, if_pos (by omega), if_pos (by omega)]; rfl
   ·rw [if_neg hq, ← h, List.getD_eq_getElem?_getD, List.getElem?_set, if_neg (by omega), ← List.getD_eq_getElem?_getD]
 have := key ps [] hp (by simp [faN, toF, List.getD_eq_getElem?_getD, hi])
 simpa using this
theorem faN_lt (n m : Nat) : ∀ (ps : List (Int × Int)), (∀ p ∈ ps, p.2 < (m : Int)) → ∀ z ∈ faN n ps, z < m := by
 have key : ∀ (ps : List (Int × Int)) (l : List Int), (∀ p ∈ ps, p.2 < (m : Int)) → (∀ z ∈ l, z < m) → ∀ z ∈ ps.foldl setA l, z < m := by
  intro ps
  induction ps with
  |nil => intro l _ h; exact h
  |cons p r ih =>
   intro l hp h
   rw [List.foldl_cons]
   refine ih _ (fun q hq => hp q (by simp [hq])) fun z hz => ?_
   rcases List.mem_or_eq_of_mem_set hz with hz | hz
   ·exact h z hz
   ·rw [hz]; exact hp p (by simp)
 intro ps hp
 exact key ps _ hp fun z hz => by rw [(List.mem_replicate.1 hz).2]; omega
theorem slotR_eq {o x : T} {ps : List (Int × Int)} (hp : ∀ p ∈ ps, 0 ≤ p.1 ∧ p.1 < o.size ∧ 0 ≤ p.2 ∧ p.2 < x.size) {i : Nat} (hi : i < o.size) : slotR o x (faN o.size ps) (faN x.size (ps.map swapP)) i = slotOf o x ps i := by
 have hA := faN_get o.size i hi ps (fun p h => (hp p h).1)
 have hB : ∀ k, k < x.size → idF (faN x.size (ps.map swapP)) k = num ps (k : Int) := fun k hk => by
  have h := faN_get x.size k hk (ps.map swapP) (fun p h => by
   obtain ⟨q, hq, rfl⟩ := List.mem_map.1 h
   exact (hp q hq).2.2.1)
  unfold idF num
  rw [h]
  cases e : toF (ps.map swapP) k with
  |none => rfl
  |some z =>
   have hm := toF_mem e
   obtain ⟨q, hq, hqe⟩ := List.mem_map.1 hm
   have h0 := (hp q hq).1
   have : z = q.1 := by
    have := congrArg Prod.snd hqe
    exact this.symm
   simp only [Option.getD_some]
   rw [if_pos (by omega)]
 unfold slotR slotOf
 rw [hA]
 cases e : toF ps i with
 |none => rfl
 |some z =>
  have hm := hp _ (toF_mem e)
  simp only at hm
  simp only [Option.getD_some]
  rw [if_neg (by omega)]
  have hz : z.toNat < x.size := by omega
  have e1 : (x.kidsAt z.toNat).map (idF (faN x.size (ps.map swapP))) = (x.kidsAt z.toNat).map fun k : Nat => num ps (k : Int) := List.map_congr_left fun k hk => hB k (x.kidsAt_lt hz k hk).2
  rw [e1]
  by_cases h0 : 0 ≤ (x.nd z.toNat).par
  ·have hpl : (x.nd z.toNat).par < z.toNat := T.flat_lt x (x.flat_get hz)
   rw [if_pos h0, if_pos h0, hB _ (by omega), Int.toNat_of_nonneg h0]
  ·rw [if_neg h0, if_neg h0]
end
section
open Go.RowKit Go.MapKept
def RSlots (A : List Nat) (w : World) (s : Sl) (vs : List SV) : Prop := ∃ rows : List (List Value), Own A w s 6 93 rows ∧ rows.length = vs.length ∧ ∀ (i : Nat) (v : SV) (row : List Value), vs[i]? = some v → rows[i]? = some row → SlotAt w v row
theorem RSlots.ext {A : List Nat} {w w' : World} {s : Sl} {vs : List SV} (h : RSlots A w s vs) (c : Ext w w') : RSlots A w' s vs := by
 obtain ⟨rows, h1, h2, h3⟩ := h
 exact ⟨rows, h1.ext c, h2, fun i v row hv hr => (h3 i v row hv hr).ext c⟩
theorem RSlots.less {A A' : List Nat} {w : World} {s : Sl} {vs : List SV} (h : RSlots A w s vs) (hA : ∀ b ∈ A', b ∈ A) : RSlots A' w s vs := by
 obtain ⟨rows, h1, h2, h3⟩ := h
 exact ⟨rows, h1.less hA, h2, h3⟩
theorem RSlots.len {A : List Nat} {w : World} {s : Sl} {vs : List SV} (h : RSlots A w s vs) : s.n = vs.length := by
 obtain ⟨rows, h1, h2, h3⟩ := h
 rw [h1.len, h2]
theorem RSlots.at {A : List Nat} {w : World} {s : Sl} {vs : List SV} (h : RSlots A w s vs) {i : Nat} (hi : i < vs.length) : ∃ (p : Addr) (se un ki : Sl), s.a = some p ∧ Cells w (p.add (i * 6)) (slc (vs.getD i sv0) se un ki) ∧ Own [] w se 2 47 ((vs.getD i sv0).set.map ac) ∧ Own [] w un 1 9 ((vs.getD i sv0).unset.map wc) ∧ Own [] w ki 1 3 ((vs.getD i sv0).kids.map zc) := by
 obtain ⟨rows, h1, h2, h3⟩ := h
 obtain ⟨p, hp, _, hc, _⟩ := h1.row.at_ i (by omega)
 have hr : rows[i]? = some (rows.getD i []) := by rw [List.getD_eq_getElem?_getD, List.getElem?_eq_getElem (by omega)]; rfl
 have hv : vs[i]? = some (vs.getD i sv0) := by rw [List.getD_eq_getElem?_getD, List.getElem?_eq_getElem hi]; rfl
 obtain ⟨se, un, ki, e, a1, a2, a3⟩ := h3 i _ _ hv hr
 rw [e] at hc
 exact ⟨p, se, un, ki, hp, hc, a1, a2, a3⟩
theorem SlotAt.keep {w w' : World} {v : SV} {row : List Value} (h : SlotAt w v row) {F : List Nat} (c : Chg F w w') (hF : ∀ {s : Sl} {n : Nat} {S : TypeId} {us : List (List Value)}, Own [] w s n S us → 93 ≠ S → 91 ≠ S → ∀ b ∈ s.blk, b ∉ F) : SlotAt w' v row := by
 obtain ⟨se, un, ki, e, a1, a2, a3⟩ := h
 exact ⟨se, un, ki, e, a1.keep c (hF a1 (by decide) (by decide)), a2.keep c (hF a2 (by decide) (by decide)), a3.keep c (hF a3 (by decide) (by decide))⟩
theorem refSame25 {A B : List Nat} {w : World} {a b : Sl} {xs ys : List Int} (ha : Row A w a 1 (xs.map zc)) (hb : Row B w b 1 (ys.map zc)) :
  Calls Try.prog 70 #[a.v, b.v] w (Ret fun v w' => Ext w w' ∧ v = .bool (decide (xs = ys))) := by
 refine ref25_Same.ok _ _ ?_
 unfold ref25_Same.vc
 have hla := ha.len
 have hlb := hb.len
 have hma := ha.most
 have hca := ha.cap
 simp only [maxLen] at hma
 rw [List.length_map] at hla hlb
 refine ⟨fun hne => ⟨Chg.refl _ _, ?_⟩, fun he => ?_⟩
 ·rw [decide_eq_false]; intro e; rw [e] at hla; omega
 refine ⟨fun i w' => ∃ k : Nat, i = (k : Int) ∧ k ≤ xs.length ∧ (xs = ys ↔ xs.drop k = ys.drop k) ∧ Ext w w', fun i _ => xs.length - i.toNat, ⟨0, rfl, by omega, by simp, Chg.refl _ _⟩, ?_⟩
 rintro _ w2 ⟨k, rfl, hk, hiff, hE⟩
 refine ⟨fun hi w3 hE3 => ?_, fun hi => ⟨hE, ?_⟩⟩
 ·have hk' : k < xs.length := by omega
  have hky : k < ys.length := by omega
  obtain ⟨p, hp, hcp⟩ := ((ha.ext hE).ext hE3).zAt hk'
  obtain ⟨q, hq, hcq⟩ := ((hb.ext hE).ext hE3).zAt hky
  refine ⟨p, ⟨⟨by omega, by omega⟩, hp⟩, _, hcp, q, ⟨⟨by omega, by omega⟩, hq⟩, _, hcq, fun hne w4 hE4 => ⟨(hE.trans hE3).trans hE4, ?_⟩, fun heq => ⟨⟨by omega, by omega⟩, fun w4 hE4 => ⟨⟨k + 1, by omega, by omega, ?_, (hE.trans hE3).trans hE4⟩, by dsimp only; omega⟩⟩⟩
  ·rw [decide_eq_false]; intro e
   exact hne ((drop_eqZ hk' hky).1 (hiff.1 e)).1
  ·rw [hiff, drop_eqZ hk' hky]
   exact ⟨fun h => h.2, fun h => ⟨Classical.not_not.1 heq, h⟩⟩
 ·have hkl : k = xs.length := by omega
  subst hkl
  rw [decide_eq_true]
  rw [hiff, List.drop_length, List.drop_of_length_le (by omega)]
theorem refTouched {B : List Nat} {w : World} {t : T} {ro l : Sl} {vs : List SV} (hI : RItems w ro t) (hl : RSlots B w l vs) (nt : t.size ≤ 400000000) (id : Int) :
  Calls Try.prog 48 #[ro.v, l.v, .int .i64 id] w (Ret fun v w' => Ext w w' ∧ v = .bool (touched t vs id)) := by
 obtain ⟨R, hR⟩ : ∃ R, R = touched t vs id := ⟨_, rfl⟩
 rw [← hR]
 refine ref25_Touched.ok _ _ _ ?_
 unfold ref25_Touched.vc
 have hln := hl.len
 obtain ⟨hn, p, hp, hc⟩ := hI.at
 by_cases hid : id < 0 ∨ (t.size : Int) ≤ id ∨ (vs.length : Int) ≤ id
 ·have hf : R = false := by rw [hR]; unfold touched; rw [if_pos hid]
  exact ⟨⟨0, 0, none⟩, fun hg => by omega, false, fun hg => by omega, fun _ => ⟨Chg.refl _ _, by rw [hf]⟩, fun hg => by omega⟩
 ·have h1 : 0 ≤ id := by omega
  have h2 : id < t.size := by omega
  have h3 : id < vs.length := by omega
  obtain ⟨pl, se, un, ki, hpl, hcell, o1, o2, o3⟩ := hl.at (i := id.toNat) (by omega)
  unfold touched at hR
  rw [if_neg hid] at hR
  generalize vs.getD id.toNat sv0 = sv at hcell o1 o2 o3 hR
  obtain ⟨gone, text, set, unset, up, kids⟩ := sv
  have n1 := o1.len
  have n2 := o2.len
  rw [List.length_map] at n1 n2
  simp only at n1 n2 o3
  refine ⟨pl, fun _ => ⟨⟨h1, by omega⟩, hpl⟩, gone, fun _ => hcell 0 _ rfl, fun hbad => ⟨Chg.refl _ _, ?_⟩, fun hg => ⟨⟨h1, by omega⟩, pl, hpl, gone, text, se, un, up, ki, hcell, fun w3 B3 hN3 hE3 => ?_⟩⟩
  ·rcases hbad with ((hb | hb) | hb) | hb
   ·omega
   ·omega
   ·omega
   ·rw [hR, hb]; rfl
  ·have hgone : gone = false := hg.2
   subst hgone
   obtain ⟨_, _, _, hcc, _⟩ := hc w3 hE3 id.toNat (by omega)
   refine ⟨p, fun _ => ⟨⟨h1, by omega⟩, hp⟩, (t.nd id.toNat).par, fun _ => hcc 0 _ rfl, fun r w' => Own [] w' r 1 3 ((kidsZ t id.toNat).map zc), fun r w' w'' hE h => h.ext hE, fun _ w' hE => ?_, decide (kids = kidsZ t id.toNat), fun hgd r w' hE hr => ?_, fun w4 hE4 => ⟨hE3.trans hE4, ?_⟩⟩
   ·have hcall := refKids (hI.ext (hE3.trans hE)) (by omega) (j := id.toNat) (by omega)
    rw [show ((id.toNat : Nat) : Int) = id by omega] at hcall
    refine Ret.mono hcall ?_
    rintro v w'' ⟨a1, r, rfl, a2⟩
    exact ⟨a1, r, rfl, by rw [← kidsZ_nc]; exact a2.less (by simp)⟩
   ·exact refSame25 ((o3.ext (hE3.trans hE)).row) (hr hgd).row
   ·rw [hR, n1, n2]
    simp only [Bool.not_false, Bool.true_and]
    congr 1
    generalize decide (up ≠ (t.nd id.toNat).par) = b1
    generalize (!(decide (kids = kidsZ t id.toNat))) = b2
    cases b1 <;> cases b2 <;> simp
theorem refOf25 {A : List Nat} {w : World} {o x : T} {sa sk ta tk l : Sl} {ps : List (Int × Int)} (ho : RdT A w o sa sk) (hx : RdT A w x ta tk) (hl : Row A w l 2 (ps.map pc)) (no : o.bulk ≤ 400000000) (nx : x.bulk ≤ 400000000) (np : ps.length ≤ 400000000) :
  Calls Try.prog 21 #[tv o sa sk, tv x ta tk, l.v] w (Ret fun v w' => Ext w w' ∧ ((chkP o x ps = false ∧ v = .pointer none) ∨ (chkP o x ps = true ∧ ∃ (c : Nat) (ro rx L : Sl) (m : Addr), v = .pointer (some ⟨c, 0, none⟩) ∧ Box w' c 91 [ro.v, rx.v, .pointer (some m), L.v] ∧ RItems w' ro o ∧ RSlots [] w' L (slotsOf o x ps)))) := by
 refine ref25_Of.ok _ _ _ _ _ _ _ _ _ _ _ ?_
 unfold ref25_Of.vc
 have hln := hl.len
 rw [List.length_map] at hln
 have hso := T.size_bulk o
 have hsx := T.size_bulk x
 intro w1 B1 B2 _ _ _ hE1
 refine CallK.exact (refCheck21 (ho.ext hE1) (hx.ext hE1) (hl.ext hE1) no nx (by omega)) fun w2 hE2 => ⟨_, rfl, fun hf => ⟨hE1.trans hE2, .inl ⟨hf, rfl⟩⟩, fun ht w3 hE3 => ?_⟩
 have hE03 := (hE1.trans hE2).trans hE3
 have hvals := chkP_vals ht
 refine ⟨fun s w' => RItems w' s o, fun s w' w'' hE h => h.ext hE, fun w' hE => ?_, fun s w' => RItems w' s x, fun s w' w'' hE h => h.ext hE, fun w' hE => ?_, ?_⟩
 ·refine Ret.mono (refFlat0 no (ho.ext (hE03.trans hE))) ?_
  rintro v w'' ⟨h1, s, rfl, h2, _⟩
  exact ⟨h1, s, rfl, h2⟩
 ·refine Ret.mono (refFlat0 nx (hx.ext (hE03.trans hE))) ?_
  rintro v w'' ⟨h1, s, rfl, h2, _⟩
  exact ⟨h1, s, rfl, h2⟩
 intro w4 ro rx c hE4 hO hX hc hbox w5 hE5
 have hE04 := hE03.trans hE4
 have hcl := hbox.lt
 have hon := hO.len
 have hxn := hX.len
 rw [hon, hxn]
 refine ⟨fun r w' => ∃ (m : Nat) (sa sb : Sl), r = some ⟨m, 0, none⟩ ∧ MRd (List.range w5.heap.size) w' m sa sb (List.replicate o.size (-1)) (List.replicate x.size (-1)), fun r w' w'' hE h => ?_, fun w' hE => ?_, ?_⟩
 ·obtain ⟨m, a, b, h1, h2⟩ := h
  exact ⟨m, a, b, h1, h2.ext hE⟩
 ·refine Ret.mono (refMNew o.size x.size (by omega) (by omega)) ?_
  rintro v w'' ⟨h1, m, a, b, rfl, h2⟩
  exact ⟨h1, some ⟨m, 0, none⟩, rfl, m, a, b, rfl, h2.less fun b hb => by have := hE.size; rw [List.mem_range] at hb ⊢; omega⟩
 rintro w6 _ hE6 ⟨m, sa, sb, rfl, hM⟩ w7 hC7
 have s5 := hE5.size
 have hcr : c ∈ List.range w5.heap.size := List.mem_range.2 (by omega)
 have hO5 := hO.ext hE5
 have hX5 := hX.ext hE5
 have hb5 := hbox.ext hE5
 have hE05 := hE04.trans hE5
 refine ⟨fun i w' => ∃ k : Nat, i = (k : Int) ∧ k ≤ ps.length ∧ MRd (List.range w5.heap.size) w' m sa sb (faN o.size (ps.take k)) (faN x.size ((ps.take k).map swapP)) ∧ Chg [c] w5 w', fun i _ => ps.length - i.toNat, ⟨0, rfl, by omega, hM.chg hC7 (by simpa using hcr), (Chg.ext hE6).trans hC7⟩, ?_⟩
 rintro _ w8 ⟨k, rfl, hk, hM8, hC8⟩
 have hE08 : Ext w w8 := Chg.fresh hE05 hC8 (by have := hE03.size; simp; omega)
 refine ⟨fun hi w9 hE9 => ?_, fun hi hb8 => ?_⟩
 ·have hk' : k < ps.length := by omega
  have hpair := hvals _ (getD_mem (d := (0, 0)) hk')
  obtain ⟨p, hp, hcc⟩ := (hl.ext (hE08.trans hE9)).pairAt hk'
  have t1 := take_snoc ps (0, 0) hk'
  generalize ps.getD k (0, 0) = q at hcc t1 hpair
  obtain ⟨qa, qb⟩ := q
  simp only at hpair
  obtain ⟨i, rfl⟩ : ∃ i : Nat, qa = (i : Int) := ⟨qa.toNat, by omega⟩
  obtain ⟨j, rfl⟩ : ∃ j : Nat, qb = (j : Int) := ⟨qb.toNat, by omega⟩
  have hM9 := hM8.ext hE9
  have hfl := faN_len o.size (ps.take k)
  have hfl2 := faN_len x.size ((ps.take k).map swapP)
  refine ⟨p, ⟨⟨by omega, hi⟩, hp⟩, (i : Int), hcc 0 _ rfl, p, ⟨⟨by omega, hi⟩, hp⟩, (j : Int), hcc 1 _ rfl, fun w10 hE10 => ?_⟩
  have hM10 := hM9.ext hE10
  have hF : ∀ b ∈ sa.blk ++ sb.blk, w5.heap.size ≤ b := fun b hb => by
   rcases List.mem_append.1 hb with hb | hb
   ·have := (hM10.a.blk b hb).1; simp at this; omega
   ·have := (hM10.b.blk b hb).1; simp at this; omega
  refine CallK.chg (refAdd hM10 (by omega) (by omega)) (fun b hb hm => ?_) fun v w11 hC11 ⟨hv, hM11⟩ => ⟨hv, ⟨by omega, by omega⟩, ⟨k + 1, by omega, by omega, ?_, ?_⟩, by dsimp only; omega⟩
  ·have := hF _ hm
   simp only [List.mem_cons, List.not_mem_nil, or_false] at hb
   have := List.mem_range.1 hcr
   omega
  ·rw [t1, List.map_append, List.map_cons, List.map_nil, faN_snoc, faN_snoc]
   exact hM11
  ·exact ((hC8.more hE9).more hE10).more' hC11 fun b hb => .inr (hF b hb)
 have hkl : k = ps.length := by omega
 subst hkl
 rw [List.take_of_length_le (Nat.le_refl _)] at hM8
 have hO8 := hO5.box hb5 (by decide) (by decide) hC8
 have hX8 := hX5.box hb5 (by decide) (by decide) hC8
 generalize hfa : faN o.size ps = fa at hM8
 generalize hfb : faN x.size (ps.map swapP) = fb at hM8
 have hfal : fa.length = o.size := by rw [← hfa]; exact faN_len _ _
 have hfbl : fb.length = x.size := by rw [← hfb]; exact faN_len _ _
 have hfalt : ∀ z ∈ fa, z < x.size := by rw [← hfa]; exact faN_lt _ _ _ fun p hp => (hvals p hp).2.2.2
 have hsl : ∀ i, i < o.size → slotR o x fa fb i = slotOf o x ps i := fun i hi => by rw [← hfa, ← hfb]; exact slotR_eq hvals hi
 have crd : ∀ (w' : World) (L : Sl), Chg [c] w8 w' → Box w' c 91 [ro.v, rx.v, .pointer (some ⟨m, 0, none⟩), L.v] → CRd w' c o x ro rx L m sa sb fa fb := fun w' L hC hB => ⟨hB, hO8.box hb8 (by decide) (by decide) hC, hX8.box hb8 (by decide) (by decide) hC, (hM8.chg hC (by simpa using hcr)).less (by simp)⟩
 have hgc : w.heap.size ≤ c := by have := hE03.size; omega
 refine ⟨fun i w' => ∃ (k : Nat) (L : Sl) (rows : List (List Value)), i = (k : Int) ∧ k ≤ o.size ∧ Chg [c] w8 w' ∧ Box w' c 91 [ro.v, rx.v, .pointer (some ⟨m, 0, none⟩), L.v] ∧ Own (List.range w8.heap.size) w' L 6 93 rows ∧ rows.length = k ∧ ∀ i, i < k → SlotAt w' (slotOf o x ps i) (rows.getD i []), fun i _ => o.size - i.toNat, ⟨0, Sl.nil, [], rfl, by omega, Chg.refl _ _, hb8, Own.nil _ _ _ _, rfl, fun i hi => by omega⟩, ?_⟩
 rintro _ w9 ⟨k, L, rows, rfl, hk, hC9, hb9, hL, hrl, hrows⟩
 refine ⟨ro, hb9.cell 0 _ rfl, fun hi w10 hE10 => ?_, fun hi => ?_⟩
 ·have hk' : k < o.size := by omega
  have hb10 := hb9.ext hE10
  have hC10 := hC9.more hE10
  refine ⟨L, hb10.cell 3 _ rfl, fun g t se un up ki w' => SlotAt w' (slotOf o x ps k) [.bool g, .bool t, se.v, un.v, .int .i64 up, ki.v], fun _ _ _ _ _ _ w' w'' hE h => h.ext hE, fun w' hE => ?_, ?_⟩
  ·refine Ret.mono (refSlot (crd w' L (hC10.more hE) (hb10.ext hE)) no nx hfal hfbl hk' hfalt) ?_
   rintro v w'' ⟨h1, se, un, ki, rfl, h2, h3, h4⟩
   rw [hsl k hk'] at h2 h3 h4 ⊢
   exact ⟨h1, _, _, se, un, _, ki, rfl, se, un, ki, rfl, h2, h3, h4⟩
  intro w11 g t se un up ki B hE11 hS hB hbx _
  have hE911 := hE10.trans hE11
  have hL11 := hL.ext hE911
  have hbx' : Box w11 B 93 [.bool g, .bool t, se.v, un.v, .int .i64 up, ki.v] := hbx
  have hLn := hL.len
  have s9 := hC9.size
  have s911 := hE911.size
  refine App.runK Try.underlying89 ti_93 rfl (by decide) (.inl hL11) (fun b hb => by have := List.mem_range.1 hb; omega) (Own.one (A := []) hbx' (by simp)).row (by intro u hu; simp at hu; rcases hu with rfl | rfl | rfl | rfl | rfl | rfl <;> rfl) (by simp) (by simp only [maxLen, List.length_singleton]; omega) (by simp only [List.length_singleton]; omega) (by simp) fun s' w12 ho12 hC12 hb12 => ⟨s', rfl, fun w13 hE13 w14 hE14 => ?_⟩
  have hown : ∀ b ∈ L.own, w8.heap.size ≤ b := fun b hb => by
   have := (hL11.blk b (Sl.own_blk hb)).1
   simp at this; omega
  have hc8 := hb8.lt
  have hE1214 := hE13.trans hE14
  have hb14 := (((hb9.ext hE911).keep hC12 (fun hm => by have := hown _ hm; omega))).ext hE1214
  refine ⟨c, 3, 91, _, rfl, hb14, by simp, by simp, fun w15 hC15 hb15 => ⟨⟨by omega, by omega⟩, ⟨k + 1, s', _, by omega, by omega, ?_, hb15, ((ho12.ext hE1214).chg hC15 (by simpa using hc8)), by simp [hrl], fun i hi' => ?_⟩, by dsimp only; omega⟩⟩
  ·exact (((hC9.more hE911).more' hC12 fun b hb => .inr (hown b hb)).more hE1214).trans hC15
  ·have keepS : ∀ {v : SV} {row : List Value}, SlotAt w11 v row → SlotAt w15 v row := fun h => by
    have h12 := h.keep hC12 fun ho h1 _ b hb hm => (hL11.apart ho h1) b (Sl.own_blk hm) hb
    exact (h12.ext hE1214).keep hC15 fun ho _ h2 b hb hm => by
     simp only [List.mem_cons, List.not_mem_nil, or_false] at hm
     subst hm
     exact (ho.other hb14 (Ne.symm h2)) hb
   rcases Nat.lt_or_ge i k with h | h
   ·rw [List.getD_eq_getElem?_getD, List.getElem?_append_left (by omega), ← List.getD_eq_getElem?_getD]
    exact keepS ((hrows i h).ext hE911)
   ·have hik : i = k := by omega
    subst hik
    rw [List.getD_eq_getElem?_getD, List.getElem?_append_right (by omega), hrl, Nat.sub_self]
    exact keepS hS
 ·have hkl : k = o.size := by omega
  subst hkl
  refine ⟨Chg.fresh hE08 hC9 (by simpa using hgc), .inr ⟨ht, c, ro, rx, L, _, rfl, hb9, hO8.box hb8 (by decide) (by decide) hC9, rows, hL.less (by simp), by simp [slotsOf, hrl], fun i v row hv hr => ?_⟩⟩
  have hi' : i < o.size := by have := (List.getElem?_eq_some_iff.1 hr).1; omega
  have e1 : v = slotOf o x ps i := by
   simp [slotsOf, hi'] at hv; exact hv.symm
  have := hrows i hi'
  rw [List.getD_eq_getElem?_getD, hr] at this
  subst e1
  exact this
end
section
open Go.RowKit Go.MapKept
theorem lawSmallY {A : List Nat} {B : Nat} (hBA : B ∈ A) : ∀ t : T, ∀ {w : World} {sa sk : Sl} (deep : Nat) (c : Nat), c ≤ 400 → deep ≤ 71 → RdT A w t sa sk → Box w B 3 [.int .i64 (c : Int)] →
  Calls Try.prog 66 #[tv t sa sk, .int .i64 (deep : Int), .pointer (some ⟨B, 0, none⟩)] w (Ret fun v w' => Chg [B] w w' ∧ (v = .bool (t.sm deep c).1 ∧ Box w' B 3 [.int .i64 (((t.sm deep c).2 : Nat) : Int)])) := T.ind' fun t ih w sa sk deep c hc hd h hB => by
 refine law00_small.ok _ _ _ _ _ _ _ ?_
 unfold law00_small.vc
 have hn := h.nkids
 have hna := h.nattrs
 have hcp := h.caps
 simp only [maxLen] at hcp
 intro w5 B4 hN hE5
 have hB5 := hB.ext hE5
 have hlt := hB.lt
 have hge := hN.ge
 refine ⟨(c : Int), hB5.cell 0 _ rfl, ⟨by omega, by omega⟩, B, 0, 3, _, rfl, hB5, by simp, by simp; omega, fun w1 hC hB1 => ?_⟩
 have hB1 : Box w1 B 3 [.int .i64 (((c + 1 : Nat) : Nat) : Int)] := hB1
 have hC1 : Chg [B] w w1 := (Chg.ext hE5).trans hC
 have hF : ∀ b ∈ [B], b ∈ A := by simpa using hBA
 rw [T.sm_eq]
 refine ⟨((c + 1 : Nat) : Int), hB1.cell 0 _ rfl, fun hbad => ?_, fun hok => ?_⟩
 ·rw [if_pos (by omega)]; exact ⟨hC1, rfl, hB1⟩
 rw [if_neg (by omega)]
 refine ⟨fun i w2 => ∃ k : Nat, i = (k : Int) ∧ k ≤ t.attrs.length ∧ t.attrs.any badAttr = (t.attrs.drop k).any badAttr ∧ Chg [B] w w2 ∧ Box w2 B 3 [.int .i64 ((c + 1 : Nat) : Int)], fun i _ => t.attrs.length - i.toNat, ⟨0, rfl, Nat.zero_le _, rfl, hC1, hB1⟩, ?_⟩
 rintro _ w2 ⟨k, rfl, hk, hany, hC2, hB2⟩
 refine ⟨fun hi => ?_, fun hi => ?_⟩
 ·have hk1 : k < t.attrs.length := by omega
  obtain ⟨p, hp, _, hcell⟩ := (RdT.chg hC2 hF h).attr hk1
  rw [Int.toNat_natCast]
  rw [drop_at t.attrs ([], []) hk1, List.any_cons] at hany
  refine ⟨⟨by omega, hi⟩, p, hp, _, hcell 0 _ rfl, p, fun _ => ⟨⟨by omega, hi⟩, hp⟩, _, fun _ => hcell 1 _ rfl, fun hbad => ?_, fun hgood => ⟨⟨by omega, by omega⟩, ⟨k + 1, by omega, by omega, ?_, hC2, hB2⟩, by dsimp only; omega⟩⟩
  ·have : badAttr (t.attrs.getD k ([], [])) = true := by unfold badAttr; rw [Bool.or_eq_true, decide_eq_true_iff, decide_eq_true_iff]; omega
   rw [hany, this, Bool.true_or, if_pos rfl]; exact ⟨hC2, rfl, hB2⟩
  ·have : badAttr (t.attrs.getD k ([], [])) = false := by unfold badAttr; rw [Bool.or_eq_false_iff, decide_eq_false_iff_not, decide_eq_false_iff_not]; omega
   rw [hany, this, Bool.false_or]
 ·have hkl : k = t.attrs.length := by omega
  subst hkl
  rw [List.drop_length] at hany
  rw [hany, if_neg (by simp)]
  refine ⟨fun i w3 => ∃ k c' : Nat, i = (k : Int) ∧ k ≤ t.kids.length ∧ goL (t.kids.map fun u => fun c => u.sm (deep + 1) c) (c + 1) = goL ((t.kids.drop k).map fun u => fun c => u.sm (deep + 1) c) c' ∧ Chg [B] w w3 ∧ Box w3 B 3 [.int .i64 (c' : Int)] ∧ c' ≤ 400, fun i _ => t.kids.length - i.toNat, ⟨0, c + 1, rfl, Nat.zero_le _, rfl, hC2, hB2, by omega⟩, ?_⟩
  rintro _ w3 ⟨k, c', rfl, hk, hgo, hC3, hB3, hc'⟩
  rw [hgo]
  refine ⟨fun hi => ?_, fun hi => ?_⟩
  ·have hk' : k < t.kids.length := by omega
   obtain ⟨p, sa', sk', hp, _, hcell, hr⟩ := (RdT.chg hC3 hF h).kid hk'
   rw [Int.toNat_natCast]
   have hm := getD_mem (d := T.nul) hk'
   rw [drop_at t.kids T.nul hk', List.map_cons, goL] at hgo ⊢
   refine ⟨⟨by omega, hi⟩, p, hp, _, _, _, sa', sk', hcell, ⟨by omega, by omega⟩, CallK.chg (ih _ hm (deep + 1) c' hc' (by omega) hr hB3) (by simp; omega) fun v w4 hC4 ⟨hv, hB4⟩ => ⟨_, hv, fun hf => ?_, fun ht => ⟨⟨by omega, by omega⟩, ⟨k + 1, _, by omega, by omega, ?_, hC3.trans hC4, hB4, T.sm_le _ _ _ ht⟩, by dsimp only; omega⟩⟩⟩
   ·rw [if_neg (by rw [hf]; simp)]; exact ⟨hC3.trans hC4, rfl, hB4⟩
   ·rw [if_pos ht]
  ·have hkl : k = t.kids.length := by omega
   subst hkl
   rw [List.drop_length]
   exact ⟨hC3, rfl, hB3⟩
theorem sum_abulk : ∀ l : List (Str × Str), l.any badAttr = false → (l.map T.abulk).sum ≤ l.length * 6201
 |[], _ => by simp
 |p :: r, h => by
  rw [List.any_cons, Bool.or_eq_false_iff] at h
  have ih := sum_abulk r h.2
  have hp := h.1
  simp only [badAttr, Bool.or_eq_false_iff, decide_eq_false_iff_not] at hp
  simp only [List.map_cons, List.sum_cons, T.abulk, List.length_cons]
  omega
theorem goL_bulk : ∀ (us : List T) (deep : Nat), (∀ u ∈ us, ∀ deep c, (u.sm deep c).1 = true → u.bulk + 200000 * c ≤ 200000 * (u.sm deep c).2) → ∀ c, (goL (us.map fun u => fun c => u.sm deep c) c).1 = true → (us.map T.bulk).sum + 200000 * c ≤ 200000 * (goL (us.map fun u => fun c => u.sm deep c) c).2
 |[], _, _, c, _ => by simp [goL]
 |u :: r, deep, h, c, ht => by
  simp only [List.map_cons] at ht ⊢
  rw [goL] at ht ⊢
  split at ht
  ·rename_i hf
   rw [if_pos hf]
   have h1 := h u (by simp) deep c hf
   have h2 := goL_bulk r deep (fun v hv => h v (by simp [hv])) _ ht
   simp only [List.sum_cons]
   omega
  ·cases ht
theorem T.sm_bulk : ∀ t : T, ∀ deep c : Nat, (t.sm deep c).1 = true → t.bulk + 200000 * c ≤ 200000 * (t.sm deep c).2 := T.ind' fun t ih deep c => by
 rw [T.sm_eq]
 split
 ·intro h; cases h
 ·rename_i hn
  split
  ·intro h; cases h
  ·rename_i ha
   intro ht
   have h1 := goL_bulk t.kids (deep + 1) (fun u hu deep c => ih u hu deep c) (c + 1) ht
   have h2 := sum_abulk t.attrs (by simpa using ha)
   have h3 := T.bulk_eq t
   have h4 : t.attrs.length * 6201 ≤ 20 * 6201 := Nat.mul_le_mul_right _ (by omega)
   omega
theorem small_bulk {t : T} (h : t.small = true) : t.bulk ≤ 400000000 := by
 have h1 := T.sm_bulk t 0 0 h
 have h2 := T.sm_le t 0 0 h
 omega
theorem lawSmallZ {A : List Nat} {w : World} {t : T} {sa sk : Sl} (h : RdT A w t sa sk) :
  Calls Try.prog 42 #[tv t sa sk] w (Ret fun v w' => Ext w w' ∧ v = .bool t.small) := by
 refine law00_Small.ok _ _ _ _ _ ?_
 unfold law00_Small.vc
 intro w1 B1 B2 hN1 hN2 hne hE1 hB
 have hr := (((h.less (A' := []) (by simp)).fresh hN2.ge).ext hE1)
 have hs := lawSmallY (A := [B2]) (B := B2) (by simp) t 0 0 (by omega) (by omega) hr hB
 exact CallK.chg hs (by simpa using hne) fun v w2 hC ⟨hv, _⟩ => ⟨_, hv, Chg.fresh hE1 hC (by simpa using hN2.ge), rfl⟩
def T.few (t : T) : Bool := t.small && decide (t.size ≤ 60)
theorem lawFewT {A : List Nat} {w : World} {t : T} {sa sk : Sl} (h : RdT A w t sa sk) :
  Calls Try.prog 18 #[tv t sa sk] w (Ret fun v w' => Ext w w' ∧ v = .bool t.few) := by
 refine law00_Few.ok _ _ _ _ _ ?_
 unfold law00_Few.vc
 intro w1 B1 _ hE1
 refine CallK.exact (lawSmallZ (h.ext hE1)) fun w2 hE2 => ⟨_, rfl, (t.size : Int), fun hs => refSizeG t (by have := small_bulk hs; omega) (h.ext (hE1.trans hE2)), fun w3 hE3 => ⟨(hE1.trans hE2).trans hE3, ?_⟩⟩
 unfold T.few
 congr 2
 rw [decide_eq_decide]; omega
theorem lawPairs {A : List Nat} {w : World} {l : Sl} {ps : List (Int × Int)} (h : Row A w l 2 (ps.map pc)) (hb : ps.length ≤ 1000000000) :
  Calls Try.prog 20 #[l.v] w (Ret fun v w' => Ext w w' ∧ ∃ s : Sl, v = s.v ∧ Row [] w' s 2 (ps.map pc)) := by
 refine law00_Pairs.ok _ ?_
 unfold law00_Pairs.vc
 have hl := h.len
 simp only [List.length_map] at hl
 cases hx : ps with
 |nil =>
  have e := append_none (P := Try.prog) (w := w) (s := Sl.nil) (x := l) (t := 29) (ty := 29) Try.underlying29 ti_40 (Nat.le_refl _) (by rw [hl, hx]; rfl)
  exact ⟨_, _, e, fun _ _ _ => rfl, Nat.le_refl _, Sl.nil, rfl, Chg.refl _ _, Sl.nil, rfl, Row.nil _ _ _⟩
 |cons x r =>
  rw [← hx]
  have hone : ∀ u ∈ (ps.map pc).flatten, u.oneCell' = true := by
   intro u hu
   obtain ⟨c, hc, hu⟩ := List.mem_flatten.1 hu
   obtain ⟨p, _, rfl⟩ := List.mem_map.1 hc
   simp [pc] at hu
   rcases hu with rfl | rfl <;> rfl
  refine App.runK Try.underlying29 ti_40 rfl (by decide) (.inl (Own.nil (List.range w.heap.size) _ _ _)) (fun b hb => List.mem_range.1 hb) (h.less (by simp)) hone (by rw [hx]; simp) (by simp [maxLen]; omega) (by simp; omega) (by simp) fun s' w' ho hc hb => ⟨s', rfl, ?_, s', rfl, (ho.less (by simp)).row⟩
  exact hc.mono (by simp [Sl.own])
theorem drop_eqA {α : Type} {xs ys : List α} {k : Nat} (d : α) (hx : k < xs.length) (hy : k < ys.length) : (xs.drop k = ys.drop k) ↔ (xs.getD k d = ys.getD k d ∧ xs.drop (k + 1) = ys.drop (k + 1)) := by
 rw [List.drop_eq_getElem_cons hx, List.drop_eq_getElem_cons hy, List.cons.injEq]
 simp [List.getD_eq_getElem?_getD, hx, hy]
theorem lawSameAttrs {A B : List Nat} {w : World} {a b : Sl} {xs ys : List (Str × Str)} (ha : Row A w a 2 (xs.map ac)) (hb : Row B w b 2 (ys.map ac)) :
  Calls Try.prog 69 #[a.v, b.v] w (Ret fun v w' => Ext w w' ∧ v = .bool (decide (xs = ys))) := by
 refine law00_SameAttrs.ok _ _ ?_
 unfold law00_SameAttrs.vc
 have hla := ha.len
 have hlb := hb.len
 have hma := ha.most
 have hca := ha.cap
 simp only [maxLen] at hma
 rw [List.length_map] at hla hlb
 refine ⟨fun hne => ⟨Chg.refl _ _, ?_⟩, fun he => ?_⟩
 ·rw [decide_eq_false]; intro e; rw [e] at hla; omega
 refine ⟨fun i w' => ∃ k : Nat, i = (k : Int) ∧ k ≤ xs.length ∧ (xs = ys ↔ xs.drop k = ys.drop k) ∧ Ext w w', fun i _ => xs.length - i.toNat, ⟨0, rfl, by omega, by simp, Chg.refl _ _⟩, ?_⟩
 rintro _ w2 ⟨k, rfl, hk, hiff, hE⟩
 refine ⟨fun hi w3 hE3 => ?_, fun hi => ⟨hE, ?_⟩⟩
 ·have hk' : k < xs.length := by omega
  have hky : k < ys.length := by omega
  obtain ⟨p, hp, hcp⟩ := ((ha.ext hE).ext hE3).attrAt hk'
  obtain ⟨q, hq, hcq⟩ := ((hb.ext hE).ext hE3).attrAt hky
  have hd := drop_eqA (([], []) : Str × Str) hk' hky
  generalize xs.getD k ([], []) = x at hcp hd
  generalize ys.getD k ([], []) = y at hcq hd
  obtain ⟨x1, x2⟩ := x
  obtain ⟨y1, y2⟩ := y
  simp only [Prod.mk.injEq] at hd
  refine ⟨p, ⟨⟨by omega, by omega⟩, hp⟩, x1, x2, hcp, q, ⟨⟨by omega, by omega⟩, hq⟩, y1, y2, hcq, fun hne w4 hE4 => ⟨(hE.trans hE3).trans hE4, ?_⟩, fun heq => ⟨⟨by omega, by omega⟩, fun w4 hE4 => ⟨⟨k + 1, by omega, by omega, ?_, (hE.trans hE3).trans hE4⟩, by dsimp only; omega⟩⟩⟩
  ·rw [decide_eq_false]; intro e
   exact hne (hd.1 (hiff.1 e)).1
  ·rw [hiff, hd]
   exact ⟨fun h => h.2, fun h => ⟨Classical.not_not.1 heq, h⟩⟩
 ·have hkl : k = xs.length := by omega
  subst hkl
  rw [decide_eq_true]
  rw [hiff, List.drop_length, List.drop_of_length_le (by omega)]
theorem Row.wAt {A : List Nat} {w : World} {s : Sl} {xs : List Str} (h : Row A w s 1 (xs.map wc)) {k : Nat} (hk : k < xs.length) : ∃ p, s.a = some p ∧ w.cell? (p.add (k * 1)) = some (.string (Bs (xs.getD k []))) := by
 obtain ⟨p, hp, _, hc, _⟩ := h.at_ k (by simpa using hk)
 have e : (xs.map wc).getD k [] = wc (xs.getD k []) := by simp [List.getD_eq_getElem?_getD, hk]
 rw [e] at hc
 exact ⟨p, hp, by have := hc 0 _ rfl; rwa [Addr.add_zero'] at this⟩
theorem lawSame25 {w : World} {v : SV} {r1 r2 : List Value} (h1 : SlotAt w v r1) (h2 : SlotAt w v r2) :
  Calls Try.prog 47 #[.agg r1.toArray, .agg r2.toArray] w (Ret fun u w' => Ext w w' ∧ u = .bool true) := by
 obtain ⟨se, un, ki, rfl, a1, a2, a3⟩ := h1
 obtain ⟨se', un', ki', rfl, b1, b2, b3⟩ := h2
 refine law25_same.ok _ _ _ _ _ _ _ _ _ _ _ _ ?_
 unfold law25_same.vc
 have n1 := a2.len
 have n2 := b2.len
 have m1 := a2.row.most
 have c1 := a2.row.cap
 simp only [maxLen] at m1
 rw [List.length_map] at n1 n2
 intro w1 B1 B2 _ _ _ hE1
 refine ⟨true, fun _ => ?_, fun w2 hE2 => ⟨true, fun _ => ?_, fun w3 hE3 => ⟨fun hbad => ?_, fun _ => ?_⟩⟩⟩
 ·have := lawSameAttrs (a1.ext hE1).row (b1.ext hE1).row
  simpa using this
 ·have := lawSameInts (a3.ext (hE1.trans hE2)).row (b3.ext (hE1.trans hE2)).row
  simpa using this
 ·rcases hbad with ((((h | h) | h) | h) | h) | h
  ·simp at h
  ·simp at h
  ·cases h
  ·omega
  ·exact absurd rfl h
  ·cases h
 have hE13 := (hE1.trans hE2).trans hE3
 refine ⟨fun i w' => ∃ k : Nat, i = (k : Int) ∧ k ≤ v.unset.length ∧ Ext w w', fun i _ => v.unset.length - i.toNat, ⟨0, rfl, by omega, hE13⟩, ?_⟩
 rintro _ w4 ⟨k, rfl, hk, hE4⟩
 refine ⟨fun hi w5 hE5 => ?_, fun hi => ⟨hE4, rfl⟩⟩
 have hk' : k < v.unset.length := by omega
 obtain ⟨p, hp, hc⟩ := (a2.ext (hE4.trans hE5)).row.wAt hk'
 obtain ⟨q, hq, hd⟩ := (b2.ext (hE4.trans hE5)).row.wAt hk'
 exact ⟨p, ⟨⟨by omega, by omega⟩, hp⟩, _, hc, q, ⟨⟨by omega, by omega⟩, hq⟩, _, hd, fun hne => absurd rfl hne, fun _ => ⟨⟨by omega, by omega⟩, fun w6 hE6 => ⟨⟨k + 1, by omega, by omega, (hE4.trans hE5).trans hE6⟩, by dsimp only; omega⟩⟩⟩
theorem slotsKidsN {A : List Nat} {w : World} {t : T} {sa sk : Sl} (h : RdT A w t sa sk) (nt : t.bulk ≤ 400000000) {id : Int} (hid : id < 0 ∨ (t.size : Int) ≤ id) :
  Calls Try.prog 24 #[tv t sa sk, .int .i64 id] w (Ret fun v w' => Ext w w' ∧ v = Sl.nil.v) := by
 refine slots_Kids.ok _ _ _ _ _ _ ?_
 unfold slots_Kids.vc
 intro w1 B hN hE1
 refine CallK.ext (walkFlat (by omega) (h.ext hE1)) ?_
 rintro v w2 hE2 ⟨s, rfl, hI⟩
 obtain ⟨hn, _⟩ := hI.cell
 exact ⟨s, rfl, fun _ => ⟨hE1.trans hE2, rfl⟩, fun hb => by omega⟩
theorem lawAll25 {A B : List Nat} {w : World} {t : T} {sa sk s ro rx L : Sl} {c : Nat} {m : Addr} {vs : List SV} (h : RdT A w t sa sk) (nt : t.bulk ≤ 400000000) (hS : Slots B w s vs) (hc : Box w c 91 [ro.v, rx.v, .pointer (some m), L.v]) (hO : RItems w ro t) (hL : RSlots [] w L vs) (hv : vs.length = t.size) (id : Int) :
  Calls Try.prog 22 #[tv t sa sk, s.v, .pointer (some ⟨c, 0, none⟩), .int .i64 id] w (Ret fun v w' => Ext w w' ∧ v = .bool true) := by
 refine law25_all.ok _ _ _ _ _ _ _ _ ?_
 unfold law25_all.vc
 have hsz := T.size_bulk t
 have n1 := hS.len
 have n2 := hL.len
 intro w1 B1 _ hE1
 refine ⟨L, (hc.ext hE1).cell 3 _ rfl, fun hne => by omega, fun _ => ?_⟩
 refine ⟨fun i w' => ∃ k : Nat, i = (k : Int) ∧ k ≤ t.size ∧ Ext w w', fun i _ => t.size - i.toNat, ⟨0, rfl, by omega, hE1⟩, ?_⟩
 rintro _ w2 ⟨k, rfl, hk, hE2⟩
 refine ⟨fun hi w3 hE3 => ?_, fun hi => ?_⟩
 ·have hk' : k < t.size := by omega
  have hE03 := hE2.trans hE3
  obtain ⟨p, se, un, ki, hp, hcl, a1, a2, a3⟩ := (hS.ext hE03).at (i := k) (by omega)
  obtain ⟨q, se', un', ki', hq, hcl', b1, b2, b3⟩ := (hL.ext hE03).at (i := k) (by omega)
  have hc3 := hc.ext hE03
  have T1 : ∀ w', Ext w3 w' → SlotAt w' (vs.getD k sv0) (slc (vs.getD k sv0) se un ki) := fun w' hE => ⟨se, un, ki, rfl, a1.ext hE, a2.ext hE, a3.ext hE⟩
  have T2 : ∀ w', Ext w3 w' → SlotAt w' (vs.getD k sv0) (slc (vs.getD k sv0) se' un' ki') := fun w' hE => ⟨se', un', ki', rfl, b1.ext hE, b2.ext hE, b3.ext hE⟩
  refine ⟨p, ⟨⟨by omega, by omega⟩, hp⟩, _, _, se, un, _, ki, hcl, L, hc3.cell 3 _ rfl, q, ⟨⟨by omega, by omega⟩, hq⟩, _, _, se', un', _, ki', hcl', true, fun w' hE => lawSame25 (T1 w' hE) (T2 w' hE), touched t vs k, fun _ w' hE => slotsTouched (h.ext (hE03.trans hE)) (hS.ext (hE03.trans hE)) nt k, ro, fun _ => hc3.cell 0 _ rfl, L, fun _ => hc3.cell 3 _ rfl, touched t vs k, fun _ w' hE => refTouched (hO.ext (hE03.trans hE)) (hL.ext (hE03.trans hE)) (by omega) k, fun r w' => Own [] w' r 1 3 ((kidsZ t k).map zc), fun r w' w'' hE h => h.ext hE, fun _ w' hE => ?_, ro, fun _ => hc3.cell 0 _ rfl, fun r w' => Own [] w' r 1 3 ((kidsZ t k).map zc), fun r w' w'' hE h => h.ext hE, fun _ w' hE => ?_, true, fun hg r1 r2 w' hE h1 h2 => ?_, fun hbad => ?_, fun _ => ⟨⟨by omega, by omega⟩, fun w4 hE4 => ⟨⟨k + 1, by omega, by omega, hE03.trans hE4⟩, by dsimp only; omega⟩⟩⟩
  ·refine Ret.mono (slotsKidsT (h.ext (hE03.trans hE)) nt (id := (k : Int)) (by omega) (by omega)) ?_
   rintro v w'' ⟨h1, r, rfl, h2⟩
   exact ⟨h1, r, rfl, h2.less (by simp)⟩
  ·refine Ret.mono (refKids (hO.ext (hE03.trans hE)) (by omega) hk') ?_
   rintro v w'' ⟨h1, r, rfl, h2⟩
   rw [kidsZ_nc] at h2
   exact ⟨h1, r, rfl, h2.less (by simp)⟩
  ·have := lawSameInts (h1 hg).row (h2 hg).row
   simpa using this
  ·rcases hbad with (h | h) | h
   ·cases h
   ·simp at h
   ·cases h
 ·have hkl : k = t.size := by omega
  subst hkl
  by_cases hid : 0 ≤ id ∧ id < t.size
  ·refine ⟨false, fun hg => by omega, fun w3 hE3 => ⟨fun _ _ => True, fun hg => by omega, fun r w4 hE4 _ => ⟨(hE2.trans hE3).trans hE4, ?_⟩⟩⟩
   rw [decide_eq_true hid.1, decide_eq_true (by omega : id < (s.n : Int))]; rfl
  ·have hf : touched t vs id = false := by unfold touched; rw [if_pos (by omega)]
   refine ⟨false, fun _ => ?_, fun w3 hE3 => ⟨fun r _ => r = Sl.nil, fun _ => ?_, fun r w4 hE4 hr => ⟨(hE2.trans hE3).trans hE4, ?_⟩⟩⟩
   ·have := slotsTouched (h.ext hE2) (hS.ext hE2) nt id
    rwa [hf] at this
   ·refine Ret.mono (slotsKidsN (h.ext (hE2.trans hE3)) nt (id := id) (by omega)) ?_
    rintro v w'' ⟨h1, rfl⟩
    exact ⟨h1, Sl.nil, rfl, rfl⟩
   ·have hr := hr ⟨by omega, rfl⟩
    subst hr
    have e : (decide (0 ≤ id) && decide (id < (s.n : Int))) = false := by
     rw [Bool.and_eq_false_iff, decide_eq_false_iff_not, decide_eq_false_iff_not]; omega
    rw [e]; rfl
theorem slotsAllLaw {w : World} {o x : T} {sa sk ta tk l : Sl} {ps : List (Int × Int)} (ho : RdT [] w o sa sk) (hx : RdT [] w x ta tk) (hl : Row [] w l 2 (ps.map pc)) (id : Int) :
  Calls Try.prog 5 #[tv o sa sk, tv x ta tk, l.v, .int .i64 id] w (Ret fun v w' => Ext w w' ∧ v = .bool true) := by
 refine law25_SlotsAll.ok _ _ _ _ _ _ _ _ _ _ _ _ ?_
 unfold law25_SlotsAll.vc
 have hln := hl.len
 rw [List.length_map] at hln
 intro w1 B1 B2 _ _ _ hE1
 refine CallK.exact (lawFewT (ho.ext hE1)) fun w2 hE2 => ⟨_, rfl, _, fun _ => lawFewT (hx.ext (hE1.trans hE2)), fun w3 hE3 => ?_⟩
 have hE03 := (hE1.trans hE2).trans hE3
 refine ⟨fun _ => CallK.exact (slotsAwake w3) fun w4 hE4 => ⟨true, rfl, hE03.trans hE4, rfl⟩, fun hg w4 hE4 => ?_⟩
 obtain ⟨⟨f1, f2⟩, hps⟩ := hg
 have no : o.bulk ≤ 400000000 := small_bulk (by unfold T.few at f1; simp at f1; exact f1.1)
 have nx : x.bulk ≤ 400000000 := small_bulk (by unfold T.few at f2; simp at f2; exact f2.1)
 have hE04 := hE03.trans hE4
 refine ⟨fun kd n y a b w' => kd = o.kind ∧ n = o.name ∧ y = o.text ∧ RdT [] w' o a b, fun _ _ _ _ _ w' w'' hE h => ⟨h.1, h.2.1, h.2.2.1, h.2.2.2.ext hE⟩, fun w' hE => ?_, fun kd n y a b w' => kd = x.kind ∧ n = x.name ∧ y = x.text ∧ RdT [] w' x a b, fun _ _ _ _ _ w' w'' hE h => ⟨h.1, h.2.1, h.2.2.1, h.2.2.2.ext hE⟩, fun w' hE => ?_, ?_⟩
 ·refine Ret.mono (lawTree o (by omega) (ho.ext (hE04.trans hE))) ?_
  rintro v w'' ⟨h1, a, b, rfl, h2⟩
  exact ⟨h1, _, _, _, a, b, rfl, rfl, rfl, rfl, h2.less (by simp)⟩
 ·refine Ret.mono (lawTree x (by omega) (hx.ext (hE04.trans hE))) ?_
  rintro v w'' ⟨h1, a, b, rfl, h2⟩
  exact ⟨h1, _, _, _, a, b, rfl, rfl, rfl, rfl, h2.less (by simp)⟩
 rintro w5 _ _ _ a1 k1 _ _ _ a2 k2 hE5 ⟨rfl, rfl, rfl, ho2⟩ ⟨rfl, rfl, rfl, hx2⟩
 have hE05 := hE04.trans hE5
 refine CallK.ext (lawPairs (hl.ext hE05) (by omega)) ?_
 rintro v w6 hE6 ⟨l2, rfl, hl2⟩
 refine ⟨l2, rfl, CallK.ext (slotsOfC (ho2.ext hE6) (hx2.ext hE6) hl2 no nx (by omega)) ?_⟩
 intro v w7 hE7 hv
 have hE07 := (hE05.trans hE6).trans hE7
 have hr25 : ∀ w', Ext w7 w' → _ := fun w' hE => refOf25 (ho.ext (hE07.trans hE)) (hx.ext (hE07.trans hE)) (hl.ext (hE07.trans hE)) no nx (by omega)
 rcases hv with ⟨hf, rfl⟩ | ⟨ht, s, rfl, hS⟩
 ·refine ⟨Sl.nil, 1, rfl, fun w8 hE8 => CallK.ext (hr25 w8 hE8) ?_⟩
  rintro v w9 hE9 (⟨_, rfl⟩ | ⟨ht, _⟩)
  ·have hE09 := (hE07.trans hE8).trans hE9
   refine ⟨none, rfl, fun hbad => ?_, fun _ => ⟨fun _ => CallK.exact (slotsAwake w9) fun w10 hE10 => ⟨true, rfl, hE09.trans hE10, rfl⟩, fun h => (by cases h)⟩⟩
   rcases hbad with h | ⟨_, h | h⟩
   ·simp at h
   ·exact absurd rfl h
   ·exact absurd rfl h
  ·rw [hf] at ht; cases ht
 ·refine ⟨s, 0, rfl, fun w8 hE8 => CallK.ext (hr25 w8 hE8) ?_⟩
  rintro v w9 hE9 (⟨hf, _⟩ | ⟨_, c, ro, rx, L, m, rfl, hc, hRO, hRL⟩)
  ·rw [hf] at ht; cases ht
  have hE09 := (hE07.trans hE8).trans hE9
  refine ⟨some ⟨c, 0, none⟩, rfl, fun hbad => ?_, fun _ => ⟨fun h => (by cases h), fun _ => ?_⟩⟩
  ·rcases hbad with h | ⟨h, _⟩
   ·simp at h
   ·exact absurd rfl h
  refine CallK.exact (lawAll25 (ho.ext hE09) no (hS.ext (hE8.trans hE9)) hc hRO hRL (by simp [slotsOf]) id) fun w10 hE10 => ⟨true, rfl, true, fun _ => slotsAwake w10, fun w11 hE11 => ⟨(hE09.trans hE10).trans hE11, rfl⟩⟩
end
section
open Go.RowKit Go.ChangeShapes Go.WideShapes Go.ChangeAt
theorem choose_list {α : Type} {P : Nat → α → Prop} : ∀ n : Nat, (∀ i, i < n → ∃ g, P i g) → ∃ gs : List α, gs.length = n ∧ ∀ (i : Nat) (g : α), gs[i]? = some g → P i g
 |0, _ => ⟨[], rfl, by simp⟩
 |n + 1, h => by
  obtain ⟨gs, hl, hg⟩ := choose_list n (fun i hi => h i (by omega))
  obtain ⟨g, hgn⟩ := h n (by omega)
  refine ⟨gs ++ [g], by simp [hl], fun i x hx => ?_⟩
  rcases Nat.lt_or_ge i n with hi | hi
  ·rw [List.getElem?_append_left (by omega)] at hx; exact hg i x hx
  ·have hin : i = n := by
    have := (List.getElem?_eq_some_iff.1 hx).1
    simp at this; omega
   subst hin
   rw [List.getElem?_append_right (by omega), hl, Nat.sub_self] at hx
   simp at hx; subst hx; exact hgn
theorem bulk_sum {H α : Type} (b : α → Nat) : ∀ (gs : List α) (ds : List (DataW H)), gs.length = ds.length → (∀ (i : Nat) (g : α) (d : DataW H), gs[i]? = some g → ds[i]? = some d → b g ≤ Rows.uptoBulk d) → (gs.map b).sum ≤ Rows.uptoBulkAll ds
 |[], [], _, _ => Nat.zero_le _
 |g :: gs, d :: ds, hl, h => by
  have h1 := h 0 g d rfl rfl
  have h2 := bulk_sum b gs ds (by simpa using hl) (fun i g d hg hd => h (i + 1) g d (by simpa using hg) (by simpa using hd))
  simp only [List.map_cons, List.sum_cons, Rows.uptoBulkAll]; omega
theorem open_row {H α : Type} {enc : TypeId × Value → H} {P : Program} {W : World} {t e : TypeId} {size fuel : Nat} {cs : List Value} {x : DataW H × List MemPlace} (ht : P.underlying t = some (.slice e)) (hc : P.cellsOf e = size) (cf : α → List Value) (good : α → Prop) (b : α → Nat)
  (hel : ∀ m, m < fuel → ∀ cs y, cs.length = size → DataW.trod enc P W 0 (fun _ => true) true m e cs = some y → ∃ g, cs = cf g ∧ good g ∧ b g ≤ Rows.uptoBulk y.1)
  (h : DataW.trod enc P W 0 (fun _ => true) true fuel t cs = some x) :
  ∃ (s : Sl) (gs : List α), cs = [s.v] ∧ Row [] W s size (gs.map cf) ∧ (∀ g ∈ gs, good g) ∧ (gs.map b).sum + 1 ≤ Rows.uptoBulk x.1 := by
 rcases DataW.trod_slice ht h with ⟨rfl, rfl⟩ | ⟨a, len, cap, elems, rest, n, rfl, rfl, rfl, hb, hl, hm, hlen, he, _, _⟩
 ·exact ⟨Sl.nil, [], rfl, Row.nil _ _ _, by simp, by simp [Rows.uptoBulk]⟩
 ·have each : ∀ i, i < len → ∃ g : α, Cells W (a.add (i * size)) (cf g) ∧ (cf g).length = size ∧ good g ∧ ∀ d, elems[i]? = some d → b g ≤ Rows.uptoBulk d.1 := by
   intro i hi
   have h1 := he i hi
   have hlt : i < elems.length := by omega
   rw [List.getElem?_eq_getElem hlt, Option.bind_eq_some_iff, hc] at h1
   obtain ⟨cs', hcs, hy⟩ := h1
   obtain ⟨q1, q2, q3⟩ := World.cells?_some hcs
   obtain ⟨g, rfl, hg, hbg⟩ := hel n (by omega) cs' _ q2 hy
   refine ⟨g, fun j v hv => ?_, q2, hg, fun d hd => ?_⟩
   ·have hj := (List.getElem?_eq_some_iff.1 hv).1
    have := q3 j (by omega)
    rw [this]; exact hv
   ·rw [List.getElem?_eq_getElem hlt] at hd
    cases hd; exact hbg
  obtain ⟨gs, hgl, hgs⟩ := choose_list len each
  refine ⟨⟨some a, len, cap⟩, gs, rfl, ⟨by simp [hgl], hl, hm, fun i hi => ?_⟩, fun g hg => ?_, ?_⟩
  ·simp only [List.length_map] at hi
   have hgi := hgs i _ (List.getElem?_eq_getElem hi)
   have e : (gs.map cf).getD i [] = cf gs[i] := by simp [List.getD_eq_getElem?_getD, hi]
   rw [e]
   exact ⟨a, rfl, by simp, hgi.1, hgi.2.1⟩
  ·obtain ⟨i, hi⟩ := List.getElem?_of_mem hg
   exact (hgs i g hi).2.2.1
  ·have := bulk_sum b gs (elems.map (·.1)) (by simp [hgl, hlen]) (fun i g d hg hd => by
    rw [List.getElem?_map] at hd
    cases hx : elems[i]? with
    |none => rw [hx] at hd; cases hd
    |some y => rw [hx] at hd; cases hd; exact (hgs i g hg).2.2.2 y hx)
   simp only [Rows.uptoBulk]; omega
theorem isStr {H : Type} {enc : TypeId × Value → H} {W : World} {m : Nat} {cs : List Value} {y : DataW H × List MemPlace} (h : DataW.trod enc Try.prog W 0 (fun _ => true) true m 9 cs = some y) :
  ∃ s : Str, cs = [.string (Bs s)] ∧ Rows.uptoBulk y.1 = s.length + 1 := by
 obtain ⟨s, rfl, rfl, _⟩ := DataW.trod_string Try.underlying9 h
 exact ⟨s.data.toList, by rw [Bs_toList], by simp [Rows.uptoBulk]⟩
theorem isInt {H : Type} {enc : TypeId × Value → H} {W : World} {m : Nat} {cs : List Value} {y : DataW H × List MemPlace} (h : DataW.trod enc Try.prog W 0 (fun _ => true) true m 3 cs = some y) :
  ∃ n : Int, cs = [.int .i64 n] ∧ 1 ≤ Rows.uptoBulk y.1 ∧ (Lit.int .i64 n).wf = true := by
 obtain ⟨n, rfl, rfl, hw⟩ := DataW.trod_int Try.underlying3 h
 exact ⟨n, rfl, by simp [Rows.uptoBulk], hw⟩
end
section
open Go.RowKit Go.ChangeShapes Go.WideShapes Go.ChangeAt
set_option maxRecDepth 20000 in
theorem open_attr {H : Type} {enc : TypeId × Value → H} {W : World} {m : Nat} {cs : List Value} {y : DataW H × List MemPlace} (h : DataW.trod enc Try.prog W 0 (fun _ => true) true m 47 cs = some y) :
  ∃ p : Str × Str, cs = ac p ∧ True ∧ T.abulk p ≤ Rows.uptoBulk y.1 := by
 obtain ⟨xs, n, rfl, rfl, hl, hx, hf⟩ := DataW.trod_struct Try.underlying47 h
 have hl : cs.length = 2 := hl.trans (by kernel_rfl)
 match cs, hl with
 |[c0, c1], _ =>
  match xs, hx with
  |[x0, x1], _ =>
   have h0 := hf 0 _ rfl
   have h1 := hf 1 _ rfl
   have k9 : Try.prog.cellsOf 9 = 1 := by kernel_rfl
   simp only [k9, List.drop_zero, List.take_succ_cons, List.take_zero, List.drop_succ_cons, List.getElem?_cons_zero, List.getElem?_cons_succ] at h0 h1
   obtain ⟨s0, e0, b0⟩ := isStr h0
   obtain ⟨s1, e1, b1⟩ := isStr h1
   cases e0; cases e1
   refine ⟨(s0, s1), rfl, trivial, ?_⟩
   simp only [T.abulk, List.map_cons, List.map_nil, Rows.uptoBulk, Rows.uptoBulkAll]
   omega
def NodeAt (W : World) (g : T × Sl × Sl) : Prop := RdT [] W g.1 g.2.1 g.2.2
set_option maxRecDepth 20000 in
theorem open_node {H : Type} {enc : TypeId × Value → H} {W : World} : ∀ (fuel : Nat) {cs : List Value} {y : DataW H × List MemPlace}, DataW.trod enc Try.prog W 0 (fun _ => true) true fuel 26 cs = some y →
  ∃ g : T × Sl × Sl, cs = tc g.1 g.2 ∧ NodeAt W g ∧ g.1.bulk ≤ Rows.uptoBulk y.1 := by
 intro fuel
 induction fuel using Nat.strongRecOn with
 |ind fuel ih =>
  intro cs y h
  obtain ⟨xs, n, rfl, rfl, hl, hx, hf⟩ := DataW.trod_struct Try.underlying26 h
  have hl : cs.length = 5 := hl.trans (by kernel_rfl)
  match cs, hl with
  |[c0, c1, c2, c3, c4], _ =>
   match xs, hx with
   |[x0, x1, x2, x3, x4], _ =>
    have h0 := hf 0 _ rfl
    have h1 := hf 1 _ rfl
    have h2 := hf 2 _ rfl
    have h3 := hf 3 _ rfl
    have h4 := hf 4 _ rfl
    have k3 : Try.prog.cellsOf 3 = 1 := by kernel_rfl
    have k9 : Try.prog.cellsOf 9 = 1 := by kernel_rfl
    have ka : Try.prog.cellsOf 23 = 1 := by kernel_rfl
    have kk : Try.prog.cellsOf 24 = 1 := by kernel_rfl
    simp only [k3, k9, ka, kk, List.drop_zero, List.take_succ_cons, List.take_zero, List.drop_succ_cons, List.getElem?_cons_zero, List.getElem?_cons_succ] at h0 h1 h2 h3 h4
    obtain ⟨kd, e0, b0, _⟩ := isInt h0
    obtain ⟨s1, e1, b1⟩ := isStr h1
    obtain ⟨s2, e2, b2⟩ := isStr h2
    obtain ⟨sa, ats, e3, ha, _, b3⟩ := open_row Try.underlying23 (by kernel_rfl : Try.prog.cellsOf 47 = 2) ac (fun _ => True) T.abulk (fun m _ cs y _ h => open_attr h) h3
    obtain ⟨sk, gs, e4, hk, hg, b4⟩ := open_row Try.underlying24 (by kernel_rfl : Try.prog.cellsOf 26 = 5) (fun g : T × Sl × Sl => tc g.1 g.2) (NodeAt W) (fun g => g.1.bulk) (fun m hm cs y _ h => ih m (by omega) h) h4
    cases e0; cases e1; cases e2; cases e3; cases e4
    refine ⟨(.node kd s1 s2 ats (gs.map (·.1)), sa, sk), rfl, .mk (gs.map (·.2)) ha (by simp) ?_ (fun i t p hi hp => ?_), ?_⟩
    ·have e : List.zipWith tc (gs.map (·.1)) (gs.map (·.2)) = gs.map fun g => tc g.1 g.2 := by
      clear hk hg b4 h4
      induction gs with
      |nil => rfl
      |cons g gs ih => simp only [List.map_cons, List.zipWith_cons_cons, ih]
     rw [e]; exact hk
    ·rw [List.getElem?_map] at hi hp
     cases hq : gs[i]? with
     |none => rw [hq] at hi; cases hi
     |some g =>
      rw [hq] at hi hp; cases hi; cases hp
      exact hg g (List.mem_of_getElem? hq)
    ·rw [T.bulk_eq]
     simp only [T.name, T.text, T.attrs, T.kids, List.map_map, List.map_cons, List.map_nil, Rows.uptoBulk, Rows.uptoBulkAll]
     have e : (List.map (T.bulk ∘ fun x => x.fst) gs).sum = (gs.map fun g => g.1.bulk).sum := rfl
     omega
set_option maxRecDepth 20000 in
theorem open_tree {H : Type} {enc : TypeId × Value → H} {W : World} {v : Value} {d : DataW H} {ps : List MemPlace} {base : Nat} (hval : Value.okWide Try.prog W .any base 26 v) (h : DataW.Trod enc Try.prog W 0 (fun _ => true) true 26 v d ps) :
  ∃ (t : T) (sa sk : Sl), v = tv t sa sk ∧ RdT [] W t sa sk ∧ t.bulk ≤ Rows.uptoBulk d := by
 obtain ⟨cs, rfl, _⟩ := okWide_struct Try.underlying26 hval
 obtain ⟨fuel, hf⟩ := h
 obtain ⟨⟨t, sa, sk⟩, hc, hg, hb⟩ := open_node fuel hf
 refine ⟨t, sa, sk, ?_, hg, hb⟩
 have : cs.toList = tc t (sa, sk) := hc
 unfold tv
 congr 1
 exact Array.toList_inj.1 (by rw [this]; rfl)
end
section
open Go.RowKit Go.ChangeShapes Go.WideShapes Go.ChangeAt
set_option maxRecDepth 20000 in
theorem open_pair {H : Type} {enc : TypeId × Value → H} {W : World} {m : Nat} {cs : List Value} {y : DataW H × List MemPlace} (h : DataW.trod enc Try.prog W 0 (fun _ => true) true m 40 cs = some y) :
  ∃ p : Int × Int, cs = pc p ∧ True ∧ 1 ≤ Rows.uptoBulk y.1 := by
 obtain ⟨xs, n, rfl, rfl, hl, hx, hf⟩ := DataW.trod_struct Try.underlying40 h
 have hl : cs.length = 2 := hl.trans (by kernel_rfl)
 match cs, hl with
 |[c0, c1], _ =>
  match xs, hx with
  |[x0, x1], _ =>
   have h0 := hf 0 _ rfl
   have h1 := hf 1 _ rfl
   have k3 : Try.prog.cellsOf 3 = 1 := by kernel_rfl
   simp only [k3, List.drop_zero, List.take_succ_cons, List.take_zero, List.drop_succ_cons, List.getElem?_cons_zero, List.getElem?_cons_succ] at h0 h1
   obtain ⟨n0, e0, b0, w0⟩ := isInt h0
   obtain ⟨n1, e1, b1, w1⟩ := isInt h1
   cases e0; cases e1
   refine ⟨(n0, n1), rfl, trivial, ?_⟩
   simp only [List.map_cons, List.map_nil, Rows.uptoBulk, Rows.uptoBulkAll]
   omega
set_option maxRecDepth 20000 in
theorem open_pairs {H : Type} {enc : TypeId × Value → H} {W : World} {v : Value} {d : DataW H} {ps : List MemPlace} {base : Nat} (hval : Value.okWide Try.prog W .any base 29 v) (h : DataW.Trod enc Try.prog W 0 (fun _ => true) true 29 v d ps) :
  ∃ (s : Sl) (l : List (Int × Int)), v = s.v ∧ Row [] W s 2 (l.map pc) := by
 obtain ⟨a, len, cap, rfl⟩ := okWide_slice Try.underlying29 hval
 obtain ⟨fuel, hf⟩ := h
 obtain ⟨s, gs, hc, hr, hg, hb⟩ := open_row Try.underlying29 (by kernel_rfl : Try.prog.cellsOf 40 = 2) pc (fun _ => True) (fun _ => 1) (fun m _ cs y _ h => open_pair h) hf
 refine ⟨s, gs, ?_, hr⟩
 simp [Value.cells] at hc
 obtain ⟨rfl, rfl, rfl⟩ := hc
 rfl
end
end Go.Proofs.Yteohbfaechfliaa
