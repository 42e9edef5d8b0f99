/-
  Chapter 5's own answer: Name, Size, Depth, Slots, Attr, Check, Compare, Same: they answer as the program's do.
-/
import Derived.Test.YtpacegmmbabhjaaTreeI
import Derived.Test.YtpacegmmbabhjaaTreeS
import Derived.Test.YtpacegmmbabhjaaGref05
import Derived.Test.YtpacegmmbabhjaaGref04
namespace Go.Proofs.Ytpacegmmbabhjaa
open Go.RowKit

theorem refSize {A : List Nat} : ∀ t : T, t.bulk ≤ 1099511627776 → ∀ {w : World} {sa sk : Sl}, RdT A w t sa sk →
    Calls Try.prog 29 #[tv t sa sk] w (Ret fun v w' => Ext w w' ∧ v = .int .i64 (t.size : Int)) := T.ind' fun t ih hb w sa sk h => by
  refine ref05_Size.ok _ _ _ _ _ ?_
  unfold ref05_Size.vc
  have hn := h.nkids
  have hcp := h.caps
  have hl := T.kids_len t
  intro w1 B1 _ hE1
  refine ⟨fun n i w2 => ∃ k : Nat, i = (k : Int) ∧ k ≤ t.kids.length ∧ n = ((1 + ((t.kids.take k).map T.size).sum : Nat) : Int) ∧ Ext w w2, fun _ i _ => t.kids.length - i.toNat, ⟨0, rfl, Nat.zero_le _, by simp, hE1⟩, ?_⟩
  rintro _ _ w2 ⟨k, rfl, hk, rfl, hE⟩
  refine ⟨fun hi => ?_, fun hi => ⟨hE, ?_⟩⟩
  · have hk' : k < t.kids.length := by omega
    obtain ⟨p, sa', sk', hp, _, hc, hr⟩ := (h.ext hE).kid hk'
    rw [Int.toNat_natCast]
    have hm := getD_mem (d := T.nul) hk'
    have hs := sum_take T.size hk'
    have hsl := sum_take_le T.size t.kids (k + 1)
    have ht := T.size_eq t
    have htb := T.size_bulk t
    refine ⟨⟨by omega, hi⟩, p, hp, _, _, _, sa', sk', hc, CallK.exact (ih _ hm (by have := T.kid_bulk hm; omega) hr) fun w4 hE4 => ⟨_, rfl, ⟨by omega, by omega⟩, ⟨by omega, by omega⟩, ⟨k + 1, by omega, by omega, by omega, hE.trans hE4⟩, by dsimp only; omega⟩⟩
  · have hkl : k = t.kids.length := by omega
    subst hkl
    rw [List.take_of_length_le (Nat.le_refl _), T.size_eq t]

theorem refDepth {A : List Nat} : ∀ t : T, t.bulk ≤ 1099511627776 → ∀ {w : World} {sa sk : Sl}, RdT A w t sa sk →
    Calls Try.prog 30 #[tv t sa sk] w (Ret fun v w' => Ext w w' ∧ v = .int .i64 (t.depth : Int)) := T.ind' fun t ih hb w sa sk h => by
  refine ref05_Depth.ok _ _ _ _ _ ?_
  unfold ref05_Depth.vc
  have hn := h.nkids
  have hcp := h.caps
  have hl := T.kids_len t
  intro w1 B1 _ hE1
  refine ⟨fun n i w2 => ∃ k : Nat, i = (k : Int) ∧ k ≤ t.kids.length ∧ n = ((((t.kids.take k).map T.depth).foldr max 0 : Nat) : Int) ∧ Ext w w2, fun _ i _ => t.kids.length - i.toNat, ⟨0, rfl, Nat.zero_le _, by simp, hE1⟩, ?_⟩
  rintro _ _ w2 ⟨k, rfl, hk, rfl, hE⟩
  refine ⟨fun hi => ?_, fun hi => ?_⟩
  · have hk' : k < t.kids.length := by omega
    obtain ⟨p, sa', sk', hp, _, hc, hr⟩ := (h.ext hE).kid hk'
    rw [Int.toNat_natCast]
    have hm := getD_mem (d := T.nul) hk'
    have hs := max_take T.depth hk'
    refine ⟨⟨by omega, hi⟩, p, hp, _, _, _, sa', sk', hc, CallK.exact (ih _ hm (by have := T.kid_bulk hm; omega) hr) fun w4 hE4 => ⟨_, rfl, ⟨by omega, by omega⟩, ⟨k + 1, by omega, by omega, by omega, hE.trans hE4⟩, by dsimp only; omega⟩⟩
  · have hkl : k = t.kids.length := by omega
    subst hkl
    have h1 := T.depth_eq t
    have h2 := T.depth_size t
    have h3 := T.size_bulk t
    rw [List.take_of_length_le (Nat.le_refl _)]
    refine ⟨⟨by omega, by omega⟩, hE, ?_⟩
    rw [h1]; congr 1; omega

theorem refSlots {A : List Nat} : ∀ t : T, t.bulk ≤ 1099511627776 → ∀ {w : World} {sa sk : Sl}, RdT A w t sa sk →
    Calls Try.prog 31 #[tv t sa sk] w (Ret fun v w' => Ext w w' ∧ v = .int .i64 (t.slots : Int)) := T.ind' fun t ih hb w sa sk h => by
  refine ref05_Slots.ok _ _ _ _ _ ?_
  unfold ref05_Slots.vc
  have hn := h.nkids
  have hna := h.nattrs
  have hcp := h.caps
  have hl := T.kids_len t
  intro w1 B1 _ hE1
  refine ⟨fun n i w2 => ∃ k : Nat, i = (k : Int) ∧ k ≤ t.kids.length ∧ n = ((t.attrs.length + ((t.kids.take k).map T.slots).sum : Nat) : Int) ∧ Ext w w2, fun _ i _ => t.kids.length - i.toNat, ⟨0, rfl, Nat.zero_le _, by simp [hna], hE1⟩, ?_⟩
  rintro _ _ w2 ⟨k, rfl, hk, rfl, hE⟩
  refine ⟨fun hi => ?_, fun hi => ⟨hE, ?_⟩⟩
  · have hk' : k < t.kids.length := by omega
    obtain ⟨p, sa', sk', hp, _, hc, hr⟩ := (h.ext hE).kid hk'
    rw [Int.toNat_natCast]
    have hm := getD_mem (d := T.nul) hk'
    have hs := sum_take T.slots hk'
    have hsl := sum_take_le T.slots t.kids (k + 1)
    have ht := T.slots_eq t
    have htb := T.slots_bulk t
    refine ⟨⟨by omega, hi⟩, p, hp, _, _, _, sa', sk', hc, CallK.exact (ih _ hm (by have := T.kid_bulk hm; omega) hr) fun w4 hE4 => ⟨_, rfl, ⟨by omega, by omega⟩, ⟨by omega, by omega⟩, ⟨k + 1, by omega, by omega, by omega, hE.trans hE4⟩, by dsimp only; omega⟩⟩
  · have hkl : k = t.kids.length := by omega
    subst hkl
    rw [List.take_of_length_le (Nat.le_refl _), T.slots_eq t]

theorem refBlank {w : World} (c : Int) : Calls Try.prog 44 #[.int .u8 c] w (Ret fun v w' => Ext w w' ∧ v = .bool ((((decide (c = 9)) || (decide (c = 10))) || (decide (c = 12))) || (decide (c = 32)))) := by
  refine ref04_Blank.ok _ ?_
  unfold ref04_Blank.vc
  exact ⟨Chg.refl _ _, rfl⟩

theorem refName {w : World} (s : Str) : Calls Try.prog 28 #[.string (Bs s)] w (Ret fun v w' => Ext w w' ∧ v = .bool (nameOk s)) := by
  refine ref05_Name.ok _ ?_
  unfold ref05_Name.vc
  refine ⟨fun hc => ⟨Chg.refl _ _, ?_⟩, fun hc => ?_⟩
  · have : nameOk s = false := by
      unfold nameOk
      rcases hc with hc | hc
      · have : s = [] := List.eq_nil_of_length_eq_zero (by omega)
        subst this; rfl
      · simp; omega
    rw [this]
  · obtain ⟨h0, h32⟩ := hc
    refine ⟨fun i w1 => ∃ k : Nat, i = (k : Int) ∧ k ≤ s.length ∧ (s.take k).all byteOk = true ∧ Ext w w1, fun i _ => s.length - i.toNat, ⟨0, rfl, Nat.zero_le _, rfl, Chg.refl _ _⟩, ?_⟩
    rintro _ w1 ⟨k, rfl, hk, hall, hE⟩
    rw [Int.toNat_natCast]
    refine ⟨fun hi => ?_, fun hi => ⟨hE, ?_⟩⟩
    · have hk' : k < s.length := by omega
      have hbad : byteOk (s.getD k 0) = false → nameOk s = false := fun hb => by
        have hm : s.getD k 0 ∈ s := by rw [List.getD_eq_getElem?_getD, List.getElem?_eq_getElem hk']; exact List.getElem_mem hk'
        unfold nameOk
        have : s.all byteOk = false := by
          rw [List.all_eq_false]; exact ⟨_, hm, fun h => by rw [hb] at h; cases h⟩
        rw [this, Bool.and_false]
      generalize hx : s.getD k 0 = c at hbad
      refine ⟨⟨by omega, hi⟩, CallK.exact (refBlank _) fun w2 hE2 => ⟨_, rfl, fun hset => ⟨hE.trans hE2, ?_⟩, fun hset => ⟨⟨by omega, by omega⟩, ⟨k + 1, by omega, by omega, ?_, hE.trans hE2⟩, by dsimp only; omega⟩⟩⟩
      · rw [hbad ?_]
        unfold byteOk
        simp only [Bool.or_eq_true, decide_eq_true_eq] at hset
        simp; omega
      · rw [List.take_succ_eq_append_getElem hk', List.all_append, hall]
        have : s[k] = c := by rw [← hx, List.getD_eq_getElem?_getD, List.getElem?_eq_getElem hk']; rfl
        rw [this]
        simp only [List.all_cons, List.all_nil, Bool.and_true, Bool.true_and]
        unfold byteOk
        simp only [Bool.or_eq_false_iff, decide_eq_false_iff_not] at hset
        simp; omega
    · have hkl : k = s.length := by omega
      subst hkl
      rw [List.take_of_length_le (Nat.le_refl _)] at hall
      unfold nameOk
      rw [hall]
      have : s.isEmpty = false := by cases s <;> simp_all
      simp [this]; omega

theorem refAttr {A : List Nat} {w : World} {s : Sl} {l : List (Str × Str)} (h : Row A w s 2 (l.map ac)) (nm : Str) :
    Calls Try.prog 26 #[s.v, .string (Bs nm)] w (Ret fun v w' => Ext w w' ∧ v = .tuple #[.string (Bs (attrGet l nm).1), .bool (attrGet l nm).2]) := by
  refine ref05_Attr.ok _ _ ?_
  unfold ref05_Attr.vc
  have hl := h.len
  have hm := h.most
  have hc := h.cap
  simp only [List.length_map] at hl
  simp only [maxLen] at hm
  refine ⟨fun i w2 => ∃ k : Nat, i = (k : Int) ∧ k ≤ l.length ∧ attrGet l nm = attrGet (l.drop k) nm ∧ Ext w w2, fun i _ => l.length - i.toNat, ⟨0, rfl, Nat.zero_le _, rfl, Chg.refl _ _⟩, ?_⟩
  rintro _ w2 ⟨k, rfl, hk, heq, hE⟩
  rw [Int.toNat_natCast]
  refine ⟨fun hi => ?_, fun hi => ⟨hE, ?_⟩⟩
  · have hk' : k < l.length := by omega
    obtain ⟨p, hp, _, hcell, _⟩ := (h.ext hE).at_ k (by simpa using hk')
    have e : (l.map ac).getD k [] = ac (l.getD k ([], [])) := by simp [List.getD_eq_getElem?_getD, hk']
    rw [e] at hcell
    have hd : l.drop k = l.getD k ([], []) :: l.drop (k + 1) := by
      rw [List.drop_eq_getElem_cons hk', List.getD_eq_getElem?_getD, List.getElem?_eq_getElem hk']; rfl
    rw [hd] at heq
    generalize l.getD k ([], []) = q at hcell heq
    obtain ⟨qn, qv⟩ := q
    refine ⟨⟨by omega, hi⟩, p, hp, qn, hcell 0 _ rfl, fun he => ⟨⟨by omega, hi⟩, p, hp, qv, hcell 1 _ rfl, hE, ?_⟩, fun hne => ⟨⟨by omega, by omega⟩, ⟨k + 1, by omega, by omega, ?_, hE⟩, by dsimp only; omega⟩⟩
    · rw [heq, attrGet, if_pos he]
    · rw [heq, attrGet, if_neg hne]
  · have hkl : k = l.length := by omega
    subst hkl
    rw [heq, List.drop_length]; rfl

/-! ### Check -/

theorem attrsOk_nil {p : Str × Str} {r : List (Str × Str)} : attrsOk [] (p :: r) = (nameOk p.1 && decide (p.2.length ≤ 4096) && attrsOk p.1 r) := by
  have h1 : Op.bytesLess p.1 ([] : Str) = false := by cases p.1 <;> rfl
  rw [attrsOk, h1]
  by_cases h2 : p.1 = []
  · have : nameOk p.1 = false := by rw [h2]; rfl
    simp [this]
  · simp [h2]

theorem refAttrs {A : List Nat} {w : World} {s : Sl} {l : List (Str × Str)} (h : Row A w s 2 (l.map ac)) :
    Calls Try.prog 53 #[s.v] w (Ret fun v w' => Ext w w' ∧ v = .bool (decide (l.length ≤ 12) && attrsOk [] l)) := by
  refine ref05_attrs.ok _ ?_
  unfold ref05_attrs.vc
  have hl := h.len
  simp only [List.length_map] at hl
  refine ⟨fun hb => ⟨Chg.refl _ _, ?_⟩, fun hb => ?_⟩
  · rw [decide_eq_false (show ¬ l.length ≤ 12 by omega)]; rfl
  rw [decide_eq_true (show l.length ≤ 12 by omega), Bool.true_and]
  refine ⟨fun i w1 => ∃ k : Nat, i = (k : Int) ∧ k ≤ l.length ∧ attrsOk [] l = attrsOk (if k = 0 then [] else (l.getD (k - 1) ([], [])).1) (l.drop k) ∧ Ext w w1, fun i _ => l.length - i.toNat, ⟨0, rfl, Nat.zero_le _, rfl, Chg.refl _ _⟩, ?_⟩
  rintro _ w1 ⟨k, rfl, hk, heq, hE⟩
  rw [Int.toNat_natCast]
  refine ⟨fun hi w2 hE2 => ?_, fun hi => ⟨hE, ?_⟩⟩
  · have hk' : k < l.length := by omega
    have hE12 := hE.trans hE2
    obtain ⟨p, hp, _, hcell, _⟩ := (h.ext hE12).at_ k (by simpa using hk')
    have e : (l.map ac).getD k [] = ac (l.getD k ([], [])) := by simp [List.getD_eq_getElem?_getD, hk']
    rw [e] at hcell
    have hprev : ∃ q, 0 < k → s.a = some q ∧ w2.cell? ((q.add ((k - 1) * 2)).add 0) = some (.string (Bs (l.getD (k - 1) ([], [])).1)) := by
      by_cases h0 : 0 < k
      · obtain ⟨q, hq, _, hqc, _⟩ := (h.ext hE12).at_ (k - 1) (by simp; omega)
        have e : (l.map ac).getD (k - 1) [] = ac (l.getD (k - 1) ([], [])) := by simp [List.getD_eq_getElem?_getD, show k - 1 < l.length by omega]
        rw [e] at hqc
        exact ⟨q, fun _ => ⟨hq, hqc 0 _ rfl⟩⟩
      · exact ⟨p, fun h => absurd h h0⟩
    obtain ⟨q, hq⟩ := hprev
    have hnx : attrsOk (l.getD k ([], [])).1 (l.drop (k + 1)) = attrsOk (if k + 1 = 0 then [] else (l.getD (k + 1 - 1) ([], [])).1) (l.drop (k + 1)) := by rw [if_neg (by omega), Nat.add_sub_cancel]
    have hstep : attrsOk [] l = (nameOk (l.getD k ([], [])).1 && decide ((l.getD k ([], [])).2.length ≤ 4096) && (decide (k = 0) || (!(Op.bytesLess (l.getD k ([], [])).1 (l.getD (k - 1) ([], [])).1) && !(decide ((l.getD k ([], [])).1 = (l.getD (k - 1) ([], [])).1)))) && attrsOk (l.getD k ([], [])).1 (l.drop (k + 1))) := by
      by_cases h0 : k = 0
      · subst h0
        rw [heq, if_pos rfl, drop_at l ([], []) hk', attrsOk_nil]; simp
      · rw [heq, if_neg h0, attrsOk_drop hk']
        simp only [decide_eq_false h0, Bool.false_or]
        generalize Op.bytesLess (l.getD k ([], [])).1 (l.getD (k - 1) ([], [])).1 = x1
        generalize decide ((l.getD k ([], [])).1 = (l.getD (k - 1) ([], [])).1) = x2
        generalize nameOk (l.getD k ([], [])).1 = x3
        generalize decide ((l.getD k ([], [])).2.length ≤ 4096) = x4
        generalize attrsOk (l.getD k ([], [])).1 (l.drop (k + 1)) = x5
        cases x1 <;> cases x2 <;> cases x3 <;> cases x4 <;> rfl
    refine ⟨p, ⟨⟨by omega, hi⟩, hp⟩, _, hcell 0 _ rfl, _, fun w' _ => refName _, p, fun _ => ⟨⟨by omega, hi⟩, hp⟩, _, fun _ => hcell 1 _ rfl, p, fun _ => ⟨⟨by omega, hi⟩, hp⟩, _, fun _ => hcell 0 _ rfl, fun _ => ⟨by omega, by omega⟩, q, fun hg => ⟨⟨by omega, by omega⟩, (hq (by omega)).1⟩, (l.getD (k - 1) ([], [])).1, fun hg => ?_, fun hbad w3 hE3 => ⟨hE12.trans hE3, ?_⟩, fun hgood => ⟨⟨by omega, by omega⟩, fun w3 hE3 => ⟨⟨k + 1, by omega, by omega, ?_, hE12.trans hE3⟩, by dsimp only; omega⟩⟩⟩
    · have := (hq (by omega)).2
      rw [show ((k : Int) - 1).toNat = k - 1 by omega]; exact this
    · rw [hstep]
      rcases hbad with (hb | hb) | ⟨h0, hb⟩
      · rw [hb]; rfl
      · rw [decide_eq_false (show ¬ (l.getD k ([], [])).2.length ≤ 4096 by omega)]; simp
      · rw [decide_eq_false (show ¬ k = 0 by omega)]
        rcases hb with hb | hb
        · rw [hb]; simp
        · rw [decide_eq_true hb]; simp
    · rw [hstep, ← hnx]
      obtain ⟨⟨h1, h2⟩, h3⟩ := hgood
      rw [h1, decide_eq_true (show (l.getD k ([], [])).2.length ≤ 4096 by omega)]
      rcases h3 with h3 | ⟨h3, h4⟩
      · rw [decide_eq_true (show k = 0 by omega)]; simp
      · rw [h3, decide_eq_false h4]; simp
  · have hkl : k = l.length := by omega
    subst hkl
    rw [heq, List.drop_length]; rfl

def mayOk (t : T) (top root : Bool) : Bool :=
  if t.kind = 1 then top && t.name.isEmpty && t.text.isEmpty && t.attrs.isEmpty
  else if t.kind = 2 then nameOk t.name && t.text.isEmpty && (decide (t.attrs.length ≤ 12) && attrsOk [] t.attrs)
  else if t.kind = 3 then t.name.isEmpty && t.attrs.isEmpty && t.kids.isEmpty && !t.text.isEmpty && decide (t.text.length ≤ 4096)
  else if t.kind = 4 then t.name.isEmpty && t.attrs.isEmpty && t.kids.isEmpty && decide (t.text.length ≤ 4096)
  else if t.kind = 5 then root && decide (t.name.length ≤ 32) && t.text.isEmpty && t.attrs.isEmpty && t.kids.isEmpty
  else false

theorem len_zero_dec {α : Type} (l : List α) (n : Nat) (h : n = l.length) : decide ((n : Int) = 0) = l.isEmpty := by
  subst h; cases l with
  | nil => rfl
  | cons a r => simp; omega

theorem refMay {A : List Nat} {w : World} {t : T} {sa sk : Sl} (h : RdT A w t sa sk) (top root : Bool) :
    Calls Try.prog 50 #[tv t sa sk, .bool top, .bool root] w (Ret fun v w' => Ext w w' ∧ v = .bool (mayOk t top root)) := by
  refine ref05_May.ok _ _ _ _ _ _ _ ?_
  unfold ref05_May.vc
  have hn := len_zero_dec t.kids sk.n h.nkids
  have ha := len_zero_dec t.attrs sa.n h.nattrs
  have l4 := le_dec t.text 4096
  have l3 := le_dec t.name 32
  rw [show ((4096 : Nat) : Int) = 4096 from rfl] at l4
  rw [show ((32 : Nat) : Int) = 32 from rfl] at l3
  have l1 : decide (1 ≤ (t.text.length : Int)) = !t.text.isEmpty := by cases t.text with
    | nil => rfl
    | cons a r => simp; omega
  rw [hn, ha, l4, l3, l1, isEmpty_dec, isEmpty_dec]
  unfold mayOk
  refine ⟨fun h1 w1 B1 _ hE1 => ⟨hE1, by rw [if_pos h1]⟩, fun h1 => ⟨fun h2 w1 B1 _ hE1 => ?_, fun h2 => ⟨fun h3 w1 B1 _ hE1 => ⟨hE1, by rw [if_neg h1, if_neg h2, if_pos h3]⟩, fun h3 => ⟨fun h4 w1 B1 _ hE1 => ⟨hE1, by rw [if_neg h1, if_neg h2, if_neg h3, if_pos h4]⟩, fun h4 =>
    ⟨fun h5 w1 B1 _ hE1 => ⟨hE1, by rw [if_neg h1, if_neg h2, if_neg h3, if_neg h4, if_pos h5]⟩, fun h5 w1 B1 _ hE1 => ⟨hE1, by rw [if_neg h1, if_neg h2, if_neg h3, if_neg h4, if_neg h5]⟩⟩⟩⟩⟩⟩
  rw [if_neg h1, if_pos h2]
  exact CallK.exact (refName _) fun w2 hE2 => ⟨_, rfl, _, fun _ => refAttrs ((h.ext (hE1.trans hE2)).attrs), fun w3 hE3 => ⟨(hE1.trans hE2).trans hE3, rfl⟩⟩

theorem may_false {t : T} {root : Bool} (h : mayOk t false root = false) : (nodeOk t && !(decide (t.kind = 5) && !root)) = false := by
  unfold mayOk at h
  by_cases h2 : t.kind = 2
  · rw [if_neg (by omega), if_pos h2] at h
    rw [nodeOk_el h2, h]; rfl
  · rw [nodeOk_ne h2]
    by_cases h1 : t.kind = 1
    · rw [if_neg (by omega), if_neg (by omega), if_neg (by omega)]; simp
    · rw [if_neg h1, if_neg h2] at h
      by_cases h3 : t.kind = 3
      · rw [if_pos h3] at h ⊢
        generalize t.name.isEmpty = x1 at *
        generalize t.attrs.isEmpty = x2 at *
        generalize t.kids.isEmpty = x3 at *
        generalize t.text.isEmpty = x4 at *
        generalize decide (t.text.length ≤ 4096) = x5 at *
        cases x1 <;> cases x2 <;> cases x3 <;> cases x4 <;> cases x5 <;> simp_all
      · rw [if_neg h3] at h ⊢
        by_cases h4 : t.kind = 4
        · rw [if_pos h4] at h ⊢
          generalize t.name.isEmpty = x1 at *
          generalize t.attrs.isEmpty = x2 at *
          generalize t.kids.isEmpty = x3 at *
          generalize decide (t.text.length ≤ 4096) = x5 at *
          cases x1 <;> cases x2 <;> cases x3 <;> cases x5 <;> simp_all
        · rw [if_neg h4] at h ⊢
          by_cases h5 : t.kind = 5
          · rw [if_pos h5] at h ⊢
            rw [decide_eq_true h5]
            generalize t.attrs.isEmpty = x2 at *
            generalize t.kids.isEmpty = x3 at *
            generalize t.text.isEmpty = x4 at *
            generalize decide (t.name.length ≤ 32) = x5 at *
            cases x2 <;> cases x3 <;> cases x4 <;> cases x5 <;> cases root <;> simp_all
          · rw [if_neg h5]; simp

theorem may_true {t : T} {root : Bool} (h : mayOk t false root = true) : (nodeOk t && !(decide (t.kind = 5) && !root)) = kidsOk t := by
  unfold mayOk at h
  by_cases h2 : t.kind = 2
  · rw [if_neg (by omega), if_pos h2] at h
    rw [nodeOk_el h2, h, decide_eq_false (by omega : ¬ t.kind = 5)]; simp
  · have key : t.kids.isEmpty = true → kidsOk t = true := fun hk => by
      unfold kidsOk; rw [List.isEmpty_iff.1 hk]; rfl
    rw [nodeOk_ne h2]
    by_cases h1 : t.kind = 1
    · rw [if_pos h1] at h; simp at h
    · rw [if_neg h1, if_neg h2] at h
      by_cases h3 : t.kind = 3
      · rw [if_pos h3] at h ⊢
        rw [decide_eq_false (by omega : ¬ t.kind = 5)]
        simp only [Bool.and_eq_true] at h
        obtain ⟨⟨⟨⟨a1, a2⟩, a3⟩, a4⟩, a5⟩ := h
        rw [a1, a2, a3, a4, a5, key a3]; rfl
      · rw [if_neg h3] at h ⊢
        by_cases h4 : t.kind = 4
        · rw [if_pos h4] at h ⊢
          rw [decide_eq_false (by omega : ¬ t.kind = 5)]
          simp only [Bool.and_eq_true] at h
          obtain ⟨⟨⟨a1, a2⟩, a3⟩, a5⟩ := h
          rw [a1, a2, a3, a5, key a3]; rfl
        · rw [if_neg h4] at h ⊢
          by_cases h5 : t.kind = 5
          · rw [if_pos h5] at h ⊢
            simp only [Bool.and_eq_true] at h
            obtain ⟨⟨⟨⟨a1, a2⟩, a3⟩, a4⟩, a5⟩ := h
            rw [a1, a2, a3, a4, a5, key a5]; simp
          · rw [if_neg h5] at h; cases h

theorem refAllLoop {A : List Nat} (t : T) (ih : ∀ u ∈ t.kids, ∀ (root : Bool) {w : World} {sa sk : Sl}, RdT A w u sa sk → Calls Try.prog 43 #[tv u sa sk, .bool false, .bool root] w (Ret fun v w' => Ext w w' ∧ v = .bool (nodeOk u && !(decide (u.kind = 5) && !root))))
    (top root r : Bool) (h0 : mayOk t top root = false → r = false) (h1 : mayOk t top root = true → r = kidsOk t) {w : World} {sa sk : Sl} (h : RdT A w t sa sk) :
    Calls Try.prog 43 #[tv t sa sk, .bool top, .bool root] w (Ret fun v w' => Ext w w' ∧ v = .bool r) := by
  refine ref05_all.ok _ _ _ _ _ _ _ ?_
  unfold ref05_all.vc
  have hn := h.nkids
  have hcp := h.caps
  simp only [maxLen] at hcp
  intro w1 B1 _ hE1
  refine CallK.exact (refMay (h.ext hE1) top root) fun w2 hE2 => ⟨_, rfl, fun hf => ⟨hE1.trans hE2, by rw [h0 hf]⟩, fun ht => ?_⟩
  rw [h1 ht]
  refine ⟨fun i w3 => ∃ k : Nat, i = (k : Int) ∧ k ≤ t.kids.length ∧ kidsOk t = (t.kids.drop k).all (fun u => nodeOk u && !(decide (u.kind = 5) && !(decide (t.kind = 1)))) ∧ Ext w w3, fun i _ => t.kids.length - i.toNat, ⟨0, rfl, Nat.zero_le _, rfl, hE1.trans hE2⟩, ?_⟩
  rintro _ w3 ⟨k, rfl, hk, heq, hE⟩
  rw [Int.toNat_natCast]
  refine ⟨fun hi w4 hE4 => ?_, fun hi => ⟨hE, ?_⟩⟩
  · have hk' : k < t.kids.length := by omega
    have hE34 := hE.trans hE4
    obtain ⟨p, sa', sk', hp, _, hc, hr⟩ := (h.ext hE34).kid hk'
    have hm := getD_mem (d := T.nul) hk'
    rw [drop_at t.kids T.nul hk', List.all_cons] at heq
    refine ⟨p, ⟨⟨by omega, hi⟩, hp⟩, _, _, _, sa', sk', hc, _, fun w' hE' => ih _ hm _ (hr.ext hE'), fun hf w5 hE5 => ⟨hE34.trans hE5, ?_⟩, fun ht => ⟨⟨by omega, by omega⟩, fun w5 hE5 => ⟨⟨k + 1, by omega, by omega, ?_, hE34.trans hE5⟩, by dsimp only; omega⟩⟩⟩
    · rw [heq, hf]; rfl
    · rw [heq, ht]; rfl
  · have hkl : k = t.kids.length := by omega
    subst hkl
    rw [heq, List.drop_length]; rfl

theorem refAll {A : List Nat} : ∀ t : T, ∀ (root : Bool) {w : World} {sa sk : Sl}, RdT A w t sa sk → Calls Try.prog 43 #[tv t sa sk, .bool false, .bool root] w (Ret fun v w' => Ext w w' ∧ v = .bool (nodeOk t && !(decide (t.kind = 5) && !root))) :=
  T.ind' fun t ih root _ _ _ h => refAllLoop t ih false root _ may_false may_true h

theorem refCheck {A : List Nat} (t : T) (hb : t.bulk ≤ 1099511627776) {w : World} {sa sk : Sl} (h : RdT A w t sa sk) :
    Calls Try.prog 27 #[tv t sa sk] w (Ret fun v w' => Ext w w' ∧ v = .bool t.check) := by
  refine ref05_Check.ok _ _ _ _ _ ?_
  unfold ref05_Check.vc
  intro w1 B1 _ hE1
  refine ⟨_, fun _ => refSize t hb (h.ext hE1), fun w2 hE2 => ⟨_, fun _ => refDepth t hb (h.ext (hE1.trans hE2)), fun w3 hE3 => ⟨(t.name.isEmpty && t.text.isEmpty && t.attrs.isEmpty && kidsOk t), fun hg => ?_, fun w4 hE4 => ⟨((hE1.trans hE2).trans hE3).trans hE4, ?_⟩⟩⟩⟩
  · have hk := hg.1.1
    refine refAllLoop t (fun u _ root _ _ _ h => refAll u root h) true false _ (fun hf => ?_) (fun ht => ?_) (h.ext ((hE1.trans hE2).trans hE3))
    · unfold mayOk at hf; rw [if_pos hk, Bool.true_and] at hf; rw [hf]; rfl
    · unfold mayOk at ht; rw [if_pos hk, Bool.true_and] at ht; rw [ht]; simp
  · unfold T.check
    have e1 : decide ((t.size : Int) ≤ 300) = decide (t.size ≤ 300) := by rw [Bool.eq_iff_iff]; simp; omega
    have e2 : decide ((t.depth : Int) ≤ 60) = decide (t.depth ≤ 60) := by rw [Bool.eq_iff_iff]; simp; omega
    rw [e1, e2]
    simp only [Bool.and_assoc]

/-! ### Compare -/

theorem refSign {w : World} (x y : Bool) : Calls Try.prog 46 #[.bool x, .bool y] w (Ret fun v w' => Ext w w' ∧ v = .int .i64 (if x = true then -1 else if y = true then 1 else 0)) := by
  refine ref05_sign.ok _ _ ?_
  unfold ref05_sign.vc
  refine ⟨fun h => ⟨Chg.refl _ _, by rw [if_pos h]⟩, fun h => ⟨fun h2 => ⟨Chg.refl _ _, by rw [if_neg (by rw [h]; decide), if_pos h2]⟩, fun h2 => ⟨Chg.refl _ _, by rw [if_neg (by rw [h]; decide), if_neg (by rw [h2]; decide)]⟩⟩⟩

theorem sign_int (x y : Int) : (if decide (x < y) = true then (-1 : Int) else if decide (y < x) = true then 1 else 0) = cmpI x y := by
  unfold cmpI; simp
theorem cmpS_small (a b : Str) : -1 ≤ cmpS a b ∧ cmpS a b ≤ 1 := by
  unfold cmpS
  rw [compareBytes_lex]
  induction a generalizing b with
  | nil => cases b <;> simp [lexM]
  | cons x a ih =>
    cases b with
    | nil => simp [lexM]
    | cons y b =>
      have := ih b
      simp only [lexM, or2, cmpB, cmpI]
      split <;> (try split) <;> (try split) <;> omega
theorem sign_str (x y : Str) : (if Op.bytesLess x y = true then (-1 : Int) else if (!(Op.bytesLess x y || decide (x = y))) = true then 1 else 0) = cmpS x y := by
  rw [bytesLess_cmp]
  have h1 := cmpS_small x y
  have h2 := cmpS_zero x y
  by_cases a : cmpS x y < 0
  · simp [a]; omega
  · by_cases b : x = y
    · have := h2.2 b; simp [b] at *; omega
    · have : cmpS x y ≠ 0 := fun e => b (h2.1 e)
      simp [a, b]; omega
theorem sign_attr (p q : Str × Str) : (if (Op.bytesLess p.1 q.1 || (decide (p.1 = q.1) && Op.bytesLess p.2 q.2)) = true then (-1 : Int) else if ((!(Op.bytesLess p.1 q.1 || decide (p.1 = q.1))) || (decide (p.1 = q.1) && !(Op.bytesLess p.2 q.2 || decide (p.2 = q.2)))) = true then 1 else 0) = cmpA p q := by
  unfold cmpA or2
  have s1 := sign_str p.1 q.1
  have s2 := sign_str p.2 q.2
  have z := cmpS_zero p.1 q.1
  by_cases e : p.1 = q.1
  · rw [if_pos (z.2 e), ← s2]
    have : Op.bytesLess p.1 q.1 = false := by rw [bytesLess_cmp]; simp [z.2 e]
    simp [e]
    have h3 : Op.bytesLess q.1 q.1 = false := by rw [e] at this; exact this
    simp [h3]
  · rw [if_neg (fun h => e (z.1 h)), ← s1]
    simp [e]

theorem refNode {A : List Nat} {a b : T} {w : World} {sa sk ta tk : Sl} (ha : RdT A w a sa sk) (hb : RdT A w b ta tk) :
    Calls Try.prog 45 #[tv a sa sk, tv b ta tk] w (Ret fun v w' => Ext w w' ∧ v = .int .i64 (or2 (or2 (cmpI a.kind b.kind) (or2 (cmpS a.name b.name) (cmpS a.text b.text))) (lexM cmpA a.attrs b.attrs))) := by
  refine ref05_Node.ok _ _ _ _ _ _ _ _ _ _ ?_
  unfold ref05_Node.vc
  have hna := ha.nattrs
  have hnb := hb.nattrs
  have hca := ha.caps
  have hcb := hb.caps
  simp only [maxLen] at hca hcb
  intro w1 B1 B2 hN1 hN2 _ hE1
  refine CallK.exact (refSign _ _) fun w2 hE2 => ⟨_, rfl, ?_⟩
  rw [sign_int]
  refine ⟨fun c w3 => c = or2 (cmpI a.kind b.kind) (cmpS a.name b.name) ∧ Ext w w3, ⟨fun h0 => CallK.exact (refSign _ _) fun w3 hE3 => ⟨_, rfl, ?_, (hE1.trans hE2).trans hE3⟩, fun h0 => ⟨(or2_ne _ h0).symm, hE1.trans hE2⟩⟩, ?_⟩
  · rw [sign_str, h0, or2_zero]
  rintro _ w3 ⟨rfl, hE3⟩
  generalize hx0 : or2 (cmpI a.kind b.kind) (or2 (cmpS a.name b.name) (cmpS a.text b.text)) = x0
  have hassoc : x0 = or2 (or2 (cmpI a.kind b.kind) (cmpS a.name b.name)) (cmpS a.text b.text) := by
    rw [← hx0]
    by_cases h : cmpI a.kind b.kind = 0
    · rw [h, or2_zero, or2_zero]
    · rw [or2_ne _ h, or2_ne (cmpS a.name b.name) h, or2_ne _ h]
  refine ⟨fun c w4 => c = x0 ∧ Ext w w4, ⟨fun h0 => CallK.exact (refSign _ _) fun w4 hE4 => ⟨_, rfl, ?_, hE3.trans hE4⟩, fun h0 => ⟨by rw [hassoc, or2_ne _ h0], hE3⟩⟩, ?_⟩
  · rw [sign_str, hassoc, h0, or2_zero]
  rintro x0 w4 ⟨rfl, hE4⟩
  refine ⟨fun x i w3 => ∃ k : Nat, i = (k : Int) ∧ k ≤ a.attrs.length ∧ k ≤ b.attrs.length ∧ or2 x0 (lexM cmpA a.attrs b.attrs) = or2 x (lexM cmpA (a.attrs.drop k) (b.attrs.drop k)) ∧ Ext w w3, fun _ i _ => a.attrs.length - i.toNat, ⟨0, rfl, Nat.zero_le _, Nat.zero_le _, rfl, hE4⟩, ?_⟩
  rintro x _ w5 ⟨k, rfl, hk1, hk2, heq, hE5⟩
  rw [Int.toNat_natCast]
  refine ⟨fun hgo w6 hE6 => ?_, fun hend => ?_⟩
  · obtain ⟨⟨hx, hi⟩, hj⟩ := hgo
    subst hx
    have hE56 := hE5.trans hE6
    obtain ⟨p, hp, _, hc⟩ := (ha.ext hE56).attr (i := k) (by omega)
    obtain ⟨q, hq, _, hd⟩ := (hb.ext hE56).attr (i := k) (by omega)
    rw [drop_at a.attrs ([], []) (by omega), drop_at b.attrs ([], []) (by omega), lexM_step, or2_zero] at heq
    refine ⟨p, ⟨⟨by omega, hi⟩, hp⟩, _, _, hc, q, ⟨⟨by omega, hj⟩, hq⟩, _, _, hd, fun w7 B7 B8 hE7 hB7 _ hB8 _ w8 hC8 => CallK.exact (refSign _ _) fun w9 hE9 => ⟨_, rfl, ⟨by omega, by omega⟩, ⟨k + 1, by omega, by omega, by omega, ?_, ?_⟩, by dsimp only; omega⟩⟩
    · rw [sign_attr]; exact heq
    · have hs := hE56.size
      exact (Chg.fresh (hE56.trans hE7) hC8 (by simp; omega)).trans hE9
  · have hex : or2 x0 (lexM cmpA a.attrs b.attrs) = or2 x (cmpI (a.attrs.length : Int) (b.attrs.length : Int)) := by
      rw [heq]
      refine lexM_exit cmpA a.attrs b.attrs x k hk1 hk2 ?_
      rcases hend with (h | h) | h
      · exact .inl h
      · exact .inr (.inl (by omega))
      · exact .inr (.inr (by omega))
    rw [hna, hnb, hex]
    refine ⟨fun h0 => CallK.exact (refSign _ _) fun w6 hE6 => ⟨_, rfl, hE5.trans hE6, ?_⟩, fun h0 => ⟨hE5, by rw [or2_ne _ h0]⟩⟩
    rw [sign_int, h0, or2_zero]

theorem refCompare {A : List Nat} : ∀ a : T, ∀ (b : T) {w : World} {sa sk ta tk : Sl}, RdT A w a sa sk → RdT A w b ta tk →
    Calls Try.prog 33 #[tv a sa sk, tv b ta tk] w (Ret fun v w' => Ext w w' ∧ v = .int .i64 (T.cmp a b)) := T.ind' fun a ih b w sa sk ta tk ha hb => by
  refine ref05_Compare.ok _ _ _ _ _ _ _ _ _ _ ?_
  unfold ref05_Compare.vc
  have hnk := ha.nkids
  have hnl := hb.nkids
  have hca := ha.caps
  have hcb := hb.caps
  simp only [maxLen] at hca hcb
  intro w1 B1 B2 _ _ _ hE1
  refine CallK.exact (refNode (ha.ext hE1) (hb.ext hE1)) fun w2 hE2 => ⟨_, rfl, ?_⟩
  rw [T.cmp_eq a b]
  generalize or2 (or2 (cmpI a.kind b.kind) (or2 (cmpS a.name b.name) (cmpS a.text b.text))) (lexM cmpA a.attrs b.attrs) = x1
  refine ⟨fun y i w7 => ∃ k : Nat, i = (k : Int) ∧ k ≤ a.kids.length ∧ k ≤ b.kids.length ∧ or2 x1 (lexM T.cmp a.kids b.kids) = or2 y (lexM T.cmp (a.kids.drop k) (b.kids.drop k)) ∧ Ext w w7, fun _ i _ => a.kids.length - i.toNat, ⟨0, rfl, Nat.zero_le _, Nat.zero_le _, rfl, hE1.trans hE2⟩, ?_⟩
  rintro y _ w7 ⟨j, rfl, hj1, hj2, heq2, hE7⟩
  rw [Int.toNat_natCast]
  refine ⟨fun hgo w8 hE8 => ?_, fun hend => ?_⟩
  · obtain ⟨⟨hy, hi⟩, hj⟩ := hgo
    subst hy
    have hE78 := hE7.trans hE8
    have hj1' : j < a.kids.length := by omega
    have hj2' : j < b.kids.length := by omega
    obtain ⟨p, sa', sk', hp, _, hc, hr⟩ := (ha.ext hE78).kid hj1'
    obtain ⟨q, ta', tk', hq, _, hd, hs⟩ := (hb.ext hE78).kid hj2'
    rw [drop_at a.kids T.nul hj1', drop_at b.kids T.nul hj2', lexM_step, or2_zero] at heq2
    refine ⟨p, ⟨⟨by omega, hi⟩, hp⟩, _, _, _, sa', sk', hc, q, ⟨⟨by omega, hj⟩, hq⟩, _, _, _, ta', tk', hd, _, fun w' hE' => ih _ (getD_mem hj1') _ (hr.ext hE') (hs.ext hE'), ⟨by omega, by omega⟩, fun w9 hE9 => ⟨⟨j + 1, by omega, by omega, by omega, heq2, hE78.trans hE9⟩, by dsimp only; omega⟩⟩
  · have hex2 : or2 x1 (lexM T.cmp a.kids b.kids) = or2 y (cmpI (a.kids.length : Int) (b.kids.length : Int)) := by
      rw [heq2]
      refine lexM_exit T.cmp a.kids b.kids y j hj1 hj2 ?_
      rcases hend with (h | h) | h
      · exact .inl h
      · exact .inr (.inl (by omega))
      · exact .inr (.inr (by omega))
    rw [hnk, hnl, hex2]
    refine ⟨fun h0 => CallK.exact (refSign _ _) fun w6 hE6 => ⟨_, rfl, hE7.trans hE6, ?_⟩, fun h0 => ⟨hE7, by rw [or2_ne _ h0]⟩⟩
    rw [sign_int, h0, or2_zero]

theorem refSame {A : List Nat} (a b : T) {w : World} {sa sk ta tk : Sl} (ha : RdT A w a sa sk) (hb : RdT A w b ta tk) :
    Calls Try.prog 32 #[tv a sa sk, tv b ta tk] w (Ret fun v w' => Ext w w' ∧ v = .bool (decide (T.cmp a b = 0))) := by
  refine ref05_Same.ok _ _ _ _ _ _ _ _ _ _ ?_
  unfold ref05_Same.vc
  intro w1 B1 B2 _ _ _ hE1
  exact CallK.exact (refCompare a b (ha.ext hE1) (hb.ext hE1)) fun w2 hE2 => ⟨_, rfl, hE1.trans hE2, rfl⟩

end Go.Proofs.Ytpacegmmbabhjaa
