/-
  Slots: what was changed of a node; the same numbers.
-/
import Derived.Test.YteohbfaechfliaaSltA
import Derived.Test.YteohbfaechfliaaTreeS
import Derived.Test.YteohbfaechfliaaGlib
namespace Go.Proofs.Yteohbfaechfliaa
open Go.RowKit Go.MapKept

def zc (z : Int) : List Value := [.int .i64 z]
def wc (x : Str) : List Value := [.string (Bs x)]
theorem ones_zc (z : Int) : ∀ u ∈ [zc z].flatten, u.oneCell' = true := by intro u hu; simp [zc] at hu; subst hu; rfl
theorem ones_wc (x : Str) : ∀ u ∈ [wc x].flatten, u.oneCell' = true := by intro u hu; simp [wc] at hu; subst hu; rfl
theorem Row.zAt {A : List Nat} {w : World} {s : Sl} {xs : List Int} (h : Row A w s 1 (xs.map zc)) {k : Nat} (hk : k < xs.length) : ∃ p, s.a = some p ∧ w.cell? (p.add (k * 1)) = some (.int .i64 (xs.getD k 0)) := by
  obtain ⟨p, hp, _, hc, _⟩ := h.at_ k (by simpa using hk)
  have e : (xs.map zc).getD k [] = zc (xs.getD k 0) := by simp [List.getD_eq_getElem?_getD, hk]
  rw [e] at hc
  exact ⟨p, hp, by have := hc 0 _ rfl; rwa [Addr.add_zero'] at this⟩

theorem drop_eqZ {xs ys : List Int} {k : Nat} (hx : k < xs.length) (hy : k < ys.length) : (xs.drop k = ys.drop k) ↔ (xs.getD k 0 = ys.getD k 0 ∧ xs.drop (k + 1) = ys.drop (k + 1)) := by
  rw [List.drop_eq_getElem_cons hx, List.drop_eq_getElem_cons hy, List.cons.injEq]
  simp [List.getD_eq_getElem?_getD, hx, hy]

theorem slicesEqual {A B : List Nat} {w : World} {a b : Sl} {xs ys : List Int} (ha : Row A w a 1 (xs.map zc)) (hb : Row B w b 1 (ys.map zc)) :
    Calls Try.prog 40 #[a.v, b.v] w (Ret fun v w' => Ext w w' ∧ v = .bool (decide (xs = ys))) := by
  refine slices_Equal__int_int_.ok _ _ ?_
  unfold slices_Equal__int_int_.vc
  have hla := ha.len
  have hlb := hb.len
  have hma := ha.most
  have hca := ha.cap
  simp only [maxLen] at hma
  rw [List.length_map] at hla hlb
  refine ⟨fun hne => ⟨Chg.refl _ _, ?_⟩, fun he => ?_⟩
  · rw [decide_eq_false]; intro e; rw [e] at hla; omega
  refine ⟨fun i w' => ∃ k : Nat, i = (k : Int) ∧ k ≤ xs.length ∧ (xs = ys ↔ xs.drop k = ys.drop k) ∧ Ext w w', fun i _ => xs.length - i.toNat, ⟨0, rfl, by omega, by simp, Chg.refl _ _⟩, ?_⟩
  rintro _ w2 ⟨k, rfl, hk, hiff, hE⟩
  refine ⟨fun hi w3 hE3 => ?_, fun hi => ⟨hE, ?_⟩⟩
  · have hk' : k < xs.length := by omega
    have hky : k < ys.length := by omega
    obtain ⟨p, hp, hcp⟩ := ((ha.ext hE).ext hE3).zAt hk'
    obtain ⟨q, hq, hcq⟩ := ((hb.ext hE).ext hE3).zAt hky
    refine ⟨p, ⟨⟨by omega, by omega⟩, hp⟩, _, hcp, q, ⟨⟨by omega, by omega⟩, hq⟩, _, hcq, fun hne w4 hE4 => ⟨(hE.trans hE3).trans hE4, ?_⟩, fun heq => ⟨⟨by omega, by omega⟩, fun w4 hE4 => ⟨⟨k + 1, by omega, by omega, ?_, (hE.trans hE3).trans hE4⟩, by dsimp only; omega⟩⟩⟩
    · rw [decide_eq_false]; intro e
      exact hne ((drop_eqZ hk' hky).1 (hiff.1 e)).1
    · rw [hiff, drop_eqZ hk' hky]
      exact ⟨fun h => h.2, fun h => ⟨Classical.not_not.1 heq, h⟩⟩
  · have hkl : k = xs.length := by omega
    subst hkl
    rw [decide_eq_true]
    rw [hiff, List.drop_length, List.drop_of_length_le (by omega)]

theorem lawSameInts {A B : List Nat} {w : World} {a b : Sl} {xs ys : List Int} (ha : Row A w a 1 (xs.map zc)) (hb : Row B w b 1 (ys.map zc)) :
    Calls Try.prog 23 #[a.v, b.v] w (Ret fun v w' => Ext w w' ∧ v = .bool (decide (xs = ys))) := by
  refine law00_SameInts.ok _ _ ?_
  unfold law00_SameInts.vc
  have hla := ha.len
  have hlb := hb.len
  have hma := ha.most
  have hca := ha.cap
  simp only [maxLen] at hma
  rw [List.length_map] at hla hlb
  refine ⟨fun hne => ⟨Chg.refl _ _, ?_⟩, fun he => ?_⟩
  · rw [decide_eq_false]; intro e; rw [e] at hla; omega
  refine ⟨fun i w' => ∃ k : Nat, i = (k : Int) ∧ k ≤ xs.length ∧ (xs = ys ↔ xs.drop k = ys.drop k) ∧ Ext w w', fun i _ => xs.length - i.toNat, ⟨0, rfl, by omega, by simp, Chg.refl _ _⟩, ?_⟩
  rintro _ w2 ⟨k, rfl, hk, hiff, hE⟩
  refine ⟨fun hi w3 hE3 => ?_, fun hi => ⟨hE, ?_⟩⟩
  · have hk' : k < xs.length := by omega
    have hky : k < ys.length := by omega
    obtain ⟨p, hp, hcp⟩ := ((ha.ext hE).ext hE3).zAt hk'
    obtain ⟨q, hq, hcq⟩ := ((hb.ext hE).ext hE3).zAt hky
    refine ⟨p, ⟨⟨by omega, by omega⟩, hp⟩, _, hcp, q, ⟨⟨by omega, by omega⟩, hq⟩, _, hcq, fun hne w4 hE4 => ⟨(hE.trans hE3).trans hE4, ?_⟩, fun heq => ⟨⟨by omega, by omega⟩, fun w4 hE4 => ⟨⟨k + 1, by omega, by omega, ?_, (hE.trans hE3).trans hE4⟩, by dsimp only; omega⟩⟩⟩
    · rw [decide_eq_false]; intro e
      exact hne ((drop_eqZ hk' hky).1 (hiff.1 e)).1
    · rw [hiff, drop_eqZ hk' hky]
      exact ⟨fun h => h.2, fun h => ⟨Classical.not_not.1 heq, h⟩⟩
  · have hkl : k = xs.length := by omega
    subst hkl
    rw [decide_eq_true]
    rw [hiff, List.drop_length, List.drop_of_length_le (by omega)]

theorem Row.attrAt {Z : List Nat} {s : Sl} {l : List (Str × Str)} {w' : World} (h : Row Z w' s 2 (l.map ac)) {k : Nat} (hk : k < l.length) : ∃ p, s.a = some p ∧ Cells w' (p.add (k * 2)) (ac (l.getD k ([], []))) := by
  obtain ⟨p, hp, _, hc, _⟩ := h.at_ k (by simpa using hk)
  refine ⟨p, hp, ?_⟩
  have e : (l.map ac).getD k [] = ac (l.getD k ([], [])) := by simp [List.getD_eq_getElem?_getD, hk]
  rwa [e] at hc
/-! ### changed -/
def T.bare (t : T) : T := .node t.kind t.name t.text t.attrs []
theorem bare_rd {A : List Nat} {w : World} {t : T} {sa : Sl} (h : Row A w sa 2 (t.attrs.map ac)) : RdT A w t.bare sa Sl.nil := .mk [] h rfl (Row.nil _ _ _) (by simp)
def setKeep (l : List (Str × Str)) (p : Str × Str) : Bool := !((attrGet l p.1).2 && decide ((attrGet l p.1).1 = p.2))
def setOf (a b : List (Str × Str)) : List (Str × Str) := b.filter (setKeep a)
def unsetOf (a b : List (Str × Str)) : List Str := (a.filter fun p => !(attrGet b p.1).2).map (·.1)

theorem filter_take_succ {α : Type} (f : α → Bool) (d : α) {l : List α} {k : Nat} (h : k < l.length) : (l.take (k + 1)).filter f = (l.take k).filter f ++ (if f (l.getD k d) then [l.getD k d] else []) := by
  rw [take_snoc l d h, List.filter_append]
  congr 1
  generalize l.getD k d = x
  by_cases hf : f x = true
  · rw [if_pos hf]; simp [hf]
  · rw [if_neg hf]; simp [hf]

theorem slotsChanged {X Y : List Nat} {w : World} {a b : T} {sa sb : Sl} (ha : Row X w sa 2 (a.attrs.map ac)) (hb : Row Y w sb 2 (b.attrs.map ac)) (na : a.attrs.length ≤ 1000000000) (nb : b.attrs.length ≤ 1000000000) :
    Calls Try.prog 39 #[tv a.bare sa Sl.nil, tv b.bare sb Sl.nil] w (Ret fun v w' => Ext w w' ∧ ∃ se un : Sl, v = .agg #[.bool false, .bool (decide (a.text ≠ b.text)), se.v, un.v, .int .i64 0, Sl.nil.v] ∧
      Own (List.range w.heap.size) w' se 2 47 ((setOf a.attrs b.attrs).map ac) ∧ Own (List.range w.heap.size) w' un 1 9 ((unsetOf a.attrs b.attrs).map wc)) := by
  refine slots_changed.ok a.kind a.name a.text sa Sl.nil b.kind b.name b.text sb Sl.nil ?_
  unfold slots_changed.vc
  have hla := ha.len
  have hlb := hb.len
  rw [List.length_map] at hla hlb
  intro w1 B1 B2 B3 B4 hN1 hN2 hN3 hN4 _ _ _ _ _ h34 hE1
  have g1 := hN1.ge; have g2 := hN2.ge; have g3 := hN3.ge; have g4 := hN4.ge
  have l1 := hN1.lt; have l2 := hN2.lt; have l3 := hN3.lt; have l4 := hN4.lt
  have hAs : ∀ w' : World, w1.heap.size ≤ w'.heap.size → ∀ c ∈ B1 :: B2 :: B3 :: B4 :: List.range w.heap.size, c < w'.heap.size := fun w' hw c hc => by
    have := hE1.size
    simp only [List.mem_cons, List.mem_range] at hc
    rcases hc with rfl | rfl | rfl | rfl | hc <;> omega
  refine ⟨fun i c w' => ∃ k : Nat, i = (k : Int) ∧ k ≤ b.attrs.length ∧ Own (B1 :: B2 :: B3 :: B4 :: List.range w.heap.size) w' c 2 47 (((b.attrs.take k).filter (setKeep a.attrs)).map ac) ∧ w1.heap.size ≤ w'.heap.size ∧ Ext w w', fun i _ _ => b.attrs.length - i.toNat, ⟨0, rfl, by omega, Own.nil _ _ _ _, Nat.le_refl _, hE1⟩, ?_⟩
  rintro _ c w2 ⟨k, rfl, hk, hO, hsz, hE2⟩
  refine ⟨fun hi => ?_, fun hi => ?_⟩
  · have hk' : k < b.attrs.length := by omega
    obtain ⟨p, hp, hc⟩ := (hb.ext hE2).attrAt hk'
    have hfs := filter_take_succ (setKeep a.attrs) ([], []) hk'
    generalize b.attrs.getD k ([], []) = q at hc hfs
    obtain ⟨qn, qv⟩ := q
    refine ⟨⟨by omega, hi⟩, p, hp, qn, qv, hc, fun w3 B5 hN5 hE3 => ?_⟩
    refine CallK.exact (treeAttr (bare_rd (ha.ext (hE2.trans hE3))) qn) fun w4 hE4 => ⟨_, _, rfl, fun hset => ?_, fun hno => ?_⟩
    · intro w5 B6 hN6 hE5 hbox
      have hE25 := (hE3.trans hE4).trans hE5
      have hO5 : Own (B5 :: B1 :: B2 :: B3 :: B4 :: List.range w.heap.size) w5 c 2 47 _ := (hO.ext hE25).cons (fun hm => by have := (hO.blk _ hm).2; have := hN5.ge; omega)
      have hcn := hO.len
      rw [List.length_map] at hcn
      have hcl : ((b.attrs.take k).filter (setKeep a.attrs)).length ≤ k := Nat.le_trans (List.length_filter_le _ _) (by simp; omega)
      have hbox' : Box w5 B6 47 (ac (qn, qv)) := hbox
      have hkeep : setKeep a.attrs (qn, qv) = true := by
        unfold setKeep
        rcases hset with h | h
        · rw [show (attrGet a.attrs qn).2 = false from h]; rfl
        · rw [decide_eq_false (show ¬ (attrGet a.attrs qn).1 = qv from h)]; simp
      refine App.runK Try.underlying23 ti_47 rfl (by decide) (.inl hO5) (fun x hx => ?_) (Own.one (A := []) hbox' (by simp)).row (ones_ac _) (by simp) (by simp only [maxLen, List.length_singleton]; omega) (by simp only [List.length_singleton]; omega) (fun x hx => by simp at hx ⊢; omega) fun s' w6 ho6 hC6 hb6 => ⟨s', rfl, ⟨by omega, by omega⟩, fun w7 hC7 => ⟨⟨k + 1, by omega, by omega, ?_, ?_, ?_⟩, by dsimp only; omega⟩⟩
      · rcases List.mem_cons.1 hx with rfl | hx
        · exact Nat.lt_of_lt_of_le hN5.lt (hE4.trans hE5).size
        · exact hAs w5 (Nat.le_trans hsz hE25.size) x hx
      · rw [hfs, hkeep, if_pos rfl, List.map_append]
        exact (ho6.chg hC7 (by simp)).less fun x hx => List.mem_cons_of_mem _ hx
      · have := hE25.size; have := hC6.size; have := hC7.size; omega
      · have h6 : Ext w w6 := Chg.fresh (hE2.trans hE25) hC6 fun x hx => by
          have := (hO5.blk x (Sl.own_blk hx)).1
          simp at this; omega
        exact Chg.fresh h6 hC7 (by simpa using g4)
    · have hkeep : setKeep a.attrs (qn, qv) = false := by
        unfold setKeep
        rw [show (attrGet a.attrs qn).2 = true from hno.1, show (attrGet a.attrs qn).1 = qv from Classical.not_not.1 hno.2]; simp
      refine ⟨⟨by omega, by omega⟩, ⟨k + 1, by omega, by omega, ?_, ?_, (hE2.trans hE3).trans hE4⟩, by dsimp only; omega⟩
      · rw [hfs, hkeep]; simpa using (hO.ext (hE3.trans hE4))
      · have := (hE3.trans hE4).size; omega
  have hkl : k = b.attrs.length := by omega
  subst hkl
  rw [List.take_of_length_le (Nat.le_refl _)] at hO
  refine ⟨fun i u w' => ∃ k : Nat, i = (k : Int) ∧ k ≤ a.attrs.length ∧ Own (B1 :: B2 :: B3 :: B4 :: List.range w.heap.size) w' u 1 9 ((((a.attrs.take k).filter fun p => !(attrGet b.attrs p.1).2).map (·.1)).map wc) ∧ Own (B1 :: B2 :: B3 :: B4 :: List.range w.heap.size) w' c 2 47 ((setOf a.attrs b.attrs).map ac) ∧ w1.heap.size ≤ w'.heap.size ∧ Ext w w', fun i _ _ => a.attrs.length - i.toNat, ⟨0, rfl, by omega, Own.nil _ _ _ _, hO, hsz, hE2⟩, ?_⟩
  rintro _ u w3 ⟨k, rfl, hk, hU, hO3, hsz3, hE3⟩
  refine ⟨fun hi => ?_, fun hi w4 hC4 => ?_⟩
  · have hk' : k < a.attrs.length := by omega
    obtain ⟨p, hp, hc⟩ := (ha.ext hE3).attrAt hk'
    have hfs := filter_take_succ (fun p => !(attrGet b.attrs p.1).2) ([], []) hk'
    generalize a.attrs.getD k ([], []) = q at hc hfs
    obtain ⟨qn, qv⟩ := q
    refine ⟨⟨by omega, hi⟩, p, hp, qn, qv, hc, fun w4 B5 hN5 hE4 => ?_⟩
    refine CallK.exact (treeAttr (bare_rd (hb.ext (hE3.trans hE4))) qn) fun w5 hE5 => ⟨_, _, rfl, fun hset => ?_, fun hno => ?_⟩
    · intro w6 B6 hN6 hE6 hbox
      have hE36 := (hE4.trans hE5).trans hE6
      have hU6 : Own (B5 :: B1 :: B2 :: B3 :: B4 :: List.range w.heap.size) w6 u 1 9 _ := (hU.ext hE36).cons (fun hm => by have := (hU.blk _ hm).2; have := hN5.ge; omega)
      have hun := hU.len
      rw [List.length_map, List.length_map] at hun
      have hul : ((a.attrs.take k).filter fun p => !(attrGet b.attrs p.1).2).length ≤ k := Nat.le_trans (List.length_filter_le _ _) (by simp; omega)
      have hbox' : Box w6 B6 9 (wc qn) := hbox
      refine App.runK Try.underlying41 ti_9 rfl (by decide) (.inl hU6) (fun x hx => ?_) (Own.one (A := []) hbox' (by simp)).row (ones_wc _) (by simp) (by simp only [maxLen, List.length_singleton]; omega) (by simp only [List.length_singleton]; omega) (fun x hx => by simp at hx ⊢; omega) fun s' w7 ho7 hC7 hb7 => ⟨s', rfl, ⟨by omega, by omega⟩, fun w8 hC8 => ⟨⟨k + 1, by omega, by omega, ?_, ?_, ?_, ?_⟩, by dsimp only; omega⟩⟩
      · rcases List.mem_cons.1 hx with rfl | hx
        · exact Nat.lt_of_lt_of_le hN5.lt (hE5.trans hE6).size
        · exact hAs w6 (Nat.le_trans hsz3 hE36.size) x hx
      · rw [hfs, show (!(attrGet b.attrs (qn, qv).1).2) = true by rw [show (attrGet b.attrs qn).2 = false from hset]; rfl, if_pos rfl, List.map_append, List.map_append]
        exact (ho7.chg hC8 (by simp)).less fun x hx => List.mem_cons_of_mem _ hx
      · have h6 := hO3.ext hE36
        exact ((h6.keep hC7 (fun x hx hm => (hU6.apart h6 (by decide)) x (Sl.own_blk hm) hx)).chg hC8 (by simp))
      · have := hE36.size; have := hC7.size; have := hC8.size; omega
      · have h7 : Ext w w7 := Chg.fresh (hE3.trans hE36) hC7 fun x hx => by
          have := (hU6.blk x (Sl.own_blk hx)).1
          simp at this; omega
        exact Chg.fresh h7 hC8 (by simpa using g4)
    · refine ⟨⟨by omega, by omega⟩, ⟨k + 1, by omega, by omega, ?_, hO3.ext (hE4.trans hE5), ?_, (hE3.trans hE4).trans hE5⟩, by dsimp only; omega⟩
      · rw [hfs, show (!(attrGet b.attrs (qn, qv).1).2) = false by rw [show (attrGet b.attrs qn).2 = true from hno]; rfl]; simpa using (hU.ext (hE4.trans hE5))
      · have := (hE4.trans hE5).size; omega
  · have hkl : k = a.attrs.length := by omega
    subst hkl
    rw [List.take_of_length_le (Nat.le_refl _)] at hU
    refine ⟨Chg.fresh hE3 hC4 (by simpa using g3), c, u, rfl, ?_, ?_⟩
    · exact (hO3.chg hC4 (by simp)).less fun x hx => by simp at hx ⊢; omega
    · exact (hU.chg hC4 (by simp)).less fun x hx => by simp at hx ⊢; omega

end Go.Proofs.Yteohbfaechfliaa
