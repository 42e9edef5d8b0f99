/-
  tree.Check: it answers as the plain check does. The laws' example.
-/
import Derived.Test.YteohbfaechfliaaTreeW
namespace Go.Proofs.Yteohbfaechfliaa
open Go.RowKit

theorem attrsOk_drop {last : Str} {l : List (Str × Str)} {k : Nat} (h : k < l.length) : attrsOk last (l.drop k) = (!(Op.bytesLess (l.getD k ([], [])).1 last) && !(decide ((l.getD k ([], [])).1 = last)) && nameOk (l.getD k ([], [])).1 && decide ((l.getD k ([], [])).2.length ≤ 4096) && attrsOk (l.getD k ([], [])).1 (l.drop (k + 1))) := by
  rw [List.drop_eq_getElem_cons h, List.getD_eq_getElem?_getD, List.getElem?_eq_getElem h]; rfl

theorem treeAttrs {A : List Nat} {w : World} {s : Sl} {l : List (Str × Str)} (h : Row A w s 2 (l.map ac)) :
    Calls Try.prog 93 #[s.v] w (Ret fun v w' => Ext w w' ∧ v = .bool (decide (l.length ≤ 12) && attrsOk [] l)) := by
  refine tree_attrs.ok _ ?_
  unfold tree_attrs.vc
  have hl := h.len
  simp only [List.length_map] at hl
  refine ⟨fun hb => ⟨Chg.refl _ _, ?_⟩, fun hb => ?_⟩
  · have : decide (l.length ≤ 12) = false := decide_eq_false (by omega)
    rw [this]; rfl
  · have h12 : decide (l.length ≤ 12) = true := decide_eq_true (by omega)
    rw [h12, Bool.true_and]
    refine ⟨fun last i w1 => ∃ k : Nat, i = (k : Int) ∧ k ≤ l.length ∧ attrsOk [] l = attrsOk last (l.drop k) ∧ Ext w w1, fun _ i _ => l.length - i.toNat, ⟨0, rfl, Nat.zero_le _, rfl, Chg.refl _ _⟩, ?_⟩
    rintro last _ w1 ⟨k, rfl, hk, heq, hE⟩
    rw [Int.toNat_natCast]
    refine ⟨fun hi => ?_, fun hi => ⟨hE, ?_⟩⟩
    · have hk' : k < l.length := by omega
      obtain ⟨p, hp, _, hc, _⟩ := (h.ext hE).at_ k (by simpa using hk')
      have e : (l.map ac).getD k [] = ac (l.getD k ([], [])) := by simp [List.getD_eq_getElem?_getD, hk']
      rw [e] at hc
      rw [attrsOk_drop hk'] at heq
      rw [heq]
      generalize l.getD k ([], []) = q at hc heq
      obtain ⟨qn, qv⟩ := q
      refine ⟨⟨by omega, hi⟩, p, hp, qn, qv, hc, fun w2 B2 _ hE2 => ⟨nameOk qn, fun _ => treeName qn, fun w3 hE3 => ⟨fun hbad => ⟨(hE.trans hE2).trans hE3, ?_⟩, fun hgood => ⟨⟨by omega, by omega⟩, ⟨k + 1, by omega, by omega, ?_, (hE.trans hE2).trans hE3⟩, by dsimp only; omega⟩⟩⟩⟩
      · rcases hbad with ((hb | hb) | hb) | hb
        · simp [hb]
        · simp [hb]
        · simp [hb]
        · have : decide (qv.length ≤ 4096) = false := decide_eq_false (by omega)
          simp [this]
      · obtain ⟨⟨⟨h1, h2⟩, h3⟩, h4⟩ := hgood
        have : decide (qv.length ≤ 4096) = true := decide_eq_true (by omega)
        simp [h1, h2, h3, this]
    · have hkl : k = l.length := by omega
      subst hkl
      rw [heq, List.drop_length]; rfl

theorem treeEmpty {A : List Nat} {w : World} {s : Sl} {l : List Str} (h : Row A w s 1 (l.map fun x => [.string (Bs x)])) :
    Calls Try.prog 80 #[s.v] w (Ret fun v w' => Ext w w' ∧ v = .bool (l.all List.isEmpty)) := by
  refine tree_empty.ok _ ?_
  unfold tree_empty.vc
  have hl := h.len
  have hcp := h.most
  have hcc := h.cap
  simp only [maxLen] at hcp
  simp only [List.length_map] at hl
  refine ⟨fun i w1 => ∃ k : Nat, i = (k : Int) ∧ k ≤ l.length ∧ l.all List.isEmpty = (l.drop k).all List.isEmpty ∧ Ext w w1, fun i _ => l.length - i.toNat, ⟨0, rfl, Nat.zero_le _, rfl, Chg.refl _ _⟩, ?_⟩
  rintro _ w1 ⟨k, rfl, hk, heq, hE⟩
  rw [Int.toNat_natCast]
  refine ⟨fun hi => ?_, fun hi => ⟨hE, ?_⟩⟩
  · have hk' : k < l.length := by omega
    obtain ⟨p, hp, _, hc, _⟩ := (h.ext hE).at_ k (by simpa using hk')
    have e : (l.map fun x => [Value.string (Bs x)]).getD k [] = [.string (Bs (l[k]))] := by simp [List.getD_eq_getElem?_getD, hk']
    rw [e] at hc
    have hc0 := hc 0 _ rfl
    rw [Addr.add_zero'] at hc0
    rw [List.drop_eq_getElem_cons hk', List.all_cons] at heq
    refine ⟨⟨by omega, hi⟩, p, hp, l[k], hc0, fun hne => ⟨hE, ?_⟩, fun he => ⟨⟨by omega, by omega⟩, ⟨k + 1, by omega, by omega, ?_, hE⟩, by dsimp only; omega⟩⟩
    · have : List.isEmpty l[k] = false := by cases hx : l[k] <;> simp_all
      rw [heq, this]; rfl
    · have he : l[k] = [] := Classical.not_not.1 he
      rw [heq, he]; rfl
  · have hkl : k = l.length := by omega
    subst hkl
    rw [heq, List.drop_length]; rfl

theorem treeKids {A : List Nat} (t : T) (hb : t.bulk ≤ 1099511627776)
    (ih : ∀ u ∈ t.kids, ∀ {w : World} {sa sk : Sl}, RdT A w u sa sk → Calls Try.prog 89 #[tv u sa sk] w (Ret fun v w' => Ext w w' ∧ v = .bool (nodeOk u))) {w : World} {sa sk : Sl} (h : RdT A w t sa sk) :
    Calls Try.prog 81 #[tv t sa sk] w (Ret fun v w' => Ext w w' ∧ v = .bool (kidsOk t)) := by
  refine tree_kids.ok _ _ _ _ _ ?_
  unfold tree_kids.vc
  have hn := h.nkids
  have hcp := h.caps
  have hl := T.kids_len t
  intro w1 B1 _ hE1
  refine ⟨fun i w2 => ∃ k : Nat, i = (k : Int) ∧ k ≤ t.kids.length ∧ kidsOk t = (t.kids.drop k).all (fun u => nodeOk u && !(decide (u.kind = 5) && !(decide (t.kind = 1)))) ∧ Ext w w2, fun i _ => t.kids.length - i.toNat, ⟨0, rfl, Nat.zero_le _, rfl, hE1⟩, ?_⟩
  rintro _ w2 ⟨k, rfl, hk, heq, hE⟩
  refine ⟨fun hi => ?_, fun hi => ⟨hE, ?_⟩⟩
  · have hk' : k < t.kids.length := by omega
    obtain ⟨p, sa', sk', hp, _, hc, hr⟩ := (h.ext hE).kid hk'
    rw [Int.toNat_natCast]
    have hm := getD_mem (d := T.nul) hk'
    rw [List.drop_eq_getElem_cons hk', List.all_cons, show t.kids[k] = t.kids.getD k T.nul by rw [List.getD_eq_getElem?_getD, List.getElem?_eq_getElem hk']; rfl] at heq
    refine ⟨⟨by omega, hi⟩, p, hp, _, _, _, sa', sk', hc, fun w3 B3 _ hE3 => CallK.exact (ih _ hm (hr.ext hE3)) fun w4 hE4 => ⟨_, rfl, fun hbad => ⟨(hE.trans hE3).trans hE4, ?_⟩, fun hgood => ⟨⟨by omega, by omega⟩, ⟨k + 1, by omega, by omega, ?_, (hE.trans hE3).trans hE4⟩, by dsimp only; omega⟩⟩⟩
    · rw [heq]
      rcases hbad with hb | ⟨hb1, hb2⟩
      · rw [hb]; rfl
      · rw [decide_eq_true hb1, decide_eq_false hb2]; simp
    · rw [heq, hgood.1]
      rcases hgood.2 with hb | hb
      · rw [decide_eq_false hb]; simp
      · rw [decide_eq_true (Classical.not_not.1 hb)]; simp
  · have hkl : k = t.kids.length := by omega
    subst hkl
    rw [heq, List.drop_length]; rfl

theorem isEmpty_dec (s : Str) : decide (s = ([] : Str)) = s.isEmpty := by cases s <;> rfl
theorem isEmpty_ndec (s : Str) : decide (s ≠ ([] : Str)) = !s.isEmpty := by cases s <;> rfl
theorem le_dec (s : Str) (n : Nat) : decide ((s.length : Int) ≤ (n : Int)) = decide (s.length ≤ n) := by rw [Bool.eq_iff_iff]; simp

theorem treeNode {A : List Nat} : ∀ t : T, t.bulk ≤ 1099511627776 → ∀ {w : World} {sa sk : Sl}, RdT A w t sa sk →
    Calls Try.prog 89 #[tv t sa sk] w (Ret fun v w' => Ext w w' ∧ v = .bool (nodeOk t)) := T.ind' fun t ih hb w sa sk h => by
  refine tree_node.ok _ _ _ _ _ ?_
  unfold tree_node.vc
  have hn := h.nkids
  have hna := h.nattrs
  refine ⟨fun h2 => ?_, fun h2 => ?_⟩
  · rw [nodeOk_el h2]
    intro w1 B1 _ hE1
    refine CallK.exact (treeName t.name) fun w2 hE2 => ⟨_, rfl, _, fun _ => treeAttrs (h.attrs.ext (hE1.trans hE2)), fun w3 hE3 => ⟨kidsOk t, fun _ => treeKids t hb (fun u hu _ _ _ hr => ih u hu (by have := T.kid_bulk hu; omega) hr) (h.ext ((hE1.trans hE2).trans hE3)), fun w4 hE4 => ⟨((hE1.trans hE2).trans hE3).trans hE4, ?_⟩⟩⟩
    rw [isEmpty_dec]
  · rw [nodeOk_ne h2]
    refine ⟨fun hbad w1 B1 _ hE1 => ⟨hE1, ?_⟩, fun hgood => ?_⟩
    · have : (t.attrs.isEmpty && t.kids.isEmpty) = false := by
        rcases hbad with hb | hb
        · have : t.attrs.isEmpty = false := by cases hx : t.attrs <;> simp_all
          rw [this]; rfl
        · have : t.kids.isEmpty = false := by cases hx : t.kids <;> simp_all
          rw [this, Bool.and_false]
      rw [this, Bool.false_and]
    · have ha : t.attrs.isEmpty = true := by cases hx : t.attrs <;> simp_all
      have hk : t.kids.isEmpty = true := by cases hx : t.kids <;> simp_all
      rw [ha, hk, Bool.true_and, Bool.true_and]
      have l4 := le_dec t.text 4096
      have l3 := le_dec t.name 32
      rw [show ((4096 : Nat) : Int) = 4096 from rfl] at l4
      rw [show ((32 : Nat) : Int) = 32 from rfl] at l3
      refine ⟨fun h3 w1 B1 _ hE1 => ⟨hE1, ?_⟩, fun h3 => ⟨fun h4 w1 B1 _ hE1 => ⟨hE1, ?_⟩, fun h4 => ⟨fun h5 w1 B1 _ hE1 => ⟨hE1, ?_⟩, fun h5 w1 B1 _ hE1 => ⟨hE1, ?_⟩⟩⟩⟩
      · rw [if_pos h3, isEmpty_dec, isEmpty_ndec, l4]
      · rw [if_neg h3, if_pos h4, isEmpty_dec, l4]
      · rw [if_neg h3, if_neg h4, if_pos h5, isEmpty_dec, l3]
      · rw [if_neg h3, if_neg h4, if_neg h5]

theorem Box.strs {w : World} {B : Nat} {S : TypeId} {l : List Str} (h : Box w B S (l.map fun x => .string (Bs x))) (hl : l.length ≤ 1000) : Row [] w (Sl.mk (some ⟨B, 0, none⟩) l.length l.length) 1 (l.map fun x => [.string (Bs x)]) := by
  refine ⟨by simp, Nat.le_refl _, by simp only [maxLen]; omega, fun i hi => ⟨⟨B, 0, none⟩, rfl, by simp, fun j v hj => ?_, ?_⟩⟩
  · simp only [List.length_map] at hi
    have e : (l.map fun x => [Value.string (Bs x)]).getD i [] = [.string (Bs (l[i]))] := by simp [List.getD_eq_getElem?_getD, hi]
    rw [e] at hj
    cases j with
    | succ j => simp at hj
    | zero =>
      simp only [List.getElem?_cons_zero, Option.some.injEq] at hj
      subst hj
      rw [Addr.add_add, Addr.add_lit, Nat.mul_one, Nat.add_zero, Nat.zero_add]
      exact h.cell i _ (by simp [hi])
  · simp only [List.length_map] at hi
    simp [List.getD_eq_getElem?_getD, hi]

theorem treeCheck {A : List Nat} (t : T) (hb : t.bulk ≤ 1099511627776) {w : World} {sa sk : Sl} (h : RdT A w t sa sk) :
    Calls Try.prog 60 #[tv t sa sk] w (Ret fun v w' => Ext w w' ∧ v = .bool t.check) := by
  refine tree_Check.ok _ _ _ _ _ ?_
  unfold tree_Check.vc
  have hna := h.nattrs
  intro w1 B1 _ hE1
  refine ⟨_, fun _ => treeSize t hb (h.ext hE1), fun w2 hE2 => ⟨_, fun _ => treeDepth t hb (h.ext (hE1.trans hE2)), fun w3 hE3 w4 hE4 B4 _ hB4 => ?_⟩⟩
  have hE14 := ((hE1.trans hE2).trans hE3).trans hE4
  refine ⟨(t.name.isEmpty && t.text.isEmpty), fun hg => ?_, fun w5 hE5 => ⟨kidsOk t, fun _ => treeKids t hb (fun u hu _ _ _ hr => treeNode u (by have := T.kid_bulk hu; omega) hr) (h.ext (hE14.trans hE5)), fun w6 hE6 => ⟨(hE14.trans hE5).trans hE6, ?_⟩⟩⟩
  · have := treeEmpty (Box.strs (l := [t.name, t.text]) (hB4 hg) (by simp))
    simpa using this
  · unfold T.check
    have e1 : decide ((t.size : Int) ≤ 300) = decide (t.size ≤ 300) := by rw [Bool.eq_iff_iff]; simp; omega
    have e2 : decide ((t.depth : Int) ≤ 60) = decide (t.depth ≤ 60) := by rw [Bool.eq_iff_iff]; simp; omega
    have e3 : decide ((sa.n : Int) = 0) = t.attrs.isEmpty := by
      rw [hna]; cases t.attrs with
      | nil => rfl
      | cons a r => simp; omega
    rw [e1, e2, e3]

/-- The example of the laws. -/
def exA : T := .node 3 [] [97] [] []
def exR : T := .node 1 [] [] [] [exA]
theorem exA_rd {A : List Nat} {w : World} : RdT A w exA Sl.nil Sl.nil := RdT.nil _ _ _ _ _
theorem Row.one {A : List Nat} {w : World} {B : Nat} {S : TypeId} {cs : List Value} (h : Box w B S cs) (hA : B ∉ A) : Row A w (Sl.mk (some ⟨B, 0, none⟩) 1 1) cs.length [cs] :=
  ⟨rfl, Nat.le_refl _, by simp [maxLen], fun i hi => by
    have : i = 0 := by simpa using hi
    subst this
    exact ⟨_, rfl, hA, by rw [Nat.zero_mul, Addr.add_zero']; exact h.cells, rfl⟩⟩

end Go.Proofs.Yteohbfaechfliaa
