/-
  The laws of chapter 5: TreeAttrs, TreeSpoilt.
-/
import Derived.Test.YteohbfaechfliaaTreeH
import Derived.Test.YteohbfaechfliaaTreeP
namespace Go.Proofs.Yteohbfaechfliaa
open Go.RowKit

theorem bytesLess_cmp : ∀ a b : Str, Op.bytesLess a b = decide (cmpS a b < 0)
  | [], [] => rfl
  | [], _ :: _ => rfl
  | _ :: _, [] => rfl
  | a :: x, b :: y => by
    have ih := bytesLess_cmp x y
    unfold cmpS at ih ⊢
    simp only [Op.bytesLess, Lib.compareBytes, ih]
    by_cases h1 : a < b
    · simp [h1]
    · by_cases h2 : b < a
      · have : ¬ a = b := fun e => by subst e; exact h1 h2
        simp [h1, h2, this]
      · have : a = b := by
          have e1 : ¬ a.toNat < b.toNat := h1
          have e2 : ¬ b.toNat < a.toNat := h2
          exact UInt8.toNat_inj.1 (by omega)
        simp [this]

theorem cmpS_anti (a b : Str) : cmpS a b = - cmpS b a := cmpS_cmp.anti a b trivial trivial
theorem cmpS_zero (a b : Str) : cmpS a b = 0 ↔ a = b := cmpS_cmp.zero a b trivial trivial
theorem cmpS_lt {a b c : Str} (h1 : cmpS a b < 0) (h2 : cmpS b c < 0) : cmpS a c < 0 := by
  have h3 := cmpS_cmp.trans a b c trivial trivial trivial (by omega) (by omega)
  rcases Int.lt_or_eq_of_le h3 with h | h
  · exact h
  · have e := (cmpS_zero a c).1 h
    subst e
    have := cmpS_anti a b
    omega

theorem attrsOk_step {last : Str} {p : Str × Str} {r : List (Str × Str)} (h : attrsOk last (p :: r) = true) : cmpS last p.1 < 0 ∧ attrsOk p.1 r = true := by
  simp only [attrsOk, Bool.and_eq_true, Bool.not_eq_true', decide_eq_false_iff_not] at h
  obtain ⟨⟨⟨⟨h1, h2⟩, _⟩, _⟩, h5⟩ := h
  refine ⟨?_, h5⟩
  rw [bytesLess_cmp] at h1
  have h3 := of_decide_eq_false h1
  have h4 : cmpS p.1 last ≠ 0 := fun e => h2 ((cmpS_zero _ _).1 e)
  have := cmpS_anti last p.1
  omega
theorem attrsOk_all : ∀ {l : List (Str × Str)} {last : Str}, attrsOk last l = true → ∀ q ∈ l, cmpS last q.1 < 0
  | [], _, _, q, hq => by cases hq
  | p :: r, last, h, q, hq => by
    obtain ⟨h1, h2⟩ := attrsOk_step h
    rcases List.mem_cons.1 hq with rfl | hq
    · exact h1
    · exact cmpS_lt h1 (attrsOk_all h2 q hq)

def attrGet : List (Str × Str) → Str → Str × Bool
  | [], _ => ([], false)
  | p :: r, nm => if p.1 = nm then (p.2, true) else attrGet r nm
theorem attrGet_mem : ∀ {l : List (Str × Str)} {last : Str}, attrsOk last l = true → ∀ q ∈ l, attrGet l q.1 = (q.2, true)
  | [], _, _, q, hq => by cases hq
  | p :: r, last, h, q, hq => by
    obtain ⟨h1, h2⟩ := attrsOk_step h
    rcases List.mem_cons.1 hq with rfl | hq
    · simp [attrGet]
    · have := attrsOk_all h2 q hq
      have hne : ¬ p.1 = q.1 := fun e => by rw [(cmpS_zero _ _).2 e] at this; omega
      rw [attrGet, if_neg hne]; exact attrGet_mem h2 q hq
theorem attrGet_any (nm : Str) : ∀ l : List (Str × Str), (attrGet l nm).2 = l.any fun p => decide (p.1 = nm)
  | [] => rfl
  | p :: r => by
    by_cases h : p.1 = nm
    · rw [attrGet, if_pos h]; simp [h]
    · rw [attrGet, if_neg h, attrGet_any nm r]; simp [h]

theorem treeAttr {A : List Nat} {w : World} {t : T} {sa sk : Sl} (h : RdT A w t sa sk) (nm : Str) :
    Calls Try.prog 65 #[tv t sa sk, .string (Bs nm)] w (Ret fun v w' => Ext w w' ∧ v = .tuple #[.string (Bs (attrGet t.attrs nm).1), .bool (attrGet t.attrs nm).2]) := by
  refine tree_Attr.ok _ _ _ _ _ _ ?_
  unfold tree_Attr.vc
  have hna := h.nattrs
  have hcp := h.caps
  simp only [maxLen] at hcp
  intro w1 B1 _ hE1
  refine ⟨fun i w2 => ∃ k : Nat, i = (k : Int) ∧ k ≤ t.attrs.length ∧ attrGet t.attrs nm = attrGet (t.attrs.drop k) nm ∧ Ext w w2, fun i _ => t.attrs.length - i.toNat, ⟨0, rfl, Nat.zero_le _, rfl, hE1⟩, ?_⟩
  rintro _ w2 ⟨k, rfl, hk, heq, hE⟩
  rw [Int.toNat_natCast]
  refine ⟨fun hi => ?_, fun hi => ⟨hE, ?_⟩⟩
  · have hk' : k < t.attrs.length := by omega
    obtain ⟨p, hp, _, hc⟩ := (h.ext hE).attr hk'
    have hd : t.attrs.drop k = t.attrs.getD k ([], []) :: t.attrs.drop (k + 1) := by
      rw [List.drop_eq_getElem_cons hk', List.getD_eq_getElem?_getD, List.getElem?_eq_getElem hk']; rfl
    rw [hd] at heq
    generalize t.attrs.getD k ([], []) = q at hc heq
    obtain ⟨qn, qv⟩ := q
    refine ⟨⟨by omega, hi⟩, p, hp, qn, qv, hc, fun he w3 B3 _ hE3 => ⟨hE.trans hE3, ?_⟩, fun hne => ⟨⟨by omega, by omega⟩, fun w3 B3 _ hE3 => ⟨⟨k + 1, by omega, by omega, ?_, hE.trans hE3⟩, by dsimp only; omega⟩⟩⟩
    · rw [heq, attrGet, if_pos he]
    · rw [heq, attrGet, if_neg hne]
  · have hkl : k = t.attrs.length := by omega
    subst hkl
    rw [heq, List.drop_length]; rfl

theorem any_take {l : List (Str × Str)} {nm : Str} {k : Nat} (h : k < l.length) : ((l.take (k + 1)).any fun p => decide (p.1 = nm)) = (((l.take k).any fun p => decide (p.1 = nm)) || decide ((l.getD k ([], [])).1 = nm)) := by
  rw [List.take_succ_eq_append_getElem h, List.any_append, List.getD_eq_getElem?_getD, List.getElem?_eq_getElem h]; simp

end Go.Proofs.Yteohbfaechfliaa
