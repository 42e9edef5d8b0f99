/-
  stack and chapter 12's own answer: each computes the plain function. (Under strings.asciiSpace as it is laid.)
-/
import Derived.Test.YtnmpenfpajfoaaaDoorStr
import Derived.Test.YtnmpenfpajfoaaaDoorStkN
import Derived.Test.YtnmpenfpajfoaaaDoorPlace
import Derived.Test.YtnmpenfpajfoaaaDoorGstack
import Derived.Test.YtnmpenfpajfoaaaDoorGref12
import Derived.Test.YtnmpenfpajfoaaaDoorFields
namespace Go.Proofs.YtnmpenfpajfoaaaDoor
open Go.RowKit

theorem has_drop {l : List Str} {nm : Str} {k : Nat} (h : k < l.length) : has (l.drop k) nm = (decide (l.getD k [] = nm) || has (l.drop (k + 1)) nm) := by
  unfold has
  rw [List.drop_eq_getElem_cons h, List.any_cons, List.getD_eq_getElem?_getD, List.getElem?_eq_getElem h]; rfl

theorem refHas {A : List Nat} {w : World} {s : Sl} {l : List Str} (h : Row A w s 1 (l.map sc)) (nm : Str) :
    Calls Tryd.prog 22 #[s.v, .string (Bs nm)] w (Ret fun v w' => Ext w w' ∧ v = .bool (has l nm)) := by
  refine ref12_Has.ok _ _ ?_
  unfold ref12_Has.vc
  have hs := h.strs
  refine ⟨fun i w1 => ∃ k : Nat, i = (k : Int) ∧ k ≤ l.length ∧ has l nm = has (l.drop k) nm ∧ Ext w w1, fun i _ => l.length - i.toNat, ⟨0, rfl, Nat.zero_le _, rfl, Chg.refl _ _⟩, ?_⟩
  rintro _ w1 ⟨k, rfl, hk, heq, hE⟩
  rw [Int.toNat_natCast]
  refine ⟨fun hi => ?_, fun hi => ⟨hE, ?_⟩⟩
  · have hk' : k < l.length := by omega
    obtain ⟨p, hp, hc⟩ := (h.ext hE).str hk'
    rw [has_drop hk'] at heq
    refine ⟨⟨by omega, hi⟩, p, hp, _, hc, fun he => ⟨hE, ?_⟩, fun he => ⟨⟨by omega, by omega⟩, ⟨k + 1, by omega, by omega, ?_, hE⟩, by dsimp only; omega⟩⟩
    · rw [heq, decide_eq_true he]; rfl
    · rw [heq, decide_eq_false he]; rfl
  · have hkl : k = l.length := by omega
    subst hkl
    rw [heq, List.drop_length]; rfl

theorem stackAmong {w : World} (hT : Sp w) (s nm : Str) (ha : s.all (fun b => decide (b.toNat < 128)) = true) (hl : s.length ≤ 1000000) :
    Calls Tryd.prog 20 #[.string (Bs s), .string (Bs nm)] w (Ret fun v w' => Ext w w' ∧ v = .bool (has (Lib.fields s) nm)) := by
  refine stack_among.ok _ _ ?_
  unfold stack_among.vc
  refine CallK.ext (fieldsC hT s ha hl) ?_
  rintro v w0 hE0 ⟨r, rfl, hr⟩
  generalize Lib.fields s = l at hr
  have hs := hr.strs
  refine ⟨r, rfl, fun i w1 => ∃ k : Nat, i = (k : Int) ∧ k ≤ l.length ∧ has l nm = has (l.drop k) nm ∧ Ext w0 w1, fun i _ => l.length - i.toNat, ⟨0, rfl, Nat.zero_le _, rfl, Chg.refl _ _⟩, ?_⟩
  rintro _ w1 ⟨k, rfl, hk, heq, hE⟩
  rw [Int.toNat_natCast]
  refine ⟨fun hi => ?_, fun hi => ⟨hE0.trans hE, ?_⟩⟩
  · have hk' : k < l.length := by omega
    obtain ⟨p, hp, hc⟩ := (hr.ext hE).str hk'
    rw [has_drop hk'] at heq
    refine ⟨⟨by omega, hi⟩, p, hp, _, hc, fun he => ⟨hE0.trans hE, ?_⟩, fun he => ⟨⟨by omega, by omega⟩, ⟨k + 1, by omega, by omega, ?_, hE⟩, by dsimp only; omega⟩⟩
    · rw [heq, decide_eq_true he]; rfl
    · rw [heq, decide_eq_false he]; rfl
  · have hkl : k = l.length := by omega
    subst hkl
    rw [heq, List.drop_length]; rfl

theorem stackSorts {w : World} (k : Int) : Calls Tryd.prog 21 #[.int .i64 k] w (Ret fun v w' => Ext w w' ∧ v = .string (Bs (if k < 1 ∨ 9 ≤ k then [] else sortStr.getD k.toNat []))) := by
  refine stack_sorts.ok _ ?_
  unfold stack_sorts.vc
  refine ⟨fun h w1 B1 _ hE => ⟨hE, by rw [if_pos h]⟩, fun h => ⟨⟨by omega, by omega⟩, fun w1 B1 _ hE => ⟨hE, by rw [if_neg (by omega)]; rfl⟩⟩⟩

theorem stackIs {w : World} (hT : Sp w) (nm : Str) (k : Int) : Calls Tryd.prog 9 #[.string (Bs nm), .int .i64 k] w (Ret fun v w' => Ext w w' ∧ v = .bool (isB nm k)) := by
  refine stack_Is.ok _ _ ?_
  unfold stack_Is.vc
  refine CallK.exact (stackSorts k) fun w1 hE1 => ⟨_, rfl, ?_⟩
  by_cases h : k < 1 ∨ 9 ≤ k
  · rw [if_pos h]
    refine CallK.exact (stackAmong (hT.ext hE1) [] nm rfl (by decide)) fun w2 hE2 => ⟨_, rfl, hE1.trans hE2, ?_⟩
    unfold isB; rw [sortL_out h]; rfl
  · rw [if_neg h]
    have h1 := ascii_sort k.toNat (by omega)
    have h2 := fields_sort k.toNat (by omega)
    refine CallK.exact (stackAmong (hT.ext hE1) _ nm h1.1 (by omega)) fun w2 hE2 => ⟨_, rfl, hE1.trans hE2, ?_⟩
    unfold isB; rw [h2, show ((k.toNat : Nat) : Int) = k by omega]

theorem refSort {w : World} (k : Int) : Calls Tryd.prog 8 #[.int .i64 k] w (Ret fun v w' => Ext w w' ∧ ∃ s : Sl, v = s.v ∧ Row [] w' s 1 ((sortL k).map sc)) := by
  refine ref12_Sort.ok _ ?_
  unfold ref12_Sort.vc
  have put : ∀ {w' : World} {B : Nat} {l : List Str} {n : Nat}, Box w' B 9 (l.map fun x => .string (Bs x)) → l.length = n → n ≤ 1000 → Row [] w' (Sl.mk (some ⟨B, 0, none⟩) n n) 1 (l.map sc) := fun h e hl => by
    subst e; exact h.rowStr hl (by simp)
  refine ⟨fun h w1 B _ hE hb => ⟨hE, _, rfl, by subst h; exact put (l := sortL1) hb rfl (by decide)⟩, fun h1 =>
    ⟨fun h w1 B _ hE hb => ⟨hE, _, rfl, by subst h; exact put (l := sortL2) hb rfl (by decide)⟩, fun h2 =>
    ⟨fun h w1 B _ hE hb => ⟨hE, _, rfl, by subst h; exact put (l := sortL3) hb rfl (by decide)⟩, fun h3 =>
    ⟨fun h w1 B _ hE hb => ⟨hE, _, rfl, by subst h; exact put (l := sortL4) hb rfl (by decide)⟩, fun h4 =>
    ⟨fun h w1 B _ hE hb => ⟨hE, _, rfl, by subst h; exact put (l := sortL5) hb rfl (by decide)⟩, fun h5 =>
    ⟨fun h w1 B _ hE hb => ⟨hE, _, rfl, by subst h; exact put (l := sortL6) hb rfl (by decide)⟩, fun h6 =>
    ⟨fun h w1 B _ hE hb => ⟨hE, _, rfl, by subst h; exact put (l := sortL7) hb rfl (by decide)⟩, fun h7 =>
    ⟨fun h w1 B _ hE hb => ⟨hE, _, rfl, by subst h; exact put (l := sortL8) hb rfl (by decide)⟩, fun h8 => ⟨Chg.refl _ _, Sl.nil, rfl, ?_⟩⟩⟩⟩⟩⟩⟩⟩⟩
  unfold sortL
  rw [if_neg h1, if_neg h2, if_neg h3, if_neg h4, if_neg h5, if_neg h6, if_neg h7, if_neg h8]
  exact Row.nil _ _ _

theorem refIs {w : World} (nm : Str) (k : Int) : Calls Tryd.prog 10 #[.string (Bs nm), .int .i64 k] w (Ret fun v w' => Ext w w' ∧ v = .bool (isB nm k)) := by
  refine ref12_Is.ok _ _ ?_
  unfold ref12_Is.vc
  refine CallK.ext (refSort k) ?_
  rintro v w1 hE1 ⟨s, rfl, hr⟩
  exact ⟨s, rfl, CallK.exact (refHas hr nm) fun w2 hE2 => ⟨_, rfl, hE1.trans hE2, rfl⟩⟩

theorem stackBorder {w : World} (hT : Sp w) (nm : Str) (k : Int) : Calls Tryd.prog 23 #[.string (Bs nm), .int .i64 k] w (Ret fun v w' => Ext w w' ∧ v = .bool (borderB nm k)) := by
  refine stack_border.ok _ _ ?_
  unfold stack_border.vc borderB
  refine ⟨fun h => ⟨Chg.refl _ _, ?_⟩, fun h => ⟨fun h4 => ⟨Chg.refl _ _, ?_⟩, fun h4 => ⟨fun h5 => ⟨Chg.refl _ _, ?_⟩, fun h5 => ?_⟩⟩⟩
  · rcases h with h | h
    · rw [decide_eq_true h]; rfl
    · rw [decide_eq_true h]; simp
  · rw [decide_eq_false h.1, decide_eq_false h.2, decide_eq_true h4]; rfl
  · rw [decide_eq_false h4]
    rcases h5 with ⟨a, b | b⟩ | ⟨a, b⟩
    · rw [decide_eq_true a, decide_eq_true b]; simp
    · rw [decide_eq_true a, decide_eq_true b]; simp
    · rw [decide_eq_true a, decide_eq_true b]; simp
  · refine CallK.exact (stackAmong hT mostStr nm ascii_most.1 (by have := ascii_most.2; omega)) fun w1 hE1 => ⟨_, rfl, hE1, ?_⟩
    rw [fields_most, decide_eq_false h.1, decide_eq_false h.2, decide_eq_false h4]
    have e1 : (decide (k = 2) && (decide (nm = [111, 108]) || decide (nm = [117, 108]))) = false := by
      rcases h5.1 with a | ⟨a, b⟩
      · rw [decide_eq_false a]; rfl
      · rw [decide_eq_false a, decide_eq_false b]; simp
    have e2 : (decide (k = 3) && decide (nm = [98, 117, 116, 116, 111, 110])) = false := by
      rcases h5.2 with a | a
      · rw [decide_eq_false a]; rfl
      · rw [decide_eq_false a]; simp
    rw [e1, e2]; rfl

theorem has_most (nm : Str) : has mostL nm = true ↔ (nm = [97, 112, 112, 108, 101, 116] ∨ (nm = [99, 97, 112, 116, 105, 111, 110] ∨ (nm = [116, 100] ∨ (nm = [116, 104] ∨ (nm = [109, 97, 114, 113, 117, 101, 101] ∨ nm = [111, 98, 106, 101, 99, 116]))))) := by
  unfold has mostL
  simp only [List.any_cons, List.any_nil, Bool.or_false, Bool.or_eq_true, decide_eq_true_eq]
  constructor
  · rintro (h | h | h | h | h | h) <;> subst h <;> simp
  · rintro (h | h | h | h | h | h) <;> subst h <;> simp

theorem refBorder {w : World} (nm : Str) (k : Int) : Calls Tryd.prog 24 #[.string (Bs nm), .int .i64 k] w (Ret fun v w' => Ext w w' ∧ v = .bool (borderB nm k)) := by
  refine ref12_Border.ok _ _ ?_
  unfold ref12_Border.vc borderB
  refine ⟨fun h => ⟨Chg.refl _ _, ?_⟩, fun h => ⟨fun h4 => ⟨Chg.refl _ _, ?_⟩, fun h4 => ⟨fun h5 => ⟨Chg.refl _ _, ?_⟩, fun h5 => ⟨fun h6 => ⟨Chg.refl _ _, ?_⟩, fun h6 => ⟨Chg.refl _ _, ?_⟩⟩⟩⟩⟩
  · rcases h with h | h
    · rw [decide_eq_true h]; rfl
    · rw [decide_eq_true h]; simp
  · have hm := (has_most nm).2 h4
    have n1 : ¬ nm = [111, 108] := by rintro rfl; simp at h4
    have n2 : ¬ nm = [117, 108] := by rintro rfl; simp at h4
    have n3 : ¬ nm = [98, 117, 116, 116, 111, 110] := by rintro rfl; simp at h4
    rw [decide_eq_false h.1, decide_eq_false h.2, hm]
    by_cases e : k = 4 <;> simp [e]
  · have hm : has mostL nm = false := by
      rw [← Bool.not_eq_true, has_most]
      rintro (a | a | a | a | a | a)
      · exact h4.1 a
      · exact h4.2.1 a
      · exact h4.2.2.1 a
      · exact h4.2.2.2.1 a
      · exact h4.2.2.2.2.1 a
      · exact h4.2.2.2.2.2 a
    have n3 : ¬ nm = [98, 117, 116, 116, 111, 110] := by rintro rfl; simp at h5
    rw [decide_eq_false h.1, decide_eq_false h.2, hm, decide_eq_false n3]
    have e5 : (decide (nm = [111, 108]) || decide (nm = [117, 108])) = true := by simpa using h5
    rw [e5]
    by_cases e : k = 2
    · subst e; rfl
    · simp [e]
  · have hm : has mostL nm = false := by
      subst h6; rfl
    rw [decide_eq_false h.1, decide_eq_false h.2, hm, decide_eq_true h6, decide_eq_false h5.1, decide_eq_false h5.2]
    by_cases e : k = 3
    · subst e; rfl
    · simp [e]
  · have hm : has mostL nm = false := by
      rw [← Bool.not_eq_true, has_most]
      rintro (a | a | a | a | a | a)
      · exact h4.1 a
      · exact h4.2.1 a
      · exact h4.2.2.1 a
      · exact h4.2.2.2.1 a
      · exact h4.2.2.2.2.1 a
      · exact h4.2.2.2.2.2 a
    rw [decide_eq_false h.1, decide_eq_false h.2, hm, decide_eq_false h6, decide_eq_false h5.1, decide_eq_false h5.2]
    simp

theorem stackIn {A : List Nat} {w : World} (hT : Sp w) {s : Sl} {l : List Str} (h : Row A w s 1 (l.map sc)) (nm : Str) (sco : Int) :
    Calls Tryd.prog 14 #[s.v, .string (Bs nm), .int .i64 sco] w (Ret fun v w' => Ext w w' ∧ v = .bool (inR nm sco l.reverse)) := by
  refine stack_In.ok _ _ _ ?_
  unfold stack_In.vc
  have hs := h.strs
  refine ⟨⟨by omega, by omega⟩, fun i w1 => ∃ k : Nat, i = (k : Int) - 1 ∧ k ≤ l.length ∧ inR nm sco l.reverse = inR nm sco (l.take k).reverse ∧ Ext w w1, fun i _ => (i + 1).toNat, ⟨l.length, by omega, Nat.le_refl _, by rw [List.take_of_length_le (Nat.le_refl _)], Chg.refl _ _⟩, ?_⟩
  rintro _ w1 ⟨k, rfl, hk, heq, hE⟩
  refine ⟨fun hi => ?_, fun hi => ⟨hE, ?_⟩⟩
  · obtain ⟨j, rfl⟩ : ∃ j, k = j + 1 := ⟨k - 1, by omega⟩
    have hk' : j < l.length := by omega
    obtain ⟨p, hp, hc⟩ := (h.ext hE).str hk'
    rw [show ((((j + 1 : Nat) : Int) - 1)).toNat = j by omega]
    rw [rev_take hk', inR] at heq
    refine ⟨⟨by omega, by omega⟩, p, hp, _, hc, fun he => ⟨hE, by rw [heq, if_pos he]⟩, fun he => ⟨⟨by omega, by omega⟩, p, hp, _, hc, CallK.exact (stackBorder (hT.ext hE) _ _) fun w2 hE2 => ⟨_, rfl, fun hb => ⟨hE.trans hE2, by rw [heq, if_neg he, if_pos hb]⟩, fun hb => ⟨⟨by omega, by omega⟩, ⟨j, by omega, by omega, ?_, hE.trans hE2⟩, by dsimp only; omega⟩⟩⟩⟩
    rw [heq, if_neg he, if_neg (by rw [hb]; decide)]
  · have : k = 0 := by omega
    subst this
    rw [heq]; rfl

theorem refIn {A : List Nat} {w : World} {s : Sl} {l : List Str} (h : Row A w s 1 (l.map sc)) (nm : Str) (sco : Int) :
    Calls Tryd.prog 15 #[s.v, .string (Bs nm), .int .i64 sco] w (Ret fun v w' => Ext w w' ∧ v = .bool (inR nm sco l.reverse)) := by
  refine ref12_In.ok _ _ _ ?_
  unfold ref12_In.vc
  have hs := h.strs
  refine ⟨⟨by omega, by omega⟩, fun i w1 => ∃ k : Nat, i = (k : Int) - 1 ∧ k ≤ l.length ∧ inR nm sco l.reverse = inR nm sco (l.take k).reverse ∧ Ext w w1, fun i _ => (i + 1).toNat, ⟨l.length, by omega, Nat.le_refl _, by rw [List.take_of_length_le (Nat.le_refl _)], Chg.refl _ _⟩, ?_⟩
  rintro _ w1 ⟨k, rfl, hk, heq, hE⟩
  refine ⟨fun hi => ?_, fun hi => ⟨hE, ?_⟩⟩
  · obtain ⟨j, rfl⟩ : ∃ j, k = j + 1 := ⟨k - 1, by omega⟩
    have hk' : j < l.length := by omega
    obtain ⟨p, hp, hc⟩ := (h.ext hE).str hk'
    rw [show ((((j + 1 : Nat) : Int) - 1)).toNat = j by omega]
    rw [rev_take hk', inR] at heq
    refine ⟨⟨by omega, by omega⟩, p, hp, _, hc, fun he => ⟨hE, by rw [heq, if_pos he]⟩, fun he => ⟨⟨by omega, by omega⟩, p, hp, _, hc, CallK.exact (refBorder _ _) fun w2 hE2 => ⟨_, rfl, fun hb => ⟨hE.trans hE2, by rw [heq, if_neg he, if_pos hb]⟩, fun hb => ⟨⟨by omega, by omega⟩, ⟨j, by omega, by omega, ?_, hE.trans hE2⟩, by dsimp only; omega⟩⟩⟩⟩
    rw [heq, if_neg he, if_neg (by rw [hb]; decide)]
  · have : k = 0 := by omega
    subst this
    rw [heq]; rfl

theorem stackImplied {A : List Nat} {w : World} (hT : Sp w) {s : Sl} {l : List Str} (h : Row A w s 1 (l.map sc)) (but : Str) :
    Calls Tryd.prog 16 #[s.v, .string (Bs but)] w (Ret fun v w' => Ext w w' ∧ v = .int .i64 (impR but l.reverse : Nat)) := by
  refine stack_Implied.ok _ _ ?_
  unfold stack_Implied.vc
  have hs := h.strs
  refine ⟨fun i w1 => ∃ k : Nat, i = ((l.length - k : Nat) : Int) ∧ k ≤ l.length ∧ impR but l.reverse = (l.length - k) + impR but (l.take k).reverse ∧ Ext w w1, fun i _ => l.length - i.toNat, ⟨l.length, by omega, Nat.le_refl _, by rw [List.take_of_length_le (Nat.le_refl _)]; omega, Chg.refl _ _⟩, ?_⟩
  rintro _ w1 ⟨k, rfl, hk, heq, hE⟩
  refine ⟨fun hi => ?_, fun hi => ⟨hE, ?_⟩⟩
  · obtain ⟨j, rfl⟩ : ∃ j, k = j + 1 := ⟨k - 1, by omega⟩
    have hk' : j < l.length := by omega
    obtain ⟨p, hp, hc⟩ := (h.ext hE).str hk'
    rw [show ((s.n : Int) - 1 - ((l.length - (j + 1) : Nat) : Int)).toNat = j by omega]
    rw [rev_take hk', impR] at heq
    refine ⟨⟨by omega, by omega⟩, ⟨by omega, by omega⟩, ⟨by omega, by omega⟩, p, hp, _, hc, _, fun _ => stackIs (hT.ext hE) _ _, fun w2 hE2 => ⟨fun hb => ⟨hE.trans hE2, ?_⟩, fun hg => ⟨⟨by omega, by omega⟩, ⟨j, by omega, by omega, ?_, hE.trans hE2⟩, by dsimp only; omega⟩⟩⟩
    · rw [heq, if_pos hb]; rfl
    · rw [heq, if_neg (by rintro (a | a); exact hg.1 a; rw [hg.2] at a; cases a)]; omega
  · have : k = 0 := by omega
    subst this
    rw [heq]; rfl

theorem refImplied {A : List Nat} {w : World} {s : Sl} {l : List Str} (h : Row A w s 1 (l.map sc)) (but : Str) :
    Calls Tryd.prog 17 #[s.v, .string (Bs but)] w (Ret fun v w' => Ext w w' ∧ v = .int .i64 (impR but l.reverse : Nat)) := by
  refine ref12_Implied.ok _ _ ?_
  unfold ref12_Implied.vc
  have hs := h.strs
  refine ⟨fun i w1 => ∃ k : Nat, i = ((l.length - k : Nat) : Int) ∧ k ≤ l.length ∧ impR but l.reverse = (l.length - k) + impR but (l.take k).reverse ∧ Ext w w1, fun i _ => l.length - i.toNat, ⟨l.length, by omega, Nat.le_refl _, by rw [List.take_of_length_le (Nat.le_refl _)]; omega, Chg.refl _ _⟩, ?_⟩
  rintro _ w1 ⟨k, rfl, hk, heq, hE⟩
  by_cases hlt : k = 0
  · subst hlt
    have hx : impR but (List.take 0 l).reverse = 0 := rfl
    rw [hx] at heq
    refine ⟨fun hi => by omega, fun hi => by omega, ⟨0, 0, none⟩, fun hi => by omega, [], fun hi => by omega, false, fun hi => by omega, fun w2 hE2 => ⟨fun hi => by omega, fun hi => by omega, ⟨0, 0, none⟩, fun hi => by omega, [], fun hi => by omega, fun hi => by omega, fun _ => ⟨hE.trans hE2, by rw [heq, Nat.add_zero]⟩⟩⟩
  · obtain ⟨j, rfl⟩ : ∃ j, k = j + 1 := ⟨k - 1, by omega⟩
    have hk' : j < l.length := by omega
    obtain ⟨p, hp, hc⟩ := (h.ext hE).str hk'
    rw [show ((s.n : Int) - 1 - ((l.length - (j + 1) : Nat) : Int)).toNat = j by omega]
    rw [rev_take hk', impR] at heq
    refine ⟨fun _ => ⟨by omega, by omega⟩, fun _ => ⟨by omega, by omega⟩, p, fun _ => ⟨⟨by omega, by omega⟩, hp⟩, _, fun _ => hc, _, fun _ => refIs _ _, fun w2 hE2 => ⟨fun _ => ⟨by omega, by omega⟩, fun _ => ⟨by omega, by omega⟩, p, fun _ => ⟨⟨by omega, by omega⟩, hp⟩, _, fun _ => Ext.cell hE2 hc, fun hg => ⟨⟨by omega, by omega⟩, ⟨j, by omega, by omega, ?_, hE.trans hE2⟩, by dsimp only; omega⟩, fun hb => ⟨hE.trans hE2, ?_⟩⟩⟩
    · rw [heq, if_neg (by rintro (a | a); exact hg.2 a; rw [hg.1.2] at a; cases a)]; omega
    · have hbad : l.getD j [] = but ∨ isB (l.getD j []) 4 = false := by
        rcases hb with (a | a) | a
        · omega
        · exact .inr a
        · exact .inl (Classical.not_not.1 a)
      rw [heq, if_pos hbad]; rfl

theorem refUntil {A B : List Nat} {w : World} {s t : Sl} {l m : List Str} (h : Row A w s 1 (l.map sc)) (h2 : Row B w t 1 (m.map sc)) (hll : l.length ≤ 1000000) :
    Calls Tryd.prog 19 #[s.v, t.v] w (Ret fun v w' => Ext w w' ∧ v = .int .i64 (untilR m l.reverse 1 : Nat)) := by
  refine ref12_Until.ok _ _ ?_
  unfold ref12_Until.vc
  have hs := h.strs
  refine ⟨fun i w1 => ∃ k : Nat, i = ((l.length - k + 1 : Nat) : Int) ∧ k ≤ l.length ∧ untilR m l.reverse 1 = untilR m (l.take k).reverse (l.length - k + 1) ∧ Ext w w1, fun i _ => l.length + 1 - i.toNat, ⟨l.length, by omega, Nat.le_refl _, by rw [List.take_of_length_le (Nat.le_refl _), Nat.sub_self], Chg.refl _ _⟩, ?_⟩
  rintro _ w1 ⟨k, rfl, hk, heq, hE⟩
  refine ⟨fun hi => ?_, fun hi => ⟨hE, ?_⟩⟩
  · obtain ⟨j, rfl⟩ : ∃ j, k = j + 1 := ⟨k - 1, by omega⟩
    have hk' : j < l.length := by omega
    obtain ⟨p, hp, hc⟩ := (h.ext hE).str hk'
    rw [show ((s.n : Int) - ((l.length - (j + 1) + 1 : Nat) : Int)).toNat = j by omega]
    rw [rev_take hk', untilR] at heq
    refine ⟨⟨by omega, by omega⟩, ⟨by omega, by omega⟩, p, hp, _, hc, CallK.exact (refHas (h2.ext hE) _) fun w2 hE2 => ⟨_, rfl, fun hb => ⟨hE.trans hE2, by rw [heq, if_pos hb]⟩, fun hb => ⟨⟨by omega, by omega⟩, ⟨j, by omega, by omega, ?_, hE.trans hE2⟩, by dsimp only; omega⟩⟩⟩
    rw [heq, if_neg (by rw [hb]; decide), show l.length - (j + 1) + 1 + 1 = l.length - j + 1 by omega]
  · have : k = 0 := by omega
    subst this
    rw [heq]; rfl

theorem stackUntil {A B : List Nat} {w : World} {s t : Sl} {l m : List Str} (h : Row A w s 1 (l.map sc)) (h2 : Row B w t 1 (m.map sc)) (hll : l.length ≤ 1000000) :
    Calls Tryd.prog 18 #[s.v, t.v] w (Ret fun v w' => Ext w w' ∧ v = .int .i64 (untilR m l.reverse 1 : Nat)) := by
  refine stack_Until.ok _ _ ?_
  unfold stack_Until.vc
  have hs := h.strs
  have ht := h2.strs
  refine ⟨fun i w1 => ∃ k : Nat, i = ((l.length - k + 1 : Nat) : Int) ∧ k ≤ l.length ∧ untilR m l.reverse 1 = untilR m (l.take k).reverse (l.length - k + 1) ∧ Ext w w1, fun i _ => l.length + 1 - i.toNat, ⟨l.length, by omega, Nat.le_refl _, by rw [List.take_of_length_le (Nat.le_refl _), Nat.sub_self], Chg.refl _ _⟩, ?_⟩
  rintro _ w1 ⟨k, rfl, hk, heq, hE⟩
  refine ⟨fun hi => ?_, fun hi => ⟨hE, ?_⟩⟩
  · obtain ⟨j, rfl⟩ : ∃ j, k = j + 1 := ⟨k - 1, by omega⟩
    have hk' : j < l.length := by omega
    rw [rev_take hk', untilR] at heq
    refine ⟨fun i w2 => ∃ n : Nat, i = (n : Int) ∧ n ≤ m.length ∧ has m (l.getD j []) = has (m.drop n) (l.getD j []) ∧ Ext w w2, fun i _ => m.length - i.toNat, ⟨0, rfl, Nat.zero_le _, rfl, hE⟩, ?_⟩
    rintro _ w2 ⟨n, rfl, hn, hhas, hE2⟩
    rw [Int.toNat_natCast]
    refine ⟨fun hi2 => ?_, fun hi2 => ?_⟩
    · have hn' : n < m.length := by omega
      obtain ⟨p, hp, hc⟩ := (h.ext hE2).str hk'
      obtain ⟨q, hq, hd⟩ := (h2.ext hE2).str hn'
      rw [show ((s.n : Int) - ((l.length - (j + 1) + 1 : Nat) : Int)).toNat = j by omega]
      rw [has_drop hn'] at hhas
      refine ⟨⟨by omega, hi2⟩, q, hq, _, hd, ⟨by omega, by omega⟩, ⟨by omega, by omega⟩, p, hp, _, hc, fun he => ⟨hE2, ?_⟩, fun he => ⟨⟨by omega, by omega⟩, ⟨n + 1, by omega, by omega, ?_, hE2⟩, by dsimp only; omega⟩⟩
      · rw [heq, if_pos]
        rw [hhas, decide_eq_true he.symm]; rfl
      · rw [hhas, decide_eq_false (fun e => he e.symm)]; rfl
    · have hnl : n = m.length := by omega
      subst hnl
      rw [List.drop_length] at hhas
      refine ⟨⟨by omega, by omega⟩, ⟨j, by omega, by omega, ?_, hE2⟩, by dsimp only; omega⟩
      rw [heq, if_neg (by rw [hhas]; simp [has]), show l.length - (j + 1) + 1 + 1 = l.length - j + 1 by omega]
  · have : k = 0 := by omega
    subst this
    rw [heq]; rfl

end Go.Proofs.YtnmpenfpajfoaaaDoor
