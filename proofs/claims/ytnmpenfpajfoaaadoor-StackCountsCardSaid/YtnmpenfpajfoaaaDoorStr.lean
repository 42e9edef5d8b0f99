/-
  Rows of texts; rows and their copies.
-/
import Derived.Test.YtnmpenfpajfoaaaDoorRdC
import Derived.Test.YtnmpenfpajfoaaaDoorRdB
import Derived.Test.YtnmpenfpajfoaaaDoorGT
namespace Go.Proofs.YtnmpenfpajfoaaaDoor
open Go.RowKit

/-- A text's cell. -/
def sc (x : Str) : List Value := [.string (Bs x)]
theorem ones_sc (l : List Str) : ∀ u ∈ (l.map sc).flatten, u.oneCell' = true := by
  intro u hu
  obtain ⟨c, hc, hu⟩ := List.mem_flatten.1 hu
  obtain ⟨p, _, rfl⟩ := List.mem_map.1 hc
  simp [sc] at hu; subst hu; rfl
theorem Row.str {A : List Nat} {w : World} {s : Sl} {l : List Str} (h : Row A w s 1 (l.map sc)) {i : Nat} (hi : i < l.length) : ∃ p, s.a = some p ∧ w.cell? (p.add (i * 1)) = some (.string (Bs (l.getD i []))) := by
  obtain ⟨p, hp, _, hc, _⟩ := h.at_ i (by simpa using hi)
  have e : (l.map sc).getD i [] = sc (l.getD i []) := by simp [List.getD_eq_getElem?_getD, hi]
  rw [e] at hc
  have h0 := hc 0 _ rfl
  rw [Addr.add_zero'] at h0
  exact ⟨p, hp, h0⟩
theorem Row.strs {A : List Nat} {w : World} {s : Sl} {l : List Str} (h : Row A w s 1 (l.map sc)) : s.n = l.length ∧ s.n ≤ s.c ∧ s.c ≤ 9223372036854775807 := by
  have h1 := h.len
  have h2 := h.cap
  have h3 := h.most
  simp only [maxLen] at h3
  exact ⟨by simpa using h1, h2, by omega⟩
theorem Box.rowStrL {w : World} {B : Nat} {S : TypeId} {l : List Str} (h : Box w B S (l.map fun x => .string (Bs x))) (hl : l.length ≤ maxLen) {A : List Nat} (hA : B ∉ A) : Row A w (Sl.mk (some ⟨B, 0, none⟩) l.length l.length) 1 (l.map sc) := by
  refine ⟨by simp, Nat.le_refl _, hl, fun i hi => ⟨⟨B, 0, none⟩, rfl, hA, fun j v hj => ?_, ?_⟩⟩
  · simp only [List.length_map] at hi
    have e : (l.map sc).getD i [] = [.string (Bs (l[i]))] := by simp [List.getD_eq_getElem?_getD, hi, sc]
    rw [e] at hj
    cases j with
    | succ j => simp at hj
    | zero =>
      simp only [List.getElem?_cons_zero, Option.some.injEq] at hj
      subst hj
      rw [Addr.add_add, Addr.add_lit, Nat.mul_one, Nat.add_zero, Nat.zero_add]
      exact h.cell i _ (by simp [hi])
  · simp only [List.length_map] at hi
    simp [List.getD_eq_getElem?_getD, hi, sc]
theorem Box.rowStr {w : World} {B : Nat} {S : TypeId} {l : List Str} (h : Box w B S (l.map fun x => .string (Bs x))) (hl : l.length ≤ 1000) {A : List Nat} (hA : B ∉ A) : Row A w (Sl.mk (some ⟨B, 0, none⟩) l.length l.length) 1 (l.map sc) := h.rowStrL (by simp only [maxLen]; omega) hA

/-- Texts behind a row of the call's own (that began at w0, and wrote nothing that was there then). -/
theorem pushStr {A bx : List Nat} {w : World} {s x : Sl} {l m : List Str} {ty : TypeId} {K : Value → World → Prop} (h : Own A w s 1 9 (l.map sc)) (hA : ∀ b ∈ A, b < w.heap.size) (hx : Row [] w x 1 (m.map sc)) (hl : l.length + m.length ≤ 1099511627776) (hbx : ∀ b ∈ bx, b ∈ A)
    (k : ∀ s' w', Own A w' s' 1 9 ((l ++ m).map sc) → Chg s.own w w' → K s'.v w') :
    RunK Tryd.prog (Builtin.append_ #[22, 22] ty #[s.v, x.v]) w bx K := by
  have hn := h.len
  have hxn := hx.strs.1
  simp only [List.length_map] at hn
  cases hm : m with
  | nil =>
    subst hm
    have e := append_none (P := Tryd.prog) (w := w) (s := s) (x := x) (t := 22) (ty := ty) Tryd.underlying22 ti_9 h.cap (by simpa using hxn)
    rw [List.append_nil] at k
    exact ⟨_, _, e, fun _ _ _ => rfl, Nat.le_refl _, k s w h (Chg.refl _ _)⟩
  | cons a r =>
    refine App.runK Tryd.underlying22 ti_9 rfl (by decide) (.inl h) hA hx (ones_sc m) (by rw [hm]; simp) (by simp only [maxLen, List.length_map]; omega) (by simp only [List.length_map]; omega) hbx fun s' w' ho hc _ => k s' w' (by rw [List.map_append]; exact ho) hc

end Go.Proofs.YtnmpenfpajfoaaaDoor
