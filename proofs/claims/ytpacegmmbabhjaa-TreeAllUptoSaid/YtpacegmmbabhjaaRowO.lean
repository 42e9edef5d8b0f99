/-
  An argument that is a slice of whatever, opened.
-/
import Derived.Test.YtpacegmmbabhjaaRow
import Derived.DataReads
import Derived.ChangeArms
namespace Go.Proofs.Ytpacegmmbabhjaa
open Go.RowKit Go.ChangeShapes Go.WideShapes Go.ChangeAt

theorem choose_list {α : Type} {P : Nat → α → Prop} : ∀ n : Nat, (∀ i, i < n → ∃ g, P i g) → ∃ gs : List α, gs.length = n ∧ ∀ (i : Nat) (g : α), gs[i]? = some g → P i g
  | 0, _ => ⟨[], rfl, by simp⟩
  | n + 1, h => by
    obtain ⟨gs, hl, hg⟩ := choose_list n (fun i hi => h i (by omega))
    obtain ⟨g, hgn⟩ := h n (by omega)
    refine ⟨gs ++ [g], by simp [hl], fun i x hx => ?_⟩
    rcases Nat.lt_or_ge i n with hi | hi
    · rw [List.getElem?_append_left (by omega)] at hx; exact hg i x hx
    · have hin : i = n := by
        have := (List.getElem?_eq_some_iff.1 hx).1
        simp at this; omega
      subst hin
      rw [List.getElem?_append_right (by omega), hl, Nat.sub_self] at hx
      simp at hx; subst hx; exact hgn

theorem bulk_sum {H α : Type} (b : α → Nat) : ∀ (gs : List α) (ds : List (DataW H)), gs.length = ds.length → (∀ (i : Nat) (g : α) (d : DataW H), gs[i]? = some g → ds[i]? = some d → b g ≤ Rows.uptoBulk d) → (gs.map b).sum ≤ Rows.uptoBulkAll ds
  | [], [], _, _ => Nat.zero_le _
  | g :: gs, d :: ds, hl, h => by
    have h1 := h 0 g d rfl rfl
    have h2 := bulk_sum b gs ds (by simpa using hl) (fun i g d hg hd => h (i + 1) g d (by simpa using hg) (by simpa using hd))
    simp only [List.map_cons, List.sum_cons, Rows.uptoBulkAll]; omega

/-- A slice whose elements are known to read well: what it holds. -/
theorem open_row {H α : Type} {enc : TypeId × Value → H} {P : Program} {W : World} {t e : TypeId} {size fuel : Nat} {cs : List Value} {x : DataW H × List MemPlace} (ht : P.underlying t = some (.slice e)) (hc : P.cellsOf e = size) (cf : α → List Value) (good : α → Prop) (b : α → Nat)
    (hel : ∀ m, m < fuel → ∀ cs y, cs.length = size → DataW.trod enc P W 0 (fun _ => true) true m e cs = some y → ∃ g, cs = cf g ∧ good g ∧ b g ≤ Rows.uptoBulk y.1)
    (h : DataW.trod enc P W 0 (fun _ => true) true fuel t cs = some x) :
    ∃ (s : Sl) (gs : List α), cs = [s.v] ∧ Row [] W s size (gs.map cf) ∧ (∀ g ∈ gs, good g) ∧ (gs.map b).sum + 1 ≤ Rows.uptoBulk x.1 := by
  rcases DataW.trod_slice ht h with ⟨rfl, rfl⟩ | ⟨a, len, cap, elems, rest, n, rfl, rfl, rfl, hb, hl, hm, hlen, he, _, _⟩
  · exact ⟨Sl.nil, [], rfl, Row.nil _ _ _, by simp, by simp [Rows.uptoBulk]⟩
  · have each : ∀ i, i < len → ∃ g : α, Cells W (a.add (i * size)) (cf g) ∧ (cf g).length = size ∧ good g ∧ ∀ d, elems[i]? = some d → b g ≤ Rows.uptoBulk d.1 := by
      intro i hi
      have h1 := he i hi
      have hlt : i < elems.length := by omega
      rw [List.getElem?_eq_getElem hlt, Option.bind_eq_some_iff, hc] at h1
      obtain ⟨cs', hcs, hy⟩ := h1
      obtain ⟨q1, q2, q3⟩ := World.cells?_some hcs
      obtain ⟨g, rfl, hg, hbg⟩ := hel n (by omega) cs' _ q2 hy
      refine ⟨g, fun j v hv => ?_, q2, hg, fun d hd => ?_⟩
      · have hj := (List.getElem?_eq_some_iff.1 hv).1
        have := q3 j (by omega)
        rw [this]; exact hv
      · rw [List.getElem?_eq_getElem hlt] at hd
        cases hd; exact hbg
    obtain ⟨gs, hgl, hgs⟩ := choose_list len each
    refine ⟨⟨some a, len, cap⟩, gs, rfl, ⟨by simp [hgl], hl, hm, fun i hi => ?_⟩, fun g hg => ?_, ?_⟩
    · simp only [List.length_map] at hi
      have hgi := hgs i _ (List.getElem?_eq_getElem hi)
      have e : (gs.map cf).getD i [] = cf gs[i] := by simp [List.getD_eq_getElem?_getD, hi]
      rw [e]
      exact ⟨a, rfl, by simp, hgi.1, hgi.2.1⟩
    · obtain ⟨i, hi⟩ := List.getElem?_of_mem hg
      exact (hgs i g hi).2.2.1
    · have := bulk_sum b gs (elems.map (·.1)) (by simp [hgl, hlen]) (fun i g d hg hd => by
        rw [List.getElem?_map] at hd
        cases hx : elems[i]? with
        | none => rw [hx] at hd; cases hd
        | some y => rw [hx] at hd; cases hd; exact (hgs i g hg).2.2.2 y hx)
      simp only [Rows.uptoBulk]; omega


theorem isStr {H : Type} {enc : TypeId × Value → H} {W : World} {m : Nat} {cs : List Value} {y : DataW H × List MemPlace} (h : DataW.trod enc Try.prog W 0 (fun _ => true) true m 9 cs = some y) :
    ∃ s : Str, cs = [.string (Bs s)] ∧ Rows.uptoBulk y.1 = s.length + 1 := by
  obtain ⟨s, rfl, rfl, _⟩ := DataW.trod_string Try.underlying9 h
  exact ⟨s.data.toList, by rw [Bs_toList], by simp [Rows.uptoBulk]⟩
theorem isInt {H : Type} {enc : TypeId × Value → H} {W : World} {m : Nat} {cs : List Value} {y : DataW H × List MemPlace} (h : DataW.trod enc Try.prog W 0 (fun _ => true) true m 3 cs = some y) :
    ∃ n : Int, cs = [.int .i64 n] ∧ 1 ≤ Rows.uptoBulk y.1 ∧ (Lit.int .i64 n).wf = true := by
  obtain ⟨n, rfl, rfl, hw⟩ := DataW.trod_int Try.underlying3 h
  exact ⟨n, rfl, by simp [Rows.uptoBulk], hw⟩


end Go.Proofs.Ytpacegmmbabhjaa
