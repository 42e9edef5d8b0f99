/-
  Rows of the call's own, further; what has changed, further.
-/
import Derived.Test.YteohbfaechfliaaRd
namespace Go.Proofs.Yteohbfaechfliaa
open Go.RowKit

theorem App.runK {P : Program} {A bx : List Nat} {w : World} {s x : Sl} {size bytes : Nat} {t ty T : TypeId} {z : Value} {vs us : List (List Value)} {K : Value → World → Prop} (ht : P.underlying t = some (.slice T)) (hi : TI P T z size bytes) (hzs : z.cells.size = size) (hsz : 0 < size)
    (h : App A w s size T vs) (hA : ∀ b ∈ A, b < w.heap.size) (hx : Row [] w x size us) (h1 : ∀ u ∈ us.flatten, u.oneCell' = true) (hu : us ≠ [])
    (h63 : s.n + us.length ≤ maxLen) (hbytes : (s.n + us.length) * bytes ≤ 140737488355328) (hbx : ∀ b ∈ bx, b ∈ A)
    (k : ∀ s' w', Own A w' s' size T (vs ++ us) → Chg s.own w w' → (∀ b ∈ s'.blk, b ∈ s.own ∨ w.heap.size ≤ b) → K s'.v w') :
    RunK P (Builtin.append_ #[t, t] ty #[s.v, x.v]) w bx K := by
  obtain ⟨s', w', hr, ho, hc, hb⟩ := append_app (ty := ty) ht hi hzs hsz h hA hx h1 hu h63 hbytes
  refine ⟨_, _, hr, hc.noTouch _ (fun b hb hm => ?_), hc.size, k s' w' ho (hc.mono fun b hb => (List.mem_filter.1 hb).1) hb⟩
  have := (List.mem_filter.1 hm).2
  have := hbx b hb
  simp_all

theorem Own.avoid {A A' : List Nat} {w : World} {s : Sl} {size : Nat} {T : TypeId} {vs : List (List Value)} (h : Own A w s size T vs) (hA : ∀ b ∈ s.blk, b ∉ A') : Own A' w s size T vs :=
  ⟨h.len, h.cap, h.most, h.each, h.at_.imp_right fun ⟨g, cur, h1, _, h3⟩ => ⟨g, cur, h1, hA g (by simp [Sl.blk, h1]), h3⟩⟩
theorem Own.less {A A' : List Nat} {w : World} {s : Sl} {size : Nat} {T : TypeId} {vs : List (List Value)} (h : Own A w s size T vs) (hA : ∀ b ∈ A', b ∈ A) : Own A' w s size T vs :=
  h.avoid fun b hb hm => (h.blk b hb).1 (hA b hm)
theorem Own.other {A : List Nat} {w : World} {s : Sl} {size : Nat} {T S : TypeId} {vs : List (List Value)} (h : Own A w s size T vs) {B : Nat} {cs : List Value} (hB : Box w B S cs) (hne : T ≠ S) : B ∉ s.blk := by
  intro hm
  rcases h.at_ with e | ⟨g, cur, h1, _, h3, _⟩
  · rw [e] at hm; simp [Sl.blk, Sl.nil] at hm
  · simp [Sl.blk, h1] at hm; subst hm
    unfold Box at h3 hB; rw [h3] at hB; simp at hB; exact hne hB.2
theorem Own.cons {A : List Nat} {w : World} {s : Sl} {size : Nat} {T : TypeId} {vs : List (List Value)} (h : Own A w s size T vs) {B : Nat} (hB : B ∉ s.blk) : Own (B :: A) w s size T vs :=
  h.avoid fun b hb hm => by
    rcases List.mem_cons.1 hm with e | hm
    · subst e; exact hB hb
    · exact (h.blk b hb).1 hm

theorem Chg.more' {F G : List Nat} {a b c : World} (h : Chg F a b) (k : Chg G b c) (hG : ∀ x ∈ G, x ∈ F ∨ a.heap.size ≤ x) : Chg F a c :=
  ⟨k.os.trans h.os, k.tape.trans h.tape, k.output.trans h.output, Nat.le_trans h.size k.size, fun i hi hF =>
    (k.block i (Nat.lt_of_lt_of_le hi h.size) fun hm => (hG i hm).elim hF (fun h => by omega)).trans (h.block i hi hF)⟩
theorem Own.keep {A F : List Nat} {w w' : World} {s : Sl} {size : Nat} {T : TypeId} {vs : List (List Value)} (h : Own A w s size T vs) (c : Chg F w w') (hF : ∀ b ∈ s.blk, b ∉ F) : Own A w' s size T vs :=
  ⟨h.len, h.cap, h.most, h.each, h.at_.imp_right fun ⟨g, cur, h1, h2, h3, h4⟩ => ⟨g, cur, h1, h2, h3.keep c (hF g (by simp [Sl.blk, h1])), h4⟩⟩

theorem Own.tail {A : List Nat} {w : World} {s : Sl} {size : Nat} {T : TypeId} {vs : List (List Value)} (h : Own A w s size T vs) : ∀ b ∈ s.own, b ∉ A := fun b hb => (h.blk b (Sl.own_blk hb)).1


/-- Some behind a row of the call's own: the row itself reads as it did. -/
theorem append_app2 {P : Program} {A : List Nat} {w : World} {s x : Sl} {size bytes : Nat} {t ty T : TypeId} {z : Value} {vs us : List (List Value)} (ht : P.underlying t = some (.slice T)) (hi : TI P T z size bytes) (hzs : z.cells.size = size) (hsz : 0 < size)
    (ho : Own A w s size T vs) (hA : ∀ b ∈ A, b < w.heap.size) (hx : Row [] w x size us) (h1 : ∀ u ∈ us.flatten, u.oneCell' = true) (hu : us ≠ [])
    (h63 : s.n + us.length ≤ maxLen) (hbytes : (s.n + us.length) * bytes ≤ 140737488355328) :
    ∃ s' w', (Builtin.append_ #[t, t] ty #[s.v, x.v]).run P w = .ok (Sl.v s') w' ∧ Own A w' s' size T (vs ++ us) ∧ Chg (s.own.filter fun b => !A.contains b) w w' ∧ (∀ b ∈ s'.blk, b ∈ s.own ∨ w.heap.size ≤ b) ∧ Own A w' s size T vs := by
  have h : App A w s size T vs := .inl ho
  obtain ⟨i, hi0, hz, hs, hb⟩ := hi
  subst hs hb
  have hr := h.row
  have hul : 0 < us.length := by cases us <;> simp_all
  have hsmall : s.n + us.length ≤ 9223372036854775807 := by simp only [maxLen] at h63; omega
  obtain ⟨px, hpx⟩ : ∃ p, x.a = some p := by obtain ⟨p, hp, _⟩ := hx.at_ 0 hul; exact ⟨p, hp⟩
  have hxf := hx.flat hpx
  have hvx : x.v = .slice (some px) us.length x.c := by unfold Sl.v; rw [hpx, hx.len]
  have hxl : us.flatten.length = us.length * i.size := by rw [hxf.1, hx.len]
  have hvl : s.n = vs.length := hr.len
  have each : ∀ u ∈ vs ++ us, u.length = i.size := by
    intro u hu'
    rcases List.mem_append.1 hu' with hm | hm
    · obtain ⟨k, hk, e⟩ := List.getElem_of_mem hm
      obtain ⟨_, _, _, _, h4⟩ := hr.at_ k hk
      rw [List.getD_eq_getElem?_getD, List.getElem?_eq_getElem hk] at h4
      simp at h4; rw [← e]; exact h4
    · obtain ⟨k, hk, e⟩ := List.getElem_of_mem hm
      obtain ⟨_, _, _, _, h4⟩ := hx.at_ k hk
      rw [List.getD_eq_getElem?_getD, List.getElem?_eq_getElem hk] at h4
      simp at h4; rw [← e]; exact h4
  have hvf : vs.flatten.length = s.n * i.size := by rw [flatten_len vs (fun u hu' => each u (by simp [hu'])), hvl]
  have grown : ∀ (old : Nat), old < s.n + us.length →
      Own A (w.drew.alloc (.cells (vs.flatten.toArray ++ us.flatten.toArray ++ Builtin.zeroCells z.cells (grownCap w (s.n + us.length) old T - (s.n + us.length))) T))
        ⟨some ⟨w.heap.size, 0, none⟩, s.n + us.length, grownCap w (s.n + us.length) old T⟩ i.size T (vs ++ us) := by
    intro old ho
    have hge := grownCap_ge w (s.n + us.length) old T
    have hcm : grownCap w (s.n + us.length) old T ≤ maxLen := grownCap_le_maxLen w (s.n + us.length) old T h63
    refine ⟨by simp [hvl], hge, hcm, each, .inr ⟨w.heap.size, vs.flatten ++ us.flatten ++ (Builtin.zeroCells z.cells (grownCap w (s.n + us.length) old T - (s.n + us.length))).toList, rfl, fun hm => by have := hA _ hm; omega, ?_, ?_, ?_⟩⟩
    · unfold Box
      have := heap_alloc_new w.drew (.cells (vs.flatten.toArray ++ us.flatten.toArray ++ Builtin.zeroCells z.cells (grownCap w (s.n + us.length) old T - (s.n + us.length))) T)
      rw [show w.drew.heap.size = w.heap.size from rfl] at this
      rw [this]
      simp
    · simp only [List.length_append, Array.length_toList, size_zeroCells, hvf, hxl, hzs, ← Nat.add_mul]
      congr 1; omega
    · show (vs.flatten ++ us.flatten ++ _).take ((s.n + us.length) * i.size) = _
      rw [List.flatten_append, Nat.add_mul, ← hvf, ← hxl, ← List.length_append, List.take_left]
  have growC : ∀ o, Chg (s.own.filter fun b => !A.contains b) w (w.drew.alloc o) := fun o => Chg.ext (((Chg.refl [] w).drew).trans (Ext.alloc _ _))
  by_cases hcap : s.n + us.length ≤ s.c
  · -- there is room: it is a row of the call's own
    have hown' : s.own = s.blk := by unfold Sl.own; rw [if_neg (by omega)]
    have hown : Own A w s i.size T vs := by
      rcases h with h | ⟨h, _⟩
      · exact h
      · omega
    rcases hown.at_ with e | ⟨g, cur, e1, e2, e3, e4, e5⟩
    · have e1 : s.n = 0 := by rw [e]
      have e2 : s.c = 0 := by rw [e]
      omega
    · have hg : w.heap[g]? = some (.cells cur.toArray T (0, 0)) := e3
      have hfit : s.n * i.size + us.flatten.length ≤ cur.toArray.size := by
        rw [hxl, ← Nat.add_mul]; simp only [List.size_toArray]; rw [e4]; exact Nat.mul_le_mul_right _ hcap
      have hrun := run_append_room (P := P) w t ty T i ht hi0 g s.n s.c cur.toArray hg px us.length x.c us.flatten hxl hxf.2 h1 hcap hfit
      refine ⟨⟨some ⟨g, 0, none⟩, s.n + us.length, s.c⟩, w.setRow g ((cur.toArray.toList.take (s.n * i.size) ++ us.flatten ++ cur.toArray.toList.drop (s.n * i.size + us.flatten.length)).toArray), ?_, ?_, (setRow_chg w g _).mono (by rw [hown']; simp [Sl.blk, e1, e2]), by rw [hown']; simp [Sl.blk, e1], ?_⟩
      · rw [hvx]; unfold Sl.v; rw [e1]; exact hrun
      · refine ⟨by simp [hvl], hcap, hown.most, each, .inr ⟨g, cur.take (s.n * i.size) ++ us.flatten ++ cur.drop (s.n * i.size + us.flatten.length), rfl, e2, ?_, ?_, ?_⟩⟩
        · unfold Box; exact setRow_heap w g cur.toArray _ T _ hg
        · simp only [List.length_append, List.length_take, List.length_drop]
          simp only [List.size_toArray] at hfit
          omega
        · show List.take ((s.n + us.length) * i.size) _ = _
          rw [e5, List.flatten_append, Nat.add_mul, ← hxl, ← hvf, ← List.length_append, List.take_left]
      · refine ⟨ho.len, ho.cap, ho.most, ho.each, .inr ⟨g, cur.take (s.n * i.size) ++ us.flatten ++ cur.drop (s.n * i.size + us.flatten.length), e1, e2, ?_, ?_, ?_⟩⟩
        · unfold Box; exact setRow_heap w g cur.toArray _ T _ hg
        · simp only [List.length_append, List.length_take, List.length_drop]
          simp only [List.size_toArray] at hfit
          omega
        · rw [List.append_assoc, e5, ← hvf, List.take_left]
  · -- a new row
    cases hsa : s.a with
    | none =>
      have hn0 : s.n = 0 := by
        cases hv : vs with
        | nil => rw [hvl, hv]; rfl
        | cons v0 vr => obtain ⟨p, hp, _⟩ := hr.at_ 0 (by rw [hv]; simp); rw [hsa] at hp; cases hp
      have hv0 : vs = [] := List.eq_nil_of_length_eq_zero (by omega)
      have hc0 : s.c = 0 := by
        rcases h with h | ⟨h, _⟩
        · rcases h.at_ with e | ⟨g, cur, e1, _⟩
          · rw [e]
          · rw [hsa] at e1; cases e1
        · omega
      have hrun := run_append_nil (P := P) w t ty T i z ht hi0 hz px us.length x.c us.flatten hxl hxf.2 hul (by omega) (by have := hbytes; rw [hn0, Nat.zero_add] at this; omega)
      have hg := grown 0 (by omega)
      rw [hn0, hv0] at hg
      simp only [Nat.zero_add, List.flatten_nil, Array.empty_append, List.nil_append] at hg
      refine ⟨_, _, ?_, by rw [hv0, List.nil_append]; exact hg, growC _, by simp [Sl.blk], ho.ext (((Chg.refl [] w).drew).trans (Ext.alloc _ _))⟩
      rw [hvx]; unfold Sl.v; rw [hsa, hn0, hc0]
      exact hrun
    | some p =>
      have hflat := hr.flat hsa
      have hrun := run_append_grow (P := P) w t ty T i z ht hi0 hz p s.n s.c vs.flatten hvf hflat.2 px us.length x.c us.flatten hxl hxf.2 (by omega) (by omega) (growslice_fits (by omega) hbytes)
      refine ⟨_, _, ?_, grown s.c (by omega), growC _, by simp [Sl.blk], ho.ext (((Chg.refl [] w).drew).trans (Ext.alloc _ _))⟩
      rw [hvx]; unfold Sl.v; rw [hsa]
      exact hrun


end Go.Proofs.Yteohbfaechfliaa
