/-
  The laws of chapter 5: TreeSpoilt.
-/
import Derived.Test.YteohbfaechfliaaTreeH
namespace Go.Proofs.Yteohbfaechfliaa
open Go.RowKit

theorem putAt_right (us : List Value) : ∀ (l m : List Value) (o : Nat), putAt (l ++ m) (l.length + o) us = l ++ putAt m o us := by
  induction us with
  | nil => intro l m o; rfl
  | cons u us ih =>
    intro l m o
    rw [putAt, putAt, List.set_append_right _ _ (by omega), show l.length + o - l.length = o by omega, Nat.add_assoc, ih]
theorem putAt_left (us : List Value) : ∀ (v m : List Value) (o : Nat), o + us.length ≤ v.length → putAt (v ++ m) o us = putAt v o us ++ m := by
  induction us with
  | nil => intro v m o _; rfl
  | cons u us ih =>
    intro v m o h
    simp only [List.length_cons] at h
    rw [putAt, putAt, List.set_append_left _ _ (by omega), ih _ _ _ (by simp; omega)]
theorem putAt_len (us : List Value) : ∀ (v : List Value) (o : Nat), (putAt v o us).length = v.length := by
  induction us with
  | nil => intro v o; rfl
  | cons u us ih => intro v o; rw [putAt, ih, List.length_set]

/-- One group of an own row is written, or a part of it. -/
theorem Own.put {A : List Nat} {w w' : World} {s : Sl} {size g o j : Nat} {T : TypeId} {vs : List (List Value)} {cur us : List Value} (h : Own A w s size T vs) (ha : s.a = some ⟨g, 0, none⟩) (hb : Box w g T cur) (hj : j < vs.length) (ho : o + us.length ≤ size) (hb' : Box w' g T (putAt cur (j * size + o) us)) :
    Own A w' s size T (vs.set j (putAt (vs.getD j []) o us)) := by
  have hl := h.len
  have hv : (vs.getD j []).length = size := h.each _ (by rw [List.getD_eq_getElem?_getD, List.getElem?_eq_getElem hj]; exact List.getElem_mem hj)
  refine ⟨by rw [List.length_set]; exact hl, h.cap, h.most, fun u hu => ?_, .inr ⟨g, putAt cur (j * size + o) us, ha, ?_, hb', ?_, ?_⟩⟩
  · rcases List.mem_or_eq_of_mem_set hu with hu | hu
    · exact h.each u hu
    · rw [hu, putAt_len]; exact hv
  · rcases h.at_ with e | ⟨g', cur', h1, h2, _⟩
    · rw [e] at ha; cases ha
    · rw [ha] at h1; cases h1; exact h2
  all_goals
    rcases h.at_ with e | ⟨g', cur', h1, h2, h3, h4, h5⟩
    · rw [e] at ha; cases ha
    · rw [ha] at h1
      cases h1
      have e : cur = cur' := by unfold Box at hb h3; rw [hb] at h3; simpa using h3
      subst e
      first
      | rw [putAt_len]; exact h4
      | have hsplit : vs = vs.take j ++ vs.getD j [] :: vs.drop (j + 1) := by
          rw [List.getD_eq_getElem?_getD, List.getElem?_eq_getElem hj]
          exact (List.take_append_drop j vs).symm.trans (by rw [List.drop_eq_getElem_cons hj]; rfl)
        have hset : vs.set j (putAt (vs.getD j []) o us) = vs.take j ++ putAt (vs.getD j []) o us :: vs.drop (j + 1) := by
          rw [List.set_eq_take_append_cons_drop, if_pos hj]
        have hcur : cur = vs.flatten ++ cur.drop (s.n * size) := by rw [← h5, List.take_append_drop]
        have hjl : (vs.take j).flatten.length = j * size := by
          rw [flatten_len (vs.take j) (fun u hu => h.each u (List.mem_of_mem_take hu)), List.length_take, Nat.min_eq_left (by omega)]
        have hfl : vs.flatten = (vs.take j).flatten ++ (vs.getD j [] ++ (vs.drop (j + 1)).flatten) := by
          conv => lhs; rw [hsplit]
          rw [List.flatten_append, List.flatten_cons]
        have hlen : vs.flatten.length = s.n * size := by rw [flatten_len vs h.each, hl]
        have e1 : cur = (vs.take j).flatten ++ (vs.getD j [] ++ ((vs.drop (j + 1)).flatten ++ cur.drop (s.n * size))) := by
          conv => lhs; rw [hcur, hfl]
          simp only [List.append_assoc]
        have e2 : putAt cur (j * size + o) us = (vs.take j).flatten ++ (putAt (vs.getD j []) o us ++ ((vs.drop (j + 1)).flatten ++ cur.drop (s.n * size))) := by
          conv => lhs; rw [e1]
          rw [← hjl, putAt_right, putAt_left _ _ _ _ (by omega)]
        generalize cur.drop (s.n * size) = rest at e2
        rw [e2, hset, List.flatten_append, List.flatten_cons]
        have e3 : ((vs.take j).flatten ++ (putAt (vs.getD j []) o us ++ (vs.drop (j + 1)).flatten)).length = s.n * size := by
          rw [← hlen, hfl]; simp only [List.length_append, putAt_len]
        have e4 : (vs.take j).flatten ++ (putAt (vs.getD j []) o us ++ ((vs.drop (j + 1)).flatten ++ rest)) = ((vs.take j).flatten ++ (putAt (vs.getD j []) o us ++ (vs.drop (j + 1)).flatten)) ++ rest := by simp only [List.append_assoc]
        rw [← e3, e4, List.take_left]

theorem set_zipWith {ts : List T} {ps : List (Sl × Sl)} {j : Nat} {t : T} {p : Sl × Sl} (hl : ps.length = ts.length) : (List.zipWith tc ts ps).set j (tc t p) = List.zipWith tc (ts.set j t) (ps.set j p) := by
  induction ts generalizing ps j with
  | nil => simp
  | cons a ts ih =>
    cases ps with
    | nil => simp at hl
    | cons q ps =>
      cases j with
      | zero => simp
      | succ j => simp [ih (ps := ps) (by simpa using hl)]

/-- One tree of a nursery is written over. -/
theorem Nur.set {A : List Nat} {w : World} {s : Sl} {ts : List T} (h : Nur A w s ts) {j : Nat} (hj : j < ts.length) :
    ∃ (g : Nat) (cur : List Value) (p : Sl × Sl), s.a = some ⟨g, 0, none⟩ ∧ g ∉ A ∧ Box w g 26 cur ∧ j * 5 + 5 ≤ cur.length ∧ RdT (s.blk ++ A) w (ts.getD j T.nul) p.1 p.2 ∧
      ∀ {w1 w' : World} {o : Nat} {cells : List Value} {t' : T} {p' : Sl × Sl}, Ext w w1 → Chg [g] w1 w' → Box w' g 26 (putAt cur (j * 5 + o) cells) → o + cells.length ≤ 5 → putAt (tc (ts.getD j T.nul) p) o cells = tc t' p' → RdT (s.blk ++ A) w1 t' p'.1 p'.2 → Nur A w' s (ts.set j t') := by
  obtain ⟨ps, hl, ho, hr⟩ := h
  have hz : (List.zipWith tc ts ps).length = ts.length := by simp [hl]
  have hn := ho.len
  rcases ho.at_ with e | ⟨g, cur, h1, h2, h3, h4, h5⟩
  · rw [e] at hn; simp [Sl.nil, hl] at hn; omega
  have hp : j < ps.length := by omega
  have ht : ts[j]? = some (ts.getD j T.nul) := by rw [List.getD_eq_getElem?_getD, List.getElem?_eq_getElem hj]; rfl
  have hps : ps[j]? = some ps[j] := List.getElem?_eq_getElem hp
  have hgb : g ∈ s.blk := by simp [Sl.blk, h1]
  refine ⟨g, cur, ps[j], h1, h2, h3, ?_, hr j _ _ ht hps, ?_⟩
  · have h6 : s.n * 5 ≤ cur.length := by rw [h4]; exact Nat.mul_le_mul_right _ ho.cap
    omega
  · intro w1 w' o cells t' p' hE hC hB hle hput hrd
    have hown := (ho.ext hE).put h1 (h3.ext hE) (by rw [hz]; exact hj) hle hB
    have eg : (List.zipWith tc ts ps).getD j [] = tc (ts.getD j T.nul) ps[j] := by
      simp [List.getD_eq_getElem?_getD, hj, hp, List.getElem?_zipWith]
    rw [eg, hput, set_zipWith hl] at hown
    refine ⟨ps.set j p', by simp [hl], hown, fun i t p hti hpi => ?_⟩
    have hF : ∀ b ∈ [g], b ∈ s.blk ++ A := by simpa using .inl hgb
    by_cases hij : i = j
    · subst hij
      rw [List.getElem?_set_self hj] at hti
      rw [List.getElem?_set_self hp] at hpi
      cases hti; cases hpi
      exact hrd.chg hC hF
    · rw [List.getElem?_set_ne (fun e => hij e.symm)] at hti hpi
      exact ((hr i t p hti hpi).ext hE).chg hC hF

theorem RdT.rekind {A : List Nat} {w : World} {t : T} {sa sk : Sl} (h : RdT A w t sa sk) (k : Int) : RdT A w (.node k t.name t.text t.attrs t.kids) sa sk := by
  cases h with | mk ps ha hl hk h => exact .mk ps ha hl hk h

theorem bulk_set {us : List T} {j : Nat} (u : T) : ((us.set j u).map T.bulk).sum ≤ (us.map T.bulk).sum + u.bulk := by
  induction us generalizing j with
  | nil => simp
  | cons a r ih =>
    cases j with
    | zero => simp; omega
    | succ j => have := ih (j := j); simp only [List.set_cons_succ, List.map_cons, List.sum_cons]; omega

/-- A tree with one kid that may not be may not be. -/
theorem spoilt {us : List T} {j : Nat} (u : T) (hj : j < us.length) (hu : nodeOk u = false) : (grownT (us.set j u)).check = false := by
  have hk : kidsOk (grownT (us.set j u)) = false := by
    unfold kidsOk
    rw [List.all_eq_false]
    exact ⟨u, by show u ∈ us.set j u; exact List.mem_set hj u, by rw [hu]; simp⟩
  unfold T.check
  rw [hk, Bool.and_false]

end Go.Proofs.Yteohbfaechfliaa
