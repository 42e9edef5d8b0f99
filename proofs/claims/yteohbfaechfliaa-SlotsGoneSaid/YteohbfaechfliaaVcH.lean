/-
  Orders, further: operations without effect may float: done or not done while others come.
-/
import Derived.Test.YteohbfaechfliaaVcG
namespace Go.Proofs.Yteohbfaechfliaa
open Go.RowKit

theorem cell_apart {w : World} {p : Addr} {v : Value} {B : Nat} (h : w.cell? p = some v) (hB : w.heap.size ≤ B) : p.block ∉ [B] := by
  have := World.block_lt_of_cell? w _ h
  simp; omega
theorem Cells.apart {w : World} {p : Addr} {c : Value} {cs : List Value} {B : Nat} (h : Cells w p (c :: cs)) (hB : w.heap.size ≤ B) : p.block ∉ [B] := by
  have := cell_apart (h 0 c rfl) hB
  rwa [Addr.add_block] at this

section
variable {P : Program} {ops : Array Oper} {Q : Exit → Act → World → Prop}

/-- What is in neither T nor S' waits for all of E. -/
def waitE (ops : Array Oper) (D : List (List Nat)) (T S E : List Nat) : Bool := (List.range ops.size).all fun j => T.contains j || S.contains j || E.all fun i => (D.getD j []).contains i

/-- While the operations of S come, until all of E have. -/
theorem mid_runX {X : Array Bool → Act → World → Prop} {Y : Nat → Value → World → World → Prop} {D : List (List Nat)} {T S E : List Nat} {F : List Nat} {V : Nat → Value → World → Prop} {n : Nat} {a0 : Act} {w0 : World} {L : List (Nat × Value)} (hA : Ag n a0 L)
    (hb : backOk ops = true) (hc : certOk ops D = true) (hES : ∀ e ∈ E, e ∈ S) (hw : waitE ops D T S E = true) (hdst : dstOk ops S = true) (hin : inOk ops n S = true)
    (stab : ∀ i ∈ S, ∀ v w w', Chg F w w' → V i v w → V i v w')
    (each : ∀ i ∈ S, ∀ o, ops[i]? = some o → ∀ a w, a.tmps.size = n → a.defers = [] → Chg F w0 w → (∀ t, (∀ j ∈ S, (ops[j]?).bind (·.dst) ≠ some t) → a.tmps.getD t undef = a0.tmps.getD t undef) →
      (∀ j ∈ S, j ∈ D.getD i [] → ∀ t, (ops[j]?).bind (·.dst) = some t → V j (a.tmps.getD t undef) w) →
      opK P ops Q o (fun a' w' => ∃ v, a' = a.put o.dst v ∧ Chg F w w' ∧ (o.dst.isSome = true → V i v w') ∧ Y i v w w') a w)
    (stepX : ∀ listed a w i o v w', Mid D T S ops F V a0 w0 listed a w → X listed a w → i ∈ S → ops[i]? = some o → listed.getD i false = false → i < listed.size → Chg F w w' → Y i v w w' → X (listed.setIfInBounds i true) (a.put o.dst v) w')
    (fin : ∀ fuel listed a w, Mid D T S ops F V a0 w0 listed a w → X listed a w → (∀ e ∈ E, listed.getD e false = true) → listed.toList.count false ≤ fuel → wpAny P .any ops Q fuel listed a w) :
    ∀ fuel listed a w, Mid D T S ops F V a0 w0 listed a w → X listed a w → listed.toList.count false ≤ fuel → wpAny P .any ops Q fuel listed a w := by
  intro fuel
  induction fuel with
  | zero =>
    intro listed a w hM hX hcount
    have hall : ∀ i, i < ops.size → listed.getD i false = true := by
      intro i hi
      have h0 : listed.toList.count false = 0 := by omega
      have hn := List.count_eq_zero.1 h0
      have hsz : i < listed.size := by rw [hM.size]; exact hi
      cases hv : listed[i] with
      | true => simp [Array.getD, hsz, hv]
      | false => exact absurd (by rw [← hv]; exact Array.mem_toList_iff.2 (Array.getElem_mem hsz)) hn
    refine fin 0 listed a w hM hX (fun e he => hall e ?_) hcount
    simp only [inOk, List.all_eq_true, Bool.and_eq_true, decide_eq_true_eq] at hin
    exact (hin e (hES e he)).1
  | succ fuel ih =>
    intro listed a w hM hX hcount
    by_cases hall : ∀ i ∈ E, listed.getD i false = true
    · exact fin (fuel + 1) listed a w hM hX hall hcount
    · have ⟨i0, hi0⟩ := Classical.not_forall.1 hall
      have ⟨hi0S, hi0l⟩ := Classical.not_imp.1 hi0
      have hi0l' : listed.getD i0 false = false := by simpa using hi0l
      simp only [inOk, List.all_eq_true, Bool.and_eq_true, decide_eq_true_eq] at hin
      have hrs := ready_some hb hM.size i0 (hin i0 (hES i0 hi0S)).1 hi0l'
      refine ⟨fun h => absurd h hrs, fun i hi => ?_⟩
      have hcl := cert_listed hc hM.closed hi
      obtain ⟨h1, o, ho, h2⟩ := mem_ready.1 hi
      have hlt : i < ops.size := (Array.getElem?_eq_some_iff.1 ho).1
      have hil : listed.getD i false = false := by simp [Array.getD, hM.size, hlt] at h1 ⊢; exact h1
      have hiS : i ∈ S := by
        simp only [waitE, List.all_eq_true, List.mem_range, Bool.or_eq_true, List.contains_iff_mem] at hw
        rcases hw i hlt with (hT | hS) | hall'
        · rw [hM.old i hT hlt] at hil; cases hil
        · exact hS
        · have := hcl i0 (hall' i0 hi0S)
          rw [hi0l'] at this; cases this
      refine wpOp_of_opK ho (opK_mono (each i hiS o ho a w (by rw [hM.tsize, hA.size]) (by rw [hM.defers, hA.defs]) hM.chg hM.same (fun j hj hjD t ht => hM.vals j hj (hcl j hjD) t ht)) fun a' w' ⟨v, hav, hchg, hV, hY⟩ => ?_)
      refine ih _ a' w' ?_ (by subst hav; exact stepX listed a w i o v w' hM hX hiS ho hil (by rw [hM.size]; exact hlt) hchg hY) (by have := count_set listed i (by rw [hM.size]; exact hlt) h1; omega)
      have hils : i < listed.size := by rw [hM.size]; exact hlt
      subst hav
      have hdsti : (ops[i]?).bind (·.dst) = o.dst := by rw [ho]; rfl
      refine ⟨by simp [hM.size], fun j hj => ?_, fun j hj hjl => ?_, fun j hj x hx => ?_, hM.chg.trans hchg, ?_, ?_, fun t ht => ?_, fun j hj hjl t ht => ?_⟩
      · rw [getD_set _ _ _ hils] at hj
        split at hj
        · rename_i e; exact .inr (e ▸ hiS)
        · exact hM.only j hj
      · rw [getD_set _ _ _ hils]
        split
        · rfl
        · exact hM.old j hj hjl
      · rw [getD_set _ _ _ hils] at hj ⊢
        split
        · rfl
        · split at hj
          · rename_i e; subst e; exact hcl x hx
          · exact hM.closed j hj x hx
      · cases hd' : o.dst <;> simp [Act.put, hM.tsize]
      · cases hd' : o.dst <;> simp [Act.put, hM.defers]
      · have hne : o.dst ≠ some t := by rw [← hdsti]; exact ht i hiS
        rw [← hM.same t ht]
        cases hd' : o.dst with
        | none => rfl
        | some d => exact getD_setIfInBounds_ne _ _ _ _ _ (fun e => hne (by rw [hd', e]))
      · by_cases e : j = i
        · subst e
          rw [hdsti] at ht
          rw [ht] at hV ⊢
          have hdn : t < a.tmps.size := by
            have := (hin j hj).2
            rw [hdsti, ht] at this
            rw [hM.tsize, hA.size]
            simpa using this
          show V j ((a.tmps.setIfInBounds t v).getD t undef) w'
          rw [getD_setIfInBounds_self _ _ _ _ hdn]
          exact hV rfl
        · have hjl' : listed.getD j false = true := by
            rw [getD_set _ _ _ hils, if_neg e] at hjl; exact hjl
          have hv := stab j hj _ _ _ hchg (hM.vals j hj hjl' t ht)
          have hne : o.dst ≠ some t := by
            intro h
            simp only [dstOk, List.all_eq_true, Bool.or_eq_true, beq_iff_eq, bne_iff_ne] at hdst
            rcases hdst i hiS j hj with (h' | h') | h'
            · exact e h'.symm
            · rw [hdsti, h] at h'; cases h'
            · exact h' (by rw [hdsti, h, ht])
          cases hd' : o.dst with
          | none => exact hv
          | some d =>
            show V j ((a.tmps.setIfInBounds d v).getD t undef) w'
            rw [getD_setIfInBounds_ne _ _ _ _ _ (fun e' => hne (by rw [hd', e']))]
            exact hv

theorem mid_run {D : List (List Nat)} {T S E : List Nat} {F : List Nat} {V : Nat → Value → World → Prop} {n : Nat} {a0 : Act} {w0 : World} {L : List (Nat × Value)} (hA : Ag n a0 L)
    (hb : backOk ops = true) (hc : certOk ops D = true) (hES : ∀ e ∈ E, e ∈ S) (hw : waitE ops D T S E = true) (hdst : dstOk ops S = true) (hin : inOk ops n S = true)
    (stab : ∀ i ∈ S, ∀ v w w', Chg F w w' → V i v w → V i v w')
    (each : ∀ i ∈ S, ∀ o, ops[i]? = some o → ∀ a w, a.tmps.size = n → a.defers = [] → Chg F w0 w → (∀ t, (∀ j ∈ S, (ops[j]?).bind (·.dst) ≠ some t) → a.tmps.getD t undef = a0.tmps.getD t undef) →
      (∀ j ∈ S, j ∈ D.getD i [] → ∀ t, (ops[j]?).bind (·.dst) = some t → V j (a.tmps.getD t undef) w) →
      opK P ops Q o (fun a' w' => ∃ v, a' = a.put o.dst v ∧ Chg F w w' ∧ (o.dst.isSome = true → V i v w')) a w)
    (fin : ∀ fuel listed a w, Mid D T S ops F V a0 w0 listed a w → (∀ e ∈ E, listed.getD e false = true) → listed.toList.count false ≤ fuel → wpAny P .any ops Q fuel listed a w) :
    ∀ fuel listed a w, Mid D T S ops F V a0 w0 listed a w → listed.toList.count false ≤ fuel → wpAny P .any ops Q fuel listed a w :=
  fun fuel listed a w hM hcount => mid_runX (X := fun _ _ _ => True) (Y := fun _ _ _ _ => True) hA hb hc hES hw hdst hin stab (fun i hi o ho a w h1 h2 h3 h4 h5 => opK_mono (each i hi o ho a w h1 h2 h3 h4 h5) fun a' w' ⟨v, h1, h2, h3⟩ => ⟨v, h1, h2, h3, trivial⟩)
    (fun _ _ _ _ _ _ _ _ _ _ _ _ _ _ _ => trivial) (fun fuel listed a w hM _ h1 h2 => fin fuel listed a w hM h1 h2) fuel listed a w hM trivial hcount

/-- The operations of T have come, of those of Fs some. -/
def PRF (P : Program) (ops : Array Oper) (Q : Exit → Act → World → Prop) (D : List (List Nat)) (T Fs : List Nat) (V : Nat → Value → World → Prop) (a0 : Act) (w0 : World) : Prop :=
  ∀ fuel listed a, Mid D T Fs ops [] V a0 w0 listed a w0 → listed.toList.count false ≤ fuel → wpAny P .any ops Q fuel listed a w0

theorem PRF_start {D : List (List Nat)} {T Fs : List Nat} {V : Nat → Value → World → Prop} {a0 : Act} {w0 : World} (hc : certOk ops D = true) (hd : doneOk D T = true) (hap : apartOk T Fs = true) (h : PRF P ops Q D T Fs V a0 w0) : PR P ops Q T a0 w0 := by
  intro fuel listed hs hl hcount
  refine h fuel listed a0 ⟨hs, fun i hi => ?_, fun i hi hlt => (hl i hlt).2 hi, fun j hj x hx => ?_, Chg.refl _ _, rfl, rfl, fun _ _ => rfl, fun i hi hli t ht => ?_⟩ hcount
  · have hlt : i < ops.size := by
      rcases Nat.lt_or_ge i ops.size with h | h
      · exact h
      · simp [Array.getD, hs, Nat.not_lt.2 h] at hi
    exact .inl ((hl i hlt).1 hi)
  · have hlt : j < ops.size := by
      rcases Nat.lt_or_ge j ops.size with h | h
      · exact h
      · simp [Array.getD, hs, Nat.not_lt.2 h] at hj
    have hjT := (hl j hlt).1 hj
    simp only [doneOk, List.all_eq_true, List.contains_iff_mem] at hd
    have hxT := hd j hjT x hx
    have hxlt : x < ops.size := by
      simp only [certOk, List.all_eq_true, List.mem_range, Bool.and_eq_true, decide_eq_true_eq] at hc
      have := (hc j hlt x hx).1
      omega
    exact (hl x hxlt).2 hxT
  · have hlt : i < ops.size := by
      cases ho : ops[i]? with
      | none => rw [ho] at ht; cases ht
      | some o => exact (Array.getElem?_eq_some_iff.1 ho).1
    have hiT := (hl i hlt).1 hli
    simp only [apartOk, List.all_eq_true, Bool.not_eq_true', ← Bool.not_eq_true, List.contains_iff_mem] at hap
    exact absurd hiT (hap i hi)

theorem Mid.wider {D : List (List Nat)} {T S Fs F : List Nat} {V : Nat → Value → World → Prop} {a0 a : Act} {w0 : World} {listed : Array Bool} (hM : Mid D T Fs ops [] V a0 w0 listed a w0) (hap : apartOk T S = true) (hap2 : apartOk Fs S = true) : Mid D T (S ++ Fs) ops F V a0 w0 listed a w0 := by
  refine ⟨hM.size, fun i hi => (hM.only i hi).imp_right (fun h => List.mem_append.2 (.inr h)), hM.old, hM.closed, Chg.refl _ _, hM.tsize, hM.defers, fun t ht => hM.same t (fun i hi => ht i (List.mem_append.2 (.inr hi))), fun i hi hli t ht => ?_⟩
  rcases List.mem_append.1 hi with hS | hF
  · exfalso
    simp only [apartOk, List.all_eq_true, Bool.not_eq_true', ← Bool.not_eq_true, List.contains_iff_mem] at hap hap2
    rcases hM.only i hli with h | h
    · exact hap i hS h
    · exact hap2 i hS h
  · exact hM.vals i hF hli t ht

/-- Some that must come, while others float. -/
theorem PRF_seg {D : List (List Nat)} {T S Fs : List Nat} {F : List Nat} {V : Nat → Value → World → Prop} {n : Nat} {a0 : Act} {w0 : World} {L : List (Nat × Value)} (hA : Ag n a0 L)
    (hb : backOk ops = true) (hc : certOk ops D = true) (hw : waitE ops D T (S ++ Fs) S = true) (hdst : dstOk ops (S ++ Fs) = true) (hin : inOk ops n (S ++ Fs) = true) (hap : apartOk T S = true) (hap2 : apartOk Fs S = true)
    (stab : ∀ i ∈ S ++ Fs, ∀ v w w', Chg F w w' → V i v w → V i v w')
    (each : ∀ i ∈ S ++ Fs, ∀ o, ops[i]? = some o → ∀ a w, a.tmps.size = n → a.defers = [] → Chg F w0 w → (∀ t, (∀ j ∈ S ++ Fs, (ops[j]?).bind (·.dst) ≠ some t) → a.tmps.getD t undef = a0.tmps.getD t undef) →
      (∀ j ∈ S ++ Fs, j ∈ D.getD i [] → ∀ t, (ops[j]?).bind (·.dst) = some t → V j (a.tmps.getD t undef) w) →
      opK P ops Q o (fun a' w' => ∃ v, a' = a.put o.dst v ∧ Chg F w w' ∧ (o.dst.isSome = true → V i v w')) a w)
    (fin : ∀ a w, a.tmps.size = n → a.defers = [] → Chg F w0 w → (∀ t, (∀ j ∈ S ++ Fs, (ops[j]?).bind (·.dst) ≠ some t) → a.tmps.getD t undef = a0.tmps.getD t undef) →
      (∀ j ∈ S, ∀ t, (ops[j]?).bind (·.dst) = some t → V j (a.tmps.getD t undef) w) → PRF P ops Q D (T ++ S) Fs V a w) : PRF P ops Q D T Fs V a0 w0 := by
  intro fuel listed a hM hcount
  refine mid_run (E := S) hA hb hc (fun e he => List.mem_append.2 (.inl he)) hw hdst hin stab each (fun fuel listed a w hM hall hcount => ?_) fuel listed a w0 (hM.wider hap hap2) hcount
  refine fin a w (by rw [hM.tsize, hA.size]) (by rw [hM.defers, hA.defs]) hM.chg hM.same (fun j hj t ht => hM.vals j (List.mem_append.2 (.inl hj)) (hall j hj) t ht) fuel listed a ?_ hcount
  refine ⟨hM.size, fun i hi => ?_, fun i hi hlt => ?_, hM.closed, Chg.refl _ _, rfl, rfl, fun _ _ => rfl, fun i hi hli t ht => hM.vals i (List.mem_append.2 (.inr hi)) hli t ht⟩
  · rcases hM.only i hi with h | h
    · exact .inl (List.mem_append.2 (.inl h))
    · rcases List.mem_append.1 h with h | h
      · exact .inl (List.mem_append.2 (.inr h))
      · exact .inr h
  · rcases List.mem_append.1 hi with h | h
    · exact hM.old i h hlt
    · exact hall i h

/-- Those that float have come. -/
theorem PRF_join {D : List (List Nat)} {T Fs : List Nat} {V : Nat → Value → World → Prop} {n : Nat} {a0 : Act} {w0 : World} {L : List (Nat × Value)} (hA : Ag n a0 L)
    (hb : backOk ops = true) (hc : certOk ops D = true) (hw : waitE ops D T Fs Fs = true) (hdst : dstOk ops Fs = true) (hin : inOk ops n Fs = true)
    (stab : ∀ i ∈ Fs, ∀ v w w', Chg [] w w' → V i v w → V i v w')
    (each : ∀ i ∈ Fs, ∀ o, ops[i]? = some o → ∀ a w, a.tmps.size = n → a.defers = [] → Chg [] w0 w → (∀ t, (∀ j ∈ Fs, (ops[j]?).bind (·.dst) ≠ some t) → a.tmps.getD t undef = a0.tmps.getD t undef) →
      (∀ j ∈ Fs, j ∈ D.getD i [] → ∀ t, (ops[j]?).bind (·.dst) = some t → V j (a.tmps.getD t undef) w) →
      opK P ops Q o (fun a' w' => ∃ v, a' = a.put o.dst v ∧ Chg [] w w' ∧ (o.dst.isSome = true → V i v w')) a w)
    (fin : ∀ a w, a.tmps.size = n → a.defers = [] → Chg [] w0 w → (∀ t, (∀ j ∈ Fs, (ops[j]?).bind (·.dst) ≠ some t) → a.tmps.getD t undef = a0.tmps.getD t undef) →
      (∀ j ∈ Fs, ∀ t, (ops[j]?).bind (·.dst) = some t → V j (a.tmps.getD t undef) w) → PR P ops Q (T ++ Fs) a w) : PRF P ops Q D T Fs V a0 w0 := by
  intro fuel listed a hM hcount
  refine mid_run (E := Fs) hA hb hc (fun e he => he) hw hdst hin stab each (fun fuel listed a w hM hall hcount => ?_) fuel listed a w0 hM hcount
  refine fin a w (by rw [hM.tsize, hA.size]) (by rw [hM.defers, hA.defs]) hM.chg hM.same (fun j hj t ht => hM.vals j hj (hall j hj) t ht) fuel listed hM.size (fun i hi => ?_) hcount
  exact ⟨fun h => List.mem_append.2 (hM.only i h), fun h => (List.mem_append.1 h).elim (fun h => hM.old i h hi) (fun h => hall i h)⟩

/-- **One that must come next, while others float.** -/
theorem PRF_one {D : List (List Nat)} {T Fs : List Nat} {c : Nat} {oc : Oper} {V : Nat → Value → World → Prop} {n : Nat} {a0 : Act} {w0 : World} {L : List (Nat × Value)} (hA : Ag n a0 L)
    (hb : backOk ops = true) (hc : certOk ops D = true) (hw : waitE ops D T (c :: Fs) [c] = true) (hdst : dstOk ops (c :: Fs) = true) (hin : inOk ops n (c :: Fs) = true) (hap : apartOk T [c] = true) (hap2 : apartOk Fs [c] = true) (hoc : ops[c]? = some oc)
    (const : ∀ i ∈ Fs, ∀ v w w', V i v w → V i v w')
    (each : ∀ i ∈ Fs, ∀ o, ops[i]? = some o → ∀ a, a.tmps.size = n → a.defers = [] → (∀ t, (∀ j ∈ Fs, (ops[j]?).bind (·.dst) ≠ some t) → a.tmps.getD t undef = a0.tmps.getD t undef) →
      (∀ j ∈ Fs, j ∈ D.getD i [] → ∀ t, (ops[j]?).bind (·.dst) = some t → V j (a.tmps.getD t undef) w0) →
      opK P ops Q o (fun a' w' => ∃ v, a' = a.put o.dst v ∧ w' = w0 ∧ (o.dst.isSome = true → V i v w')) a w0)
    (core : ∀ a, a.tmps.size = n → a.defers = [] → (∀ t, (∀ j ∈ Fs, (ops[j]?).bind (·.dst) ≠ some t) → a.tmps.getD t undef = a0.tmps.getD t undef) →
      (∀ j ∈ Fs, j ∈ D.getD c [] → ∀ t, (ops[j]?).bind (·.dst) = some t → V j (a.tmps.getD t undef) w0) →
      opK P ops Q oc (fun a' w' => ∃ v, a' = a.put oc.dst v ∧ PRF P ops Q D (T ++ [c]) Fs V a' w') a w0) : PRF P ops Q D T Fs V a0 w0 := by
  have hlc : c < ops.size := (Array.getElem?_eq_some_iff.1 hoc).1
  have hcT : c ∉ T := by
    simp only [apartOk, List.all_eq_true, Bool.not_eq_true', ← Bool.not_eq_true, List.contains_iff_mem] at hap
    exact hap c (by simp)
  have hcF : c ∉ Fs := by
    simp only [apartOk, List.all_eq_true, Bool.not_eq_true', ← Bool.not_eq_true, List.contains_iff_mem] at hap2
    exact hap2 c (by simp)
  have hdst' := hdst
  simp only [dstOk, List.all_eq_true, Bool.or_eq_true, beq_iff_eq, bne_iff_ne] at hdst'
  have hin' := hin
  simp only [inOk, List.all_eq_true, Bool.and_eq_true, decide_eq_true_eq] at hin'
  have sep : ∀ i ∈ c :: Fs, ∀ j ∈ c :: Fs, j ≠ i → ∀ t, (ops[j]?).bind (·.dst) = some t → (ops[i]?).bind (·.dst) ≠ some t := by
    intro i hi j hj e t ht h
    rcases hdst' i hi j hj with (h' | h') | h'
    · exact e h'.symm
    · rw [h] at h'; cases h'
    · exact h' (by rw [h, ht])
  have putne : ∀ (a : Act) (o : Oper) (v : Value) (t : Nat), o.dst ≠ some t → (a.put o.dst v).tmps.getD t undef = a.tmps.getD t undef := by
    intro a o v t hne
    cases hd' : o.dst with
    | none => rfl
    | some d => exact getD_setIfInBounds_ne _ _ _ _ _ (fun e' => hne (by rw [hd', e']))
  intro fuel
  induction fuel with
  | zero =>
    intro listed a hM hcount
    exfalso
    have hcl : listed.getD c false = false := by
      cases hh : listed.getD c false with
      | false => rfl
      | true => exact ((hM.only c hh).elim hcT hcF).elim
    have h0 : listed.toList.count false = 0 := by omega
    have hn := List.count_eq_zero.1 h0
    have hsz : c < listed.size := by rw [hM.size]; exact hlc
    have hv : listed[c] = false := by simpa [Array.getD, hsz] using hcl
    exact hn (by rw [← hv]; exact Array.mem_toList_iff.2 (Array.getElem_mem hsz))
  | succ fuel ih =>
    intro listed a hM hcount
    have hcl0 : listed.getD c false = false := by
      cases hh : listed.getD c false with
      | false => rfl
      | true => exact ((hM.only c hh).elim hcT hcF).elim
    have hrs := ready_some hb hM.size c hlc hcl0
    refine ⟨fun h => absurd h hrs, fun i hi => ?_⟩
    have hcl := cert_listed hc hM.closed hi
    obtain ⟨h1, o, ho, h2⟩ := mem_ready.1 hi
    have hlt : i < ops.size := (Array.getElem?_eq_some_iff.1 ho).1
    have hils : i < listed.size := by rw [hM.size]; exact hlt
    have hil : listed.getD i false = false := by simp [Array.getD, hM.size, hlt] at h1 ⊢; exact h1
    have hcnt := count_set listed i hils h1
    have hdsti : (ops[i]?).bind (·.dst) = o.dst := by rw [ho]; rfl
    have hiS : i = c ∨ i ∈ Fs := by
      simp only [waitE, List.all_eq_true, List.mem_range, Bool.or_eq_true, List.contains_iff_mem, List.mem_singleton, forall_eq] at hw
      rcases hw i hlt with (hT | hS) | hall'
      · rw [hM.old i hT hlt] at hil; cases hil
      · exact List.mem_cons.1 hS
      · have := hcl c hall'
        rw [hcl0] at this; cases this
    have hclosed : ∀ j, (listed.setIfInBounds i true).getD j false = true → ∀ x ∈ D.getD j [], (listed.setIfInBounds i true).getD x false = true := by
      intro j hj x hx
      rw [getD_set _ _ _ hils] at hj ⊢
      split
      · rfl
      · split at hj
        · rename_i e; subst e; exact hcl x hx
        · exact hM.closed j hj x hx
    rcases hiS with rfl | hiF
    · rw [hoc] at ho; cases ho
      refine wpOp_of_opK hoc (opK_mono (core a (by rw [hM.tsize, hA.size]) (by rw [hM.defers, hA.defs]) hM.same (fun j hj hjD t ht => hM.vals j hj (hcl j hjD) t ht)) fun a' w' ⟨v, hav, hk⟩ => ?_)
      refine hk fuel _ a' ⟨by simp [hM.size], fun j hj => ?_, fun j hj hjl => ?_, hclosed, Chg.refl _ _, rfl, rfl, fun _ _ => rfl, fun j hj hjl t ht => ?_⟩ (by omega)
      · rw [getD_set _ _ _ hils] at hj
        split at hj
        · rename_i e; exact .inl (by simp [e])
        · exact (hM.only j hj).imp_left (fun h => List.mem_append.2 (.inl h))
      · rw [getD_set _ _ _ hils]
        split
        · rfl
        · rename_i e
          rcases List.mem_append.1 hj with h | h
          · exact hM.old j h hjl
          · exact absurd (List.mem_singleton.1 h) e
      · have hjc : j ≠ i := fun e => hcF (e ▸ hj)
        rw [getD_set _ _ _ hils, if_neg hjc] at hjl
        have := hM.vals j hj hjl t ht
        rw [hav, putne a oc v t (by rw [← hdsti]; exact sep i (by simp) j (by simp [hj]) hjc t ht)]
        exact const j hj _ _ _ this
    · refine wpOp_of_opK ho (opK_mono (each i hiF o ho a (by rw [hM.tsize, hA.size]) (by rw [hM.defers, hA.defs]) hM.same (fun j hj hjD t ht => hM.vals j hj (hcl j hjD) t ht)) fun a' w' ⟨v, hav, hw', hV⟩ => ?_)
      subst hw'
      subst hav
      refine ih _ _ ⟨by simp [hM.size], fun j hj => ?_, fun j hj hjl => ?_, hclosed, Chg.refl _ _, ?_, ?_, fun t ht => ?_, fun j hj hjl t ht => ?_⟩ (by omega)
      · rw [getD_set _ _ _ hils] at hj
        split at hj
        · rename_i e; exact .inr (e ▸ hiF)
        · exact hM.only j hj
      · rw [getD_set _ _ _ hils]
        split
        · rfl
        · exact hM.old j hj hjl
      · cases hd' : o.dst <;> simp [Act.put, hM.tsize]
      · cases hd' : o.dst <;> simp [Act.put, hM.defers]
      · rw [← hM.same t ht]
        exact putne a o v t (by rw [← hdsti]; exact ht i hiF)
      · by_cases e : j = i
        · subst e
          rw [hdsti] at ht
          rw [ht] at hV ⊢
          have hdn : t < a.tmps.size := by
            have := (hin' j (by simp [hj])).2
            rw [hdsti, ht] at this
            rw [hM.tsize, hA.size]
            simpa using this
          show V j ((a.tmps.setIfInBounds t v).getD t undef) _
          rw [getD_setIfInBounds_self _ _ _ _ hdn]
          exact hV rfl
        · have hjl' : listed.getD j false = true := by
            rw [getD_set _ _ _ hils, if_neg e] at hjl; exact hjl
          rw [putne a o v t (by rw [← hdsti]; exact sep i (by simp [hiF]) j (by simp [hj]) e t ht)]
          exact hM.vals j hj hjl' t ht

theorem PRF.congr {D : List (List Nat)} {T Fs : List Nat} {V V' : Nat → Value → World → Prop} {a0 : Act} {w0 : World} (hv : ∀ i ∈ Fs, V i = V' i) (h : PRF P ops Q D T Fs V' a0 w0) : PRF P ops Q D T Fs V a0 w0 :=
  fun fuel listed a hM hcount => h fuel listed a ⟨hM.size, hM.only, hM.old, hM.closed, hM.chg, hM.tsize, hM.defers, hM.same, fun i hi hli t ht => by rw [← hv i hi]; exact hM.vals i hi hli t ht⟩ hcount

theorem VL_skip (Ef : List (Nat × (Value → World → Prop))) (i : Nat) : ∀ E : List (Nat × (Value → World → Prop)), ((E.map (·.1)).all fun k => !(Nat.beq i k)) = true → VL (E ++ Ef) i = VL Ef i
  | [], _ => rfl
  | (k, p) :: r, h => by
    simp only [List.map_cons, List.all_cons, Bool.and_eq_true, Bool.not_eq_true'] at h
    have ih := VL_skip Ef i r h.2
    rw [← ih]
    funext v w
    show (bif Nat.beq i k then p v w else VL (r ++ Ef) i v w) = _
    rw [h.1]; rfl

variable {n : Nat} {L : List (Nat × Value)}
theorem startF {D : List (List Nat)} {T Fs : List Nat} {Ef : List (Nat × (Value → World → Prop))} {a0 : Act} {w0 : World} (hchk : (certOk ops D && doneOk D T && apartOk T Fs) = true) (h : PRF P ops Q D T Fs (VL Ef) a0 w0) : PR P ops Q T a0 w0 := by
  simp only [Bool.and_eq_true] at hchk
  exact PRF_start hchk.1.1 hchk.1.2 hchk.2 h

theorem parF {D : List (List Nat)} {T S Fs : List Nat} {F KE : List Nat} {E Ef : List (Nat × (Value → World → Prop))} {a0 : Act} {w0 : World} (hA : Ag n a0 L) (hk : E.map (·.1) = KE)
    (hchk : (backOk ops && certOk ops D && waitE ops D T (S ++ Fs) S && dstOk ops (S ++ Fs) && inOk ops n (S ++ Fs) && apartOk T S && apartOk Fs S && Fs.all (fun i => KE.all fun k => !(Nat.beq i k))) = true)
    (stab : StabS F (VL (E ++ Ef)) (S ++ Fs))
    (each : EachS ops (fun i o => ∀ a w, Turn ops D (S ++ Fs) F (VL (E ++ Ef)) n a0 w0 i a w → opK P ops Q o (Over F (VL (E ++ Ef)) i o.dst a w) a w) (S ++ Fs))
    (fin : ∀ a w, Chg F w0 w → (∀ L', SubL L L' → keysOk ops (S ++ Fs) L' = true → Ag n a L') → (∀ j, S.contains j = true → ∀ t, (ops[j]?).bind (·.dst) = some t → VL (E ++ Ef) j (a.tmps.getD t undef) w) → PRF P ops Q D (T ++ S) Fs (VL Ef) a w) : PRF P ops Q D T Fs (VL Ef) a0 w0 := by
  subst hk
  simp only [Bool.and_eq_true] at hchk
  obtain ⟨⟨⟨⟨⟨⟨⟨h1, h2⟩, h3⟩, h4⟩, h5⟩, h6⟩, h7⟩, h8⟩ := hchk
  have hv : ∀ i ∈ Fs, VL (E ++ Ef) i = VL Ef i := fun i hi => VL_skip Ef i E (List.all_eq_true.1 h8 i hi)
  refine PRF.congr (fun i hi => (hv i hi).symm) (PRF_seg hA h1 h2 h3 h4 h5 h6 h7 stab.mem (fun i hi o ho a w hs hd hc hsame hvv => each.mem i hi o ho a w ⟨hs, hd, hc, hsame, fun j hj t ht => ?_⟩) (fun a w hs hd hc hsame hvv => PRF.congr hv (fin a w hc (fun L' hsub hk => same_ag hA hs hd hsame L' hsub hk) (fun j hj t ht => hvv j (by simpa using hj) t ht))))
  simp only [Bool.and_eq_true, List.contains_iff_mem] at hj
  exact hvv j hj.1 hj.2 t ht

theorem joinF {D : List (List Nat)} {T Fs : List Nat} {Ef : List (Nat × (Value → World → Prop))} {a0 : Act} {w0 : World} (hA : Ag n a0 L)
    (hchk : (backOk ops && certOk ops D && waitE ops D T Fs Fs && dstOk ops Fs && inOk ops n Fs) = true)
    (stab : StabS [] (VL Ef) Fs)
    (each : EachS ops (fun i o => ∀ a w, Turn ops D Fs [] (VL Ef) n a0 w0 i a w → opK P ops Q o (Over [] (VL Ef) i o.dst a w) a w) Fs)
    (fin : ∀ a w, Chg [] w0 w → (∀ L', SubL L L' → keysOk ops Fs L' = true → Ag n a L') → (∀ j, Fs.contains j = true → ∀ t, (ops[j]?).bind (·.dst) = some t → VL Ef j (a.tmps.getD t undef) w) → PR P ops Q (T ++ Fs) a w) : PRF P ops Q D T Fs (VL Ef) a0 w0 := by
  simp only [Bool.and_eq_true] at hchk
  obtain ⟨⟨⟨⟨h1, h2⟩, h3⟩, h4⟩, h5⟩ := hchk
  refine PRF_join hA h1 h2 h3 h4 h5 stab.mem (fun i hi o ho a w hs hd hc hsame hvv => each.mem i hi o ho a w ⟨hs, hd, hc, hsame, fun j hj t ht => ?_⟩) (fun a w hs hd hc hsame hvv => fin a w hc (fun L' hsub hk => same_ag hA hs hd hsame L' hsub hk) (fun j hj t ht => hvv j (by simpa using hj) t ht))
  simp only [Bool.and_eq_true, List.contains_iff_mem] at hj
  exact hvv j hj.1 hj.2 t ht

/-- What a floating operation does. -/
def OverF (V : Nat → Value → World → Prop) (i : Nat) (dst : Option Nat) (a : Act) (w : World) (a' : Act) (w' : World) : Prop := ∃ v, a' = a.put dst v ∧ w' = w ∧ (dst.isSome = true → V i v w')

theorem oneF {D : List (List Nat)} {T Fs : List Nat} {c : Nat} {oc : Oper} {Ef : List (Nat × (Value → World → Prop))} {a0 : Act} {w0 : World} (hA : Ag n a0 L) (hoc : ops[c]? = some oc)
    (hchk : (backOk ops && certOk ops D && waitE ops D T (c :: Fs) [c] && dstOk ops (c :: Fs) && inOk ops n (c :: Fs) && apartOk T [c] && apartOk Fs [c]) = true)
    (const : ∀ i ∈ Fs, ∀ v w w', VL Ef i v w → VL Ef i v w')
    (each : EachS ops (fun i o => ∀ a, Turn ops D Fs [] (VL Ef) n a0 w0 i a w0 → opK P ops Q o (OverF (VL Ef) i o.dst a w0) a w0) Fs)
    (core : ∀ a, Turn ops D Fs [] (VL Ef) n a0 w0 c a w0 → opK P ops Q oc (fun a' w' => ∃ v, a' = a.put oc.dst v ∧ PRF P ops Q D (T ++ [c]) Fs (VL Ef) a' w') a w0) : PRF P ops Q D T Fs (VL Ef) a0 w0 := by
  simp only [Bool.and_eq_true] at hchk
  obtain ⟨⟨⟨⟨⟨⟨h1, h2⟩, h3⟩, h4⟩, h5⟩, h6⟩, h7⟩ := hchk
  refine PRF_one hA h1 h2 h3 h4 h5 h6 h7 hoc const (fun i hi o ho a hs hd hsame hvv => each.mem i hi o ho a ⟨hs, hd, Chg.refl _ _, hsame, fun j hj t ht => ?_⟩) (fun a hs hd hsame hvv => core a ⟨hs, hd, Chg.refl _ _, hsame, fun j hj t ht => ?_⟩)
  · simp only [Bool.and_eq_true, List.contains_iff_mem] at hj
    exact hvv j hj.1 hj.2 t ht
  · simp only [Bool.and_eq_true, List.contains_iff_mem] at hj
    exact hvv j hj.1 hj.2 t ht

theorem opk_storeF {op : Op} {ty : TypeId} {pos : String} {after : Array Edge} {B o : Nat} {T : TypeId} {cs vs : List Value} {K : Act → World → Prop} {a : Act} {w : World} (hA : Ag n a L) (hb : Box w B T cs)
    (hrun : (execOp a.eval ⟨none, op, ty, pos, after, none⟩).run P w = .ok .skip (setCells w B o vs))
    (k : ∀ w', Chg [B] w w' → Box w' B T (putAt cs o vs) → Ag n a L → K a w') : opK P ops Q ⟨none, op, ty, pos, after, none⟩ K a w := by
  unfold opK
  simp only [Region.wanted, if_true, Oper.wp, hrun, Oper.upon]
  exact k _ (setCells_chg B vs w o) (setCells_box vs hb) hA

def ConstS (V : Nat → Value → World → Prop) : List Nat → Prop
  | [] => True
  | i :: r => (∀ v w w', V i v w → V i v w') ∧ ConstS V r
theorem constF {V : Nat → Value → World → Prop} : ∀ {S : List Nat}, ConstS V S → ∀ i ∈ S, ∀ v w w', V i v w → V i v w'
  | [], _, i, hi => by cases hi
  | j :: r, ⟨h1, h2⟩, i, hi => by
    rcases List.mem_cons.1 hi with rfl | hi
    · exact h1
    · exact constF h2 i hi

/-- The block that a value leads to. -/
def blk : Value → Nat
  | .pointer (some a) => a.block
  | .slice (some a) _ _ => a.block
  | _ => 0
def OverN (N F : List Nat) (V : Nat → Value → World → Prop) (i : Nat) (dst : Option Nat) (a : Act) (w : World) (a' : Act) (w' : World) : Prop := ∃ v, a' = a.put dst v ∧ Chg F w w' ∧ (dst.isSome = true → V i v w') ∧ (N.contains i = true → w.heap.size ≤ blk v)
theorem overN_of {N F : List Nat} {V : Nat → Value → World → Prop} {i : Nat} {o : Oper} {a : Act} {w : World} (h : N.contains i = false) (k : opK P ops Q o (Over F V i o.dst a w) a w) : opK P ops Q o (OverN N F V i o.dst a w) a w :=
  opK_mono k fun a' w' ⟨v, h1, h2, h3⟩ => ⟨v, h1, h2, h3, fun hh => by rw [h] at hh; cases hh⟩

/-- Some that must come; of these those of N make a block each: the blocks are apart. -/
theorem parFN {D : List (List Nat)} {T S Fs : List Nat} {F KE N : List Nat} {E Ef : List (Nat × (Value → World → Prop))} {a0 : Act} {w0 : World} (hA : Ag n a0 L) (hk : E.map (·.1) = KE)
    (hchk : (backOk ops && certOk ops D && waitE ops D T (S ++ Fs) S && dstOk ops (S ++ Fs) && inOk ops n (S ++ Fs) && apartOk T S && apartOk Fs S && Fs.all (fun i => KE.all fun k => !(Nat.beq i k)) && N.all (fun i => S.contains i)) = true)
    (hN : ∀ i ∈ N, ∀ v w, VL (E ++ Ef) i v w → blk v < w.heap.size)
    (stab : StabS F (VL (E ++ Ef)) (S ++ Fs))
    (each : EachS ops (fun i o => ∀ a w, Turn ops D (S ++ Fs) F (VL (E ++ Ef)) n a0 w0 i a w → opK P ops Q o (OverN N F (VL (E ++ Ef)) i o.dst a w) a w) (S ++ Fs))
    (fin : ∀ a w, Chg F w0 w → (∀ L', SubL L L' → keysOk ops (S ++ Fs) L' = true → Ag n a L') → (∀ j, S.contains j = true → ∀ t, (ops[j]?).bind (·.dst) = some t → VL (E ++ Ef) j (a.tmps.getD t undef) w) →
      (∀ i j, (N.contains i && N.contains j && !(Nat.beq i j)) = true → ∀ t u, (ops[i]?).bind (·.dst) = some t → (ops[j]?).bind (·.dst) = some u → blk (a.tmps.getD t undef) ≠ blk (a.tmps.getD u undef)) → PRF P ops Q D (T ++ S) Fs (VL Ef) a w) : PRF P ops Q D T Fs (VL Ef) a0 w0 := by
  subst hk
  simp only [Bool.and_eq_true] at hchk
  obtain ⟨⟨⟨⟨⟨⟨⟨⟨h1, h2⟩, h3⟩, h4⟩, h5⟩, h6⟩, h7⟩, h8⟩, h9⟩ := hchk
  have hv : ∀ i ∈ Fs, VL (E ++ Ef) i = VL Ef i := fun i hi => VL_skip Ef i E (List.all_eq_true.1 h8 i hi)
  have hNS : ∀ i ∈ N, i ∈ S := fun i hi => by simpa using List.all_eq_true.1 h9 i hi
  have hdst' := h4
  simp only [dstOk, List.all_eq_true, Bool.or_eq_true, beq_iff_eq, bne_iff_ne] at hdst'
  have hin' := h5
  simp only [inOk, List.all_eq_true, Bool.and_eq_true, decide_eq_true_eq] at hin'
  refine PRF.congr (fun i hi => (hv i hi).symm) fun fuel listed a hM hcount => ?_
  refine mid_runX (E := S) (X := fun listed a _ => ∀ i ∈ N, ∀ j ∈ N, i ≠ j → listed.getD i false = true → listed.getD j false = true → ∀ t u, (ops[i]?).bind (·.dst) = some t → (ops[j]?).bind (·.dst) = some u → blk (a.tmps.getD t undef) ≠ blk (a.tmps.getD u undef))
    (Y := fun i v w _ => N.contains i = true → w.heap.size ≤ blk v) hA h1 h2 (fun e he => List.mem_append.2 (.inl he)) h3 h4 h5 stab.mem (fun i hi o ho a w hs hd hc hsame hvv => ?_) ?_ (fun fuel listed a w hM hX hall hcount => ?_) fuel listed a w0 (hM.wider h6 h7) ?_ hcount
  · refine each.mem i hi o ho a w ⟨hs, hd, hc, hsame, fun j hj t ht => ?_⟩
    simp only [Bool.and_eq_true, List.contains_iff_mem] at hj
    exact hvv j hj.1 hj.2 t ht
  · intro listed a w i o v w' hM hX hi ho hil hils hchg hY p hp q hq hpq hlp hlq t u ht hu
    have hdsti : (ops[i]?).bind (·.dst) = o.dst := by rw [ho]; rfl
    have sep : ∀ j ∈ S ++ Fs, j ≠ i → ∀ t, (ops[j]?).bind (·.dst) = some t → o.dst ≠ some t := by
      intro j hj e t ht h
      rcases hdst' i hi j hj with (h' | h') | h'
      · exact e h'.symm
      · rw [hdsti, h] at h'; cases h'
      · exact h' (by rw [hdsti, h, ht])
    have putne : ∀ t, o.dst ≠ some t → (a.put o.dst v).tmps.getD t undef = a.tmps.getD t undef := by
      intro t hne
      cases hd' : o.dst with
      | none => rfl
      | some d => exact getD_setIfInBounds_ne _ _ _ _ _ (fun e' => hne (by rw [hd', e']))
    have putself : ∀ t, o.dst = some t → (a.put o.dst v).tmps.getD t undef = v := by
      intro t hd'
      rw [hd']
      have hdn : t < a.tmps.size := by
        have := (hin' i hi).2
        rw [hdsti, hd'] at this
        rw [hM.tsize, hA.size]
        simpa using this
      exact getD_setIfInBounds_self _ _ _ _ hdn
    have memS : ∀ j ∈ N, j ∈ S ++ Fs := fun j hj => List.mem_append.2 (.inl (hNS j hj))
    have low : ∀ j ∈ N, j ≠ i → listed.getD j false = true → ∀ t, (ops[j]?).bind (·.dst) = some t → blk (a.tmps.getD t undef) < w.heap.size := fun j hj _ hl t ht => hN j hj _ _ (hM.vals j (memS j hj) hl t ht)
    rw [getD_set _ _ _ hils] at hlp hlq
    by_cases e1 : p = i
    · subst e1
      have e2 : q ≠ p := fun e => hpq e.symm
      rw [if_neg e2] at hlq
      rw [putself t (by rw [← hdsti]; exact ht), putne u (sep q (memS q hq) e2 u hu)]
      have g := hY (by simpa using hp)
      have l := low q hq e2 hlq u hu
      omega
    · rw [if_neg e1] at hlp
      by_cases e2 : q = i
      · subst e2
        rw [putself u (by rw [← hdsti]; exact hu), putne t (sep p (memS p hp) e1 t ht)]
        have g := hY (by simpa using hq)
        have l := low p hp e1 hlp t ht
        omega
      · rw [if_neg e2] at hlq
        rw [putne t (sep p (memS p hp) e1 t ht), putne u (sep q (memS q hq) e2 u hu)]
        exact hX p hp q hq hpq hlp hlq t u ht hu
  · refine PRF.congr hv (fin a w hM.chg (fun L' hsub hk => same_ag hA (by rw [hM.tsize, hA.size]) (by rw [hM.defers, hA.defs]) hM.same L' hsub hk) (fun j hj t ht => hM.vals j (List.mem_append.2 (.inl (by simpa using hj))) (hall j (by simpa using hj)) t ht) (fun i j hij t u ht hu => ?_)) fuel listed a ?_ hcount
    · simp only [Bool.and_eq_true, List.contains_iff_mem, Bool.not_eq_true'] at hij
      exact hX i hij.1.1 j hij.1.2 (fun e => by subst e; have := hij.2; simp at this) (hall i (hNS i hij.1.1)) (hall j (hNS j hij.1.2)) t u ht hu
    · refine ⟨hM.size, fun i hi => ?_, fun i hi hlt => ?_, hM.closed, Chg.refl _ _, rfl, rfl, fun _ _ => rfl, fun i hi hli t ht => hM.vals i (List.mem_append.2 (.inr hi)) hli t ht⟩
      · rcases hM.only i hi with h | h
        · exact .inl (List.mem_append.2 (.inl h))
        · rcases List.mem_append.1 h with h | h
          · exact .inl (List.mem_append.2 (.inr h))
          · exact .inr h
      · rcases List.mem_append.1 hi with h | h
        · exact hM.old i h hlt
        · exact hall i h
  · intro i hi j hj _ hl _
    exfalso
    have hiS := hNS i hi
    simp only [apartOk, List.all_eq_true, Bool.not_eq_true', ← Bool.not_eq_true, List.contains_iff_mem] at h6 h7
    exact (hM.only i hl).elim (h6 i hiS) (h7 i hiS)

theorem PRF_nil {D : List (List Nat)} {T : List Nat} {V : Nat → Value → World → Prop} {a : Act} {w : World} (h : PR P ops Q T a w) : PRF P ops Q D T [] V a w := by
  intro fuel listed a' hM hcount
  have e : a' = a := by
    have h1 := hM.tsize
    have h2 := hM.defers
    have h3 := hM.same
    obtain ⟨t', d'⟩ := a'
    obtain ⟨t, d⟩ := a
    simp only at h1 h2
    subst h2
    congr 1
    refine Array.ext h1 fun k hk1 hk2 => ?_
    have := h3 k (by simp)
    simpa [Array.getD, hk1, hk2] using this
  subst e
  exact h fuel listed hM.size (fun i hi => ⟨fun hl => (hM.only i hl).elim id (fun h => by cases h), fun hT => hM.old i hT hi⟩) hcount
def BlkS (V : Nat → Value → World → Prop) : List Nat → Prop
  | [] => True
  | i :: r => (∀ v w, V i v w → blk v < w.heap.size) ∧ BlkS V r
theorem blkF {V : Nat → Value → World → Prop} : ∀ {S : List Nat}, BlkS V S → ∀ i ∈ S, ∀ v w, V i v w → blk v < w.heap.size
  | [], _, i, hi => by cases hi
  | j :: r, ⟨h1, h2⟩, i, hi => by
    rcases List.mem_cons.1 hi with rfl | hi
    · exact h1
    · exact blkF h2 i hi

end
end Go.Proofs.Yteohbfaechfliaa
