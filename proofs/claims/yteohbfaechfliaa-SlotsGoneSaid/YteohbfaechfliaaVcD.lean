/-
  A statement whose operations may come in several orders: operations that make memory at most may come as they like, those that must come last come last. No program is in sight here.
-/
import Derived.Test.YteohbfaechfliaaVcC
import Derived.Orders
namespace Go.Proofs.Yteohbfaechfliaa
open Go.RowKit

section
variable {P : Program} {ops : Array Oper} {Q : Exit → Act → World → Prop}

/-- Each edge that binds leads back. -/
def backOk (ops : Array Oper) : Bool := (List.range ops.size).all fun j => ((ops[j]?).map fun o => o.after.all fun e => !Region.binds .any e || decide (e.on < j)).getD true
/-- D names for each operation some that must have come ahead of it. -/
def certOk (ops : Array Oper) (D : List (List Nat)) : Bool :=
  (List.range ops.size).all fun j => (D.getD j []).all fun x => decide (x < j) && ((ops[j]?).map fun o => o.after.toList.any fun e => Region.binds .any e && (e.on == x || (D.getD e.on []).contains x)).getD false
/-- The operations of T are closed. -/
def doneOk (D : List (List Nat)) (T : List Nat) : Bool := T.all fun j => (D.getD j []).all fun x => T.contains x
/-- What is in neither T nor S waits for all of S. -/
def waitOk (ops : Array Oper) (D : List (List Nat)) (T S : List Nat) : Bool := (List.range ops.size).all fun j => T.contains j || S.contains j || S.all fun i => (D.getD j []).contains i

/-- The operations of T have come, in whatever order: what is asked of what follows. -/
def PR (P : Program) (ops : Array Oper) (Q : Exit → Act → World → Prop) (T : List Nat) (a : Act) (w : World) : Prop :=
  ∀ fuel (listed : Array Bool), listed.size = ops.size → (∀ i, i < ops.size → (listed.getD i false = true ↔ i ∈ T)) → listed.toList.count false ≤ fuel → wpAny P .any ops Q fuel listed a w

theorem draw_region {id : Nat} {l : List Oper} {a : Act} {w : World} (hm : P.follows .mixedOrders = true) (h : PR P l.toArray Q [] a { w with drawn := w.drawn + 1 }) : (Code.region id l.toArray true).wp P Q a w := by
  refine wp_region_any hm (h _ _ (by simp) (fun i hi => ?_) ?_)
  · simp [Array.getD_eq_getD_getElem?, Array.getElem?_replicate]
    split <;> simp
  · simp

theorem count_set (l : Array Bool) (i : Nat) (hi : i < l.size) (h : l.getD i true = false) : (l.setIfInBounds i true).toList.count false + 1 = l.toList.count false := by
  have hv : l[i] = false := by simpa [Array.getD, hi] using h
  have hv' : l.toList[i]'(by simpa using hi) = false := by simpa using hv
  have hpos : 0 < l.toList.count false := List.count_pos_iff.2 (by rw [← hv']; exact List.getElem_mem _)
  have h3 := List.count_set (l := l.toList) (i := i) (a := true) (b := false) (by simpa using hi)
  rw [hv'] at h3
  rw [Array.toList_setIfInBounds, h3]
  simp only [beq_self_eq_true, if_true, show (true == false) = false from rfl, Bool.false_eq_true, if_false]
  omega

theorem getD_set (l : Array Bool) (i j : Nat) (hi : i < l.size) (d : Bool) : (l.setIfInBounds i true).getD j d = if j = i then true else l.getD j d := by
  by_cases e : j = i
  · subst e; simp [Array.getD, hi]
  · rw [if_neg e]; simp [Array.getD_eq_getD_getElem?, Array.getElem?_setIfInBounds_ne (fun h => e h.symm)]

/-- Some operation can come, as long as one has not. -/
theorem ready_some (hb : backOk ops = true) {listed : Array Bool} (hs : listed.size = ops.size) (i : Nat) (hi : i < ops.size) (hl : listed.getD i false = false) : Region.ready .any ops listed ≠ [] := by
  have key : ∀ n, ∀ i, i ≤ n → i < ops.size → listed.getD i false = false → ∃ j, j ∈ Region.ready .any ops listed := by
    intro n
    induction n with
    | zero =>
      intro i h0 hi hl
      obtain rfl : i = 0 := by omega
      refine ⟨0, mem_ready.2 ⟨by simpa [Array.getD, hs, hi] using hl, ops[0], by simp [hi], fun e he hbd => ?_⟩⟩
      exfalso
      simp only [backOk, List.all_eq_true, List.mem_range] at hb
      have := hb 0 hi
      simp only [Array.getElem?_eq_getElem hi, Option.map_some, Option.getD_some, Array.all_eq_true_iff_forall_mem] at this
      have := this e he
      simp [hbd] at this
    | succ n ih =>
      intro i h0 hi hl
      by_cases hall : ∀ j, j < i → listed.getD j false = true
      · refine ⟨i, mem_ready.2 ⟨by simpa [Array.getD, hs, hi] using hl, ops[i], by simp [hi], fun e he hbd => ?_⟩⟩
        simp only [backOk, List.all_eq_true, List.mem_range] at hb
        have := hb i hi
        simp only [Array.getElem?_eq_getElem hi, Option.map_some, Option.getD_some, Array.all_eq_true_iff_forall_mem] at this
        have := this e he
        simp [hbd] at this
        exact hall _ this
      · have ⟨j, hj⟩ := Classical.not_forall.1 hall
        have ⟨hj1, hj2⟩ := Classical.not_imp.1 hj
        exact ih j (by omega) (by omega) (by simpa using hj2)
  obtain ⟨j, hj⟩ := key i i (Nat.le_refl _) hi hl
  intro h
  rw [h] at hj; cases hj

theorem cert_listed {D : List (List Nat)} (hc : certOk ops D = true) {listed : Array Bool} (hdc : ∀ j, listed.getD j false = true → ∀ x ∈ D.getD j [], listed.getD x false = true) {j : Nat} (hj : j ∈ Region.ready .any ops listed) :
    ∀ x ∈ D.getD j [], listed.getD x false = true := by
  intro x hx
  obtain ⟨h1, o, ho, h2⟩ := mem_ready.1 hj
  have hlt : j < ops.size := (Array.getElem?_eq_some_iff.1 ho).1
  simp only [certOk, List.all_eq_true, List.mem_range] at hc
  have := hc j hlt x hx
  rw [ho] at this
  simp only [Option.map_some, Option.getD_some, Bool.and_eq_true, List.any_eq_true] at this
  obtain ⟨_, e, he, hbe⟩ := this
  simp only [Bool.or_eq_true, beq_iff_eq, List.contains_iff_mem] at hbe
  obtain ⟨hb1, hb2⟩ := hbe
  have hl := h2 e (Array.mem_toList_iff.1 he) hb1
  rcases hb2 with rfl | hb2
  · exact hl
  · exact hdc _ hl x hb2

theorem wpOp_of_opK {i : Nat} {o : Oper} {K : Act → World → Prop} {a : Act} {w : World} (ho : ops[i]? = some o) (h : opK P ops Q o K a w) : wpOp P ops Q i K a w := by
  unfold wpOp
  simp only [ho]
  unfold opK at h
  split
  · rename_i hw; rw [if_pos hw] at h; exact .inl h
  · rename_i hw; rw [if_neg hw] at h; exact h

theorem PR_end {T : List Nat} {a : Act} {w : World} (hT : ((List.range ops.size).all fun i => T.contains i) = true) (h : Q .normal a w) : PR P ops Q T a w := by
  intro fuel listed hs hl _
  have hr : Region.ready .any ops listed = [] := by
    cases he : Region.ready .any ops listed with
    | nil => rfl
    | cons j r =>
      have hj : j ∈ Region.ready .any ops listed := by rw [he]; exact List.mem_cons_self ..
      obtain ⟨h1, o, ho, _⟩ := mem_ready.1 hj
      have hlt : j < ops.size := (Array.getElem?_eq_some_iff.1 ho).1
      simp only [List.all_eq_true, List.mem_range, List.contains_iff_mem] at hT
      have := (hl j hlt).2 (hT j hlt)
      simp [Array.getD, hs, hlt] at this h1
      rw [h1] at this; cases this
  cases fuel with
  | zero => exact ⟨hr, h⟩
  | succ n => exact ⟨fun _ => h, fun i hi => by rw [hr] at hi; cases hi⟩

/-- What holds while the operations of S come. -/
structure Mid (D : List (List Nat)) (T S : List Nat) (ops : Array Oper) (F : List Nat) (V : Nat → Value → World → Prop) (a0 : Act) (w0 : World) (listed : Array Bool) (a : Act) (w : World) : Prop where
  size : listed.size = ops.size
  only : ∀ i, listed.getD i false = true → i ∈ T ∨ i ∈ S
  old : ∀ i ∈ T, i < ops.size → listed.getD i false = true
  closed : ∀ j, listed.getD j false = true → ∀ x ∈ D.getD j [], listed.getD x false = true
  chg : Chg F w0 w
  tsize : a.tmps.size = a0.tmps.size
  defers : a.defers = a0.defers
  same : ∀ t, (∀ i ∈ S, (ops[i]?).bind (·.dst) ≠ some t) → a.tmps.getD t undef = a0.tmps.getD t undef
  vals : ∀ i ∈ S, listed.getD i false = true → ∀ t, (ops[i]?).bind (·.dst) = some t → V i (a.tmps.getD t undef) w

def apartOk (T S : List Nat) : Bool := S.all fun i => !T.contains i
/-- The slots that the operations of S write are different ones. -/
def dstOk (ops : Array Oper) (S : List Nat) : Bool := S.all fun i => S.all fun j => i == j || ((ops[i]?).bind (·.dst)).isNone || (ops[i]?).bind (·.dst) != (ops[j]?).bind (·.dst)
def inOk (ops : Array Oper) (n : Nat) (S : List Nat) : Bool := S.all fun i => decide (i < ops.size) && (((ops[i]?).bind (·.dst)).map fun d => decide (d < n)).getD true

/-- **Operations that come in whatever order**: each does its part in every world that has been changed at most in F, once those that it waits for have done theirs. -/
theorem PR_seg {D : List (List Nat)} {T S : List Nat} {F : List Nat} {V : Nat → Value → World → Prop} {n : Nat} {a0 : Act} {w0 : World} {L : List (Nat × Value)} (hA : Ag n a0 L)
    (hb : backOk ops = true) (hc : certOk ops D = true) (hd : doneOk D T = true) (hw : waitOk ops D T S = true) (hdst : dstOk ops S = true) (hin : inOk ops n S = true) (hap : apartOk T S = true)
    (stab : ∀ i ∈ S, ∀ v w w', Chg F w w' → V i v w → V i v w')
    (each : ∀ i ∈ S, ∀ o, ops[i]? = some o → ∀ a w, a.tmps.size = n → a.defers = [] → Chg F w0 w → (∀ t, (∀ j ∈ S, (ops[j]?).bind (·.dst) ≠ some t) → a.tmps.getD t undef = a0.tmps.getD t undef) →
      (∀ j ∈ S, j ∈ D.getD i [] → ∀ t, (ops[j]?).bind (·.dst) = some t → V j (a.tmps.getD t undef) w) →
      opK P ops Q o (fun a' w' => ∃ v, a' = a.put o.dst v ∧ Chg F w w' ∧ (o.dst.isSome = true → V i v w')) a w)
    (fin : ∀ a w, a.tmps.size = n → a.defers = [] → Chg F w0 w → (∀ t, (∀ j ∈ S, (ops[j]?).bind (·.dst) ≠ some t) → a.tmps.getD t undef = a0.tmps.getD t undef) →
      (∀ j ∈ S, ∀ t, (ops[j]?).bind (·.dst) = some t → V j (a.tmps.getD t undef) w) → PR P ops Q (T ++ S) a w) : PR P ops Q T a0 w0 := by
  have key : ∀ fuel listed a w, Mid D T S ops F V a0 w0 listed a w → listed.toList.count false ≤ fuel → wpAny P .any ops Q fuel listed a w := by
    intro fuel
    induction fuel with
    | zero =>
      intro listed a w hM hcount
      have hall : ∀ i, i < ops.size → listed.getD i false = true := by
        intro i hi
        have h0 : listed.toList.count false = 0 := by omega
        have hn := List.count_eq_zero.1 h0
        have hsz : i < listed.size := by rw [hM.size]; exact hi
        cases hv : listed[i] with
        | true => simp [Array.getD, hsz, hv]
        | false => exact absurd (by rw [← hv]; exact Array.mem_toList_iff.2 (Array.getElem_mem hsz)) hn
      refine fin a w (by rw [hM.tsize, hA.size]) (by rw [hM.defers, hA.defs]) hM.chg hM.same (fun j hj t ht => ?_) 0 listed hM.size (fun i hi => ?_) hcount
      · refine hM.vals j hj (hall j ?_) t ht
        cases ho : ops[j]? with
        | none => rw [ho] at ht; cases ht
        | some o => exact (Array.getElem?_eq_some_iff.1 ho).1
      · exact ⟨fun h => List.mem_append.2 (hM.only i h), fun _ => hall i hi⟩
    | succ fuel ih =>
      intro listed a w hM hcount
      by_cases hall : ∀ i ∈ S, listed.getD i false = true
      · refine fin a w (by rw [hM.tsize, hA.size]) (by rw [hM.defers, hA.defs]) hM.chg hM.same (fun j hj t ht => hM.vals j hj (hall j hj) t ht) (fuel + 1) listed hM.size (fun i hi => ?_) hcount
        exact ⟨fun h => List.mem_append.2 (hM.only i h), fun h => (List.mem_append.1 h).elim (fun h => hM.old i h hi) (fun h => hall i h)⟩
      · have ⟨i0, hi0⟩ := Classical.not_forall.1 hall
        have ⟨hi0S, hi0l⟩ := Classical.not_imp.1 hi0
        have hi0l' : listed.getD i0 false = false := by simpa using hi0l
        simp only [inOk, List.all_eq_true, Bool.and_eq_true, decide_eq_true_eq] at hin
        have hrs := ready_some hb hM.size i0 (hin i0 hi0S).1 hi0l'
        refine ⟨fun h => absurd h hrs, fun i hi => ?_⟩
        have hcl := cert_listed hc hM.closed hi
        obtain ⟨h1, o, ho, h2⟩ := mem_ready.1 hi
        have hlt : i < ops.size := (Array.getElem?_eq_some_iff.1 ho).1
        have hil : listed.getD i false = false := by simp [Array.getD, hM.size, hlt] at h1 ⊢; exact h1
        have hiS : i ∈ S := by
          simp only [waitOk, List.all_eq_true, List.mem_range, Bool.or_eq_true, List.contains_iff_mem] at hw
          rcases hw i hlt with (hT | hS) | hall'
          · rw [hM.old i hT hlt] at hil; cases hil
          · exact hS
          · have := hcl i0 (hall' i0 hi0S)
            rw [hi0l'] at this; cases this
        refine wpOp_of_opK ho (opK_mono (each i hiS o ho a w (by rw [hM.tsize, hA.size]) (by rw [hM.defers, hA.defs]) hM.chg hM.same (fun j hj hjD t ht => hM.vals j hj (hcl j hjD) t ht)) fun a' w' ⟨v, hav, hchg, hV⟩ => ?_)
        refine ih _ a' w' ?_ (by have := count_set listed i (by rw [hM.size]; exact hlt) h1; omega)
        have hils : i < listed.size := by rw [hM.size]; exact hlt
        subst hav
        have hdsti : (ops[i]?).bind (·.dst) = o.dst := by rw [ho]; rfl
        refine ⟨by simp [hM.size], fun j hj => ?_, fun j hj hjl => ?_, fun j hj x hx => ?_, hM.chg.trans hchg, ?_, ?_, fun t ht => ?_, fun j hj hjl t ht => ?_⟩
        · rw [getD_set _ _ _ hils] at hj
          split at hj
          · rename_i e; exact .inr (e ▸ hiS)
          · exact hM.only j hj
        · rw [getD_set _ _ _ hils]
          split
          · rfl
          · exact hM.old j hj hjl
        · rw [getD_set _ _ _ hils] at hj ⊢
          split
          · rfl
          · split at hj
            · rename_i e; subst e; exact hcl x hx
            · exact hM.closed j hj x hx
        · cases hd' : o.dst <;> simp [Act.put, hM.tsize]
        · cases hd' : o.dst <;> simp [Act.put, hM.defers]
        · have hne : o.dst ≠ some t := by rw [← hdsti]; exact ht i hiS
          rw [← hM.same t ht]
          cases hd' : o.dst with
          | none => rfl
          | some d => exact getD_setIfInBounds_ne _ _ _ _ _ (fun e => hne (by rw [hd', e]))
        · by_cases e : j = i
          · subst e
            rw [hdsti] at ht
            rw [ht] at hV ⊢
            have hdn : t < a.tmps.size := by
              have := (hin j hj).2
              rw [hdsti, ht] at this
              rw [hM.tsize, hA.size]
              simpa using this
            show V j ((a.tmps.setIfInBounds t v).getD t undef) w'
            rw [getD_setIfInBounds_self _ _ _ _ hdn]
            exact hV rfl
          · have hjl' : listed.getD j false = true := by
              rw [getD_set _ _ _ hils, if_neg e] at hjl; exact hjl
            have hv := stab j hj _ _ _ hchg (hM.vals j hj hjl' t ht)
            have hne : o.dst ≠ some t := by
              intro h
              simp only [dstOk, List.all_eq_true, Bool.or_eq_true, beq_iff_eq, bne_iff_ne] at hdst
              rcases hdst i hiS j hj with (h' | h') | h'
              · exact e h'.symm
              · rw [hdsti, h] at h'; cases h'
              · exact h' (by rw [hdsti, h, ht])
            cases hd' : o.dst with
            | none => exact hv
            | some d =>
              show V j ((a.tmps.setIfInBounds d v).getD t undef) w'
              rw [getD_setIfInBounds_ne _ _ _ _ _ (fun e' => hne (by rw [hd', e']))]
              exact hv
  intro fuel listed hs hl hcount
  refine key fuel listed a0 w0 ⟨hs, fun i hi => ?_, fun i hi hlt => (hl i hlt).2 hi, fun j hj x hx => ?_, Chg.refl _ _, rfl, rfl, fun _ _ => rfl, fun i hi hli t ht => ?_⟩ hcount
  · have hlt : i < ops.size := by
      rcases Nat.lt_or_ge i ops.size with h | h
      · exact h
      · simp [Array.getD, hs, Nat.not_lt.2 h] at hi
    exact .inl ((hl i hlt).1 hi)
  · have hlt : j < ops.size := by
      rcases Nat.lt_or_ge j ops.size with h | h
      · exact h
      · simp [Array.getD, hs, Nat.not_lt.2 h] at hj
    have hjT := (hl j hlt).1 hj
    simp only [doneOk, List.all_eq_true, List.contains_iff_mem] at hd
    have hxT := hd j hjT x hx
    have hxlt : x < ops.size := by
      simp only [certOk, List.all_eq_true, List.mem_range, Bool.and_eq_true, decide_eq_true_eq] at hc
      have := (hc j hlt x hx).1
      omega
    exact (hl x hxlt).2 hxT
  · have hlt : i < ops.size := by
      cases ho : ops[i]? with
      | none => rw [ho] at ht; cases ht
      | some o => exact (Array.getElem?_eq_some_iff.1 ho).1
    have hiT := (hl i hlt).1 hli
    simp only [apartOk, List.all_eq_true, Bool.not_eq_true', ← Bool.not_eq_true, List.contains_iff_mem] at hap
    exact absurd hiT (hap i hi)

/-- **One operation that must come next.** -/
theorem PR_one {D : List (List Nat)} {T : List Nat} {i : Nat} {o : Oper} {a : Act} {w : World} (hb : backOk ops = true) (hc : certOk ops D = true) (hd : doneOk D T = true) (hw : waitOk ops D T [i] = true) (hap : apartOk T [i] = true)
    (ho : ops[i]? = some o) (h : opK P ops Q o (PR P ops Q (T ++ [i])) a w) : PR P ops Q T a w := by
  intro fuel listed hs hl hcount
  have hlt : i < ops.size := (Array.getElem?_eq_some_iff.1 ho).1
  have hiT : i ∉ T := by
    simp only [apartOk, List.all_eq_true, Bool.not_eq_true', ← Bool.not_eq_true, List.contains_iff_mem] at hap
    exact hap i (by simp)
  have hil : listed.getD i false = false := by
    cases hh : listed.getD i false with
    | false => rfl
    | true => exact absurd ((hl i hlt).1 hh) hiT
  have hdc : ∀ j, listed.getD j false = true → ∀ x ∈ D.getD j [], listed.getD x false = true := by
    intro j hj x hx
    have hjlt : j < ops.size := by
      rcases Nat.lt_or_ge j ops.size with h | h
      · exact h
      · simp [Array.getD, hs, Nat.not_lt.2 h] at hj
    have hjT := (hl j hjlt).1 hj
    simp only [doneOk, List.all_eq_true, List.contains_iff_mem] at hd
    have hxT := hd j hjT x hx
    simp only [certOk, List.all_eq_true, List.mem_range, Bool.and_eq_true, decide_eq_true_eq] at hc
    have := (hc j hjlt x hx).1
    exact (hl x (by omega)).2 hxT
  have hrs := ready_some hb hs i hlt hil
  have honly : ∀ j ∈ Region.ready .any ops listed, j = i := by
    intro j hj
    have hcl := cert_listed hc hdc hj
    obtain ⟨h1, o', ho', h2⟩ := mem_ready.1 hj
    have hjlt : j < ops.size := (Array.getElem?_eq_some_iff.1 ho').1
    simp only [waitOk, List.all_eq_true, List.mem_range, Bool.or_eq_true, List.contains_iff_mem, List.mem_singleton] at hw
    rcases hw j hjlt with (hT | hS) | hall
    · have := (hl j hjlt).2 hT
      simp [Array.getD, hs, hjlt] at this h1
      rw [h1] at this; cases this
    · exact hS
    · have := hcl i (hall i rfl)
      rw [hil] at this; cases this
  cases fuel with
  | zero =>
    exfalso
    have h0 : listed.toList.count false = 0 := by omega
    have hn := List.count_eq_zero.1 h0
    have hsz : i < listed.size := by rw [hs]; exact hlt
    have hv : listed[i] = false := by simpa [Array.getD, hsz] using hil
    exact hn (by rw [← hv]; exact Array.mem_toList_iff.2 (Array.getElem_mem hsz))
  | succ fuel =>
    refine ⟨fun hh => absurd hh hrs, fun j hj => ?_⟩
    obtain rfl := honly j hj
    have hils : j < listed.size := by rw [hs]; exact hlt
    have h1 : listed.getD j true = false := by simp [Array.getD, hils] at hil ⊢; exact hil
    refine wpOp_of_opK ho (opK_mono h fun a' w' hk => hk fuel _ (by simp [hs]) (fun i hi => ?_) (by have := count_set listed j hils h1; omega))
    rw [getD_set _ _ _ hils]
    split
    · rename_i e; subst e; simp
    · rename_i e
      rw [hl i hi]
      simp [e]

end
end Go.Proofs.Yteohbfaechfliaa
