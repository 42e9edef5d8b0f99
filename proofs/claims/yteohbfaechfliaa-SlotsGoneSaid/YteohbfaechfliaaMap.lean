/-
  Maps with keys of one word: what they hold, as a list.
-/
import Derived.Test.YteohbfaechfliaaVcI
import Derived.MapKept
namespace Go.Proofs.Yteohbfaechfliaa
open Go.RowKit Go.MapKept

/-- Block B is a map that holds this. -/
structure MapIs {κ : Type} (f : κ → Value) (d : TypeDesc) (w : World) (B : Nat) (m : List (κ × Value)) : Prop where
  at_ : ∃ es clock, w.heap[B]? = some (.map es clock) ∧ es.toList.map (fun e => (e.key, e.val)) = m.map fun p => (f p.1, p.2)

theorem MapIs.lt {κ : Type} {f : κ → Value} {d : TypeDesc} {w : World} {B : Nat} {m : List (κ × Value)} (h : MapIs f d w B m) : B < w.heap.size := by
  obtain ⟨es, clock, h1, _⟩ := h.at_
  exact (Array.getElem?_eq_some_iff.1 h1).1
theorem MapIs.chg {κ : Type} {f : κ → Value} {d : TypeDesc} {w w' : World} {F : List Nat} {B : Nat} {m : List (κ × Value)} (h : MapIs f d w B m) (c : Chg F w w') (hB : B ∉ F) : MapIs f d w' B m := by
  have hl := h.lt
  obtain ⟨es, clock, h1, h2⟩ := h.at_
  exact ⟨es, clock, by rw [c.block B hl hB]; exact h1, h2⟩
theorem MapIs.ext {κ : Type} {f : κ → Value} {d : TypeDesc} {w w' : World} {B : Nat} {m : List (κ × Value)} (h : MapIs f d w B m) (c : Ext w w') : MapIs f d w' B m := h.chg c (by simp)

theorem makeMap_run {κ : Type} {P : Program} {w : World} {bx : List Nat} {t : TypeId} {K : Value → World → Prop} (f : κ → Value) (d : TypeDesc) (k : ∀ B w', Ext w w' → w.heap.size ≤ B → MapIs f d w' B [] → K (.map (some B)) w') : RunK P (Instr.makeMap t none) w bx K := by
  have hr : (Instr.makeMap t none).run P w = .ok (.map (some w.heap.size)) (w.alloc (.map #[] 0)) := by
    simp [Instr.makeMap, Result.andThen]
  exact ⟨_, _, hr, (Ext.alloc _ _).noTouch _, (Ext.alloc _ _).size, k _ _ (Ext.alloc _ _) (Nat.le_refl _) ⟨#[], 0, heap_alloc_new w _, rfl⟩⟩

variable {κ : Type} [DecidableEq κ]
def mget (m : List (κ × Value)) (k : κ) : Option Value := (m.find? fun p => decide (p.1 = k)).map (·.2)
def mput (m : List (κ × Value)) (k : κ) (v : Value) : List (κ × Value) :=
  match m with
  | [] => [(k, v)]
  | p :: r => if p.1 = k then (k, v) :: r else p :: mput r k v
theorem mget_put (m : List (κ × Value)) (k j : κ) (v : Value) : mget (mput m k v) j = if j = k then some v else mget m j := by
  induction m with
  | nil =>
    by_cases h : j = k
    · subst h; simp [mput, mget]
    · have : ¬ k = j := fun e => h e.symm
      simp [mput, mget, h, this]
  | cons p r ih =>
    by_cases hp : p.1 = k
    · rw [mput, if_pos hp]
      by_cases h : j = k
      · subst h; simp [mget]
      · have h1 : ¬ k = j := fun e => h e.symm
        have h2 : ¬ p.1 = j := fun e => h (e.symm.trans hp)
        simp [mget, h, h1, h2]
    · rw [mput, if_neg hp]
      by_cases h : p.1 = j
      · have h1 : ¬ j = k := fun e => hp (h.trans e)
        simp [mget, h, h1]
      · have e1 : mget (p :: mput r k v) j = mget (mput r k v) j := by simp [mget, h]
        have e2 : mget (p :: r) j = mget r j := by simp [mget, h]
        rw [e1, e2, ih]

theorem find_of {f : κ → Value} {d : TypeDesc} (hf : ∀ x, IsKey d (f x)) (hi : ∀ x y, f x = f y → x = y) (k : κ) : ∀ (es : List MapEntry) (m : List (κ × Value)) (i : Nat), es.map (fun e => (e.key, e.val)) = m.map (fun p => (f p.1, p.2)) →
    (Instr.findNow d (f k) es i = some none ∧ mget m k = none ∧ (∀ v, m ++ [(k, v)] = mput m k v)) ∨ ∃ j v, Instr.findNow d (f k) es i = some (some (i + j, v)) ∧ mget m k = some v ∧ j < es.length ∧ (∃ e, es[j]? = some e ∧ e.key = f k) ∧ ∀ u, (es.modify j fun e => { e with key := f k, val := u }).map (fun e => (e.key, e.val)) = (mput m k u).map fun p => (f p.1, p.2)
  | [], [], i, _ => .inl ⟨rfl, rfl, fun _ => rfl⟩
  | [], _ :: _, i, h => by cases h
  | _ :: _, [], i, h => by cases h
  | e :: es, p :: m, i, h => by
    simp only [List.map_cons, List.cons.injEq, Prod.mk.injEq] at h
    obtain ⟨⟨hk, hv⟩, hr⟩ := h
    obtain ⟨r, hs, hiff⟩ := sameNow_of_keys (hf k) (hk ▸ hf p.1 : IsKey d e.key)
    cases r with
    | true =>
      have e1 : p.1 = k := hi _ _ (by rw [← hk]; exact (hiff.1 rfl).symm)
      refine .inr ⟨0, e.val, by simp [Instr.findNow, hs], by simp [mget, e1, hv], by simp, ⟨e, rfl, by rw [hk, e1]⟩, fun u => ?_⟩
      simp [mput, e1, hr]
    | false =>
      have e1 : ¬ p.1 = k := fun q => by have := hiff.2 (by rw [hk, q]); cases this
      rcases find_of hf hi k es m (i + 1) hr with ⟨h1, h2, h3⟩ | ⟨j, v, h1, h2, h3, h4, h5⟩
      · refine .inl ⟨by simp [Instr.findNow, hs, h1], ?_, fun v => ?_⟩
        · have : mget (p :: m) k = mget m k := by simp [mget, e1]
          rw [this, h2]
        · rw [mput, if_neg e1, ← h3 v]; rfl
      · refine .inr ⟨j + 1, v, by simp [Instr.findNow, hs, h1]; omega, ?_, by simp; omega, by simpa using h4, fun u => ?_⟩
        · have : mget (p :: m) k = mget m k := by simp [mget, e1]
          rw [this, h2]
        · rw [mput, if_neg e1]
          simp only [List.modify_succ_cons, List.map_cons]
          rw [h5 u, hk, hv]

theorem lookup_run {P : Program} {w : World} {B : Nat} {t kt et : TypeId} {d : TypeDesc} {f : κ → Value} {m : List (κ × Value)} {z : Value} (hf : ∀ x, IsKey d (f x)) (hi : ∀ x y, f x = f y → x = y) (ht : P.underlying t = some (.map kt et)) (hk : P.underlying kt = some d) (hz : (zeroValue et).run P w = .ok z w)
    (h : MapIs f d w B m) (k : κ) : (Instr.lookup t (.map (some B)) (f k) true).run P w = .ok (.tuple #[(mget m k).getD z, .bool (mget m k).isSome]) w ∧ (Instr.lookup t (.map (some B)) (f k) false).run P w = .ok ((mget m k).getD z) w := by
  obtain ⟨es, clock, hb, he⟩ := h.at_
  rcases find_of hf hi k es.toList m 0 he with ⟨h1, h2, _⟩ | ⟨j, v, h1, h2, _⟩
  · rw [h2]
    constructor <;> simp [Instr.lookup, run_underlying ht, Go.MapKept.run_getObj_map hb, Go.MapKept.run_checkKey hk (hf k), Go.MapKept.run_findKey hk h1, hz, Result.andThen]
  · rw [h2]
    constructor <;> simp [Instr.lookup, run_underlying ht, Go.MapKept.run_getObj_map hb, Go.MapKept.run_checkKey hk (hf k), Go.MapKept.run_findKey hk h1, Result.andThen]

theorem mapUpdate_run {P : Program} {w : World} {bx : List Nat} {B : Nat} {t kt et : TypeId} {d : TypeDesc} {f : κ → Value} {m : List (κ × Value)} {K : World → Prop} (hf : ∀ x, IsKey d (f x)) (hi : ∀ x y, f x = f y → x = y) (ht : P.underlying t = some (.map kt et)) (hk : P.underlying kt = some d)
    (h : MapIs f d w B m) (k : κ) (v : Value) (hbx : B ∉ bx) (kk : ∀ w', Chg [B] w w' → MapIs f d w' B (mput m k v) → K w') : RunU P (Instr.mapUpdate t (.map (some B)) (f k) v) w bx K := by
  obtain ⟨es, clock, hb, he⟩ := h.at_
  have chg : ∀ o, Chg [B] w { w with heap := w.heap.setIfInBounds B o } := fun o => ⟨rfl, rfl, rfl, by simp, fun i _ hi => by simp [Ne.symm (show i ≠ B by simpa using hi)]⟩
  have fin : ∀ es' clock', es'.toList.map (fun e => (e.key, e.val)) = (mput m k v).map (fun p => (f p.1, p.2)) → (Instr.mapUpdate t (.map (some B)) (f k) v).run P w = .ok () { w with heap := w.heap.setIfInBounds B (.map es' clock') } → RunU P (Instr.mapUpdate t (.map (some B)) (f k) v) w bx K := fun es' clock' h1 h2 =>
    ⟨_, h2, (chg _).noTouch _ (fun b hb hm => hbx (by simp at hm; rwa [← hm])), (chg _).size, kk _ (chg _) ⟨es', clock', (heap_set hb).1, h1⟩⟩
  rcases find_of hf hi k es.toList m 0 he with ⟨h1, h2, h3⟩ | ⟨j, u, h1, h2, hj, ⟨e, hje, hke⟩, h5⟩
  · refine fin (es.push { key := f k, val := v, born := clock }) (clock + 1) ?_ ?_
    · rw [Array.toList_push, List.map_append, he, ← h3 v]; simp
    · simp [Instr.mapUpdate, run_underlying ht, Go.MapKept.run_getObj_map hb, Go.MapKept.run_checkKey hk (hf k), Go.MapKept.run_findKey hk h1, Go.MapKept.run_setObj_map _ hb, Result.andThen]
  · have hj' : es[j]? = some e := by simpa using hje
    refine fin (es.modify j fun e => { e with key := f k, val := v }) clock ?_ ?_
    · rw [Array.toList_modify]; exact h5 v
    · simp [Instr.mapUpdate, run_underlying ht, Go.MapKept.run_getObj_map hb, Go.MapKept.run_checkKey hk (hf k), Go.MapKept.run_findKey hk h1, hj', hke, Go.MapKept.run_keyThatStays (hf k), Go.MapKept.run_setObj_map _ hb, Result.andThen]

end Go.Proofs.Yteohbfaechfliaa
