/-
  A tree's nodes in order, each with its parent's number, its depth, its place. Plain.
-/
import Derived.Test.YteohbfaechfliaaTreeR
namespace Go.Proofs.Yteohbfaechfliaa
open Go.RowKit

structure En where
  par : Int
  dep : Nat
  pl : Nat
  t : T
def goE : List (Nat × (Nat → Int → Nat → Nat → List En)) → Nat → Int → Nat → Nat → List En
  | [], _, _, _, _ => []
  | (s, f) :: r, nx, p, d, i => f nx p d i ++ goE r (nx + s) p d (i + 1)
def T.ents : T → Nat → Int → Nat → Nat → List En
  | .node k n x ats ks, id, p, d, pl => ⟨p, d, pl, .node k n x ats ks⟩ :: goE (ks.attach.map fun ⟨t, _⟩ => (t.size, ents t)) (id + 1) id (d + 1) 0
def kidsE (us : List T) (nx : Nat) (p : Int) (d i : Nat) : List En := goE (us.map fun t => (t.size, t.ents)) nx p d i
theorem T.ents_eq (t : T) (id : Nat) (p : Int) (d pl : Nat) : t.ents id p d pl = ⟨p, d, pl, t⟩ :: kidsE t.kids (id + 1) id (d + 1) 0 := by
  cases t with | node k n x ats ks => rw [T.ents]; simp only [kidsE, T.kids]; congr 1; congr 1; exact List.attach_map_subtype_val (l := ks) ▸ (by simp [List.map_attach_eq_pmap])
theorem kidsE_nil (nx : Nat) (p : Int) (d i : Nat) : kidsE [] nx p d i = [] := rfl
theorem kidsE_cons (u : T) (us : List T) (nx : Nat) (p : Int) (d i : Nat) : kidsE (u :: us) nx p d i = u.ents nx p d i ++ kidsE us (nx + u.size) p d (i + 1) := rfl
theorem kidsE_len' : ∀ (us : List T), (∀ u ∈ us, ∀ id p d pl, (u.ents id p d pl).length = u.size) → ∀ nx p d i, (kidsE us nx p d i).length = (us.map T.size).sum
  | [], _, _, _, _, _ => rfl
  | u :: us, h, nx, p, d, i => by
    rw [kidsE_cons, List.length_append, h u (by simp), kidsE_len' us (fun v hv => h v (by simp [hv]))]; simp
theorem T.ents_len : ∀ (t : T) (id : Nat) (p : Int) (d pl : Nat), (t.ents id p d pl).length = t.size := T.ind' fun t ih id p d pl => by
  rw [T.ents_eq, List.length_cons, kidsE_len' _ ih, T.size_eq]; omega
theorem kidsE_len (us : List T) (nx : Nat) (p : Int) (d i : Nat) : (kidsE us nx p d i).length = (us.map T.size).sum := kidsE_len' us (fun u _ => T.ents_len u) nx p d i
theorem T.size_pos (t : T) : 1 ≤ t.size := by rw [T.size_eq]; omega

/-- Where parents' numbers lie. -/
theorem kidsE_par' : ∀ (us : List T) (nx : Nat) (p : Int) (d i : Nat), (∀ u ∈ us, ∀ (id : Nat) (p : Int) (d pl : Nat), ∀ e ∈ (u.ents id p d pl).tail, (id : Int) ≤ e.par ∧ e.par < id + u.size) →
    ∀ e ∈ kidsE us nx p d i, e.par = p ∨ ((nx : Int) ≤ e.par ∧ e.par < nx + (us.map T.size).sum)
  | [], _, _, _, _, _, e, he => by cases he
  | u :: us, nx, p, d, i, h, e, he => by
    rw [kidsE_cons] at he
    simp only [List.map_cons, List.sum_cons]
    rcases List.mem_append.1 he with he | he
    · rw [T.ents_eq] at he
      rcases List.mem_cons.1 he with rfl | he
      · exact .inl rfl
      · have := h u (by simp) nx p d i e (by rw [T.ents_eq]; exact he)
        exact .inr ⟨this.1, by omega⟩
    · rcases kidsE_par' us (nx + u.size) p d (i + 1) (fun v hv => h v (by simp [hv])) e he with h1 | ⟨h1, h2⟩
      · exact .inl h1
      · exact .inr ⟨by omega, by omega⟩
theorem T.ents_par : ∀ (t : T) (id : Nat) (p : Int) (d pl : Nat), ∀ e ∈ (t.ents id p d pl).tail, (id : Int) ≤ e.par ∧ e.par < id + t.size := T.ind' fun t ih id p d pl e he => by
  rw [T.ents_eq, List.tail_cons] at he
  rw [T.size_eq]
  rcases kidsE_par' t.kids (id + 1) id (d + 1) 0 ih e he with h | ⟨h1, h2⟩
  · omega
  · omega
theorem kidsE_par (us : List T) (nx : Nat) (p : Int) (d i : Nat) : ∀ e ∈ kidsE us nx p d i, e.par = p ∨ ((nx : Int) ≤ e.par ∧ e.par < nx + (us.map T.size).sum) := kidsE_par' us nx p d i fun u _ => T.ents_par u

def selT (k : Int) (es : List En) : List T := (es.filter fun e => decide (e.par = k)).map (·.t)
theorem selT_app (k : Int) (a b : List En) : selT k (a ++ b) = selT k a ++ selT k b := by simp [selT]
theorem selT_none {k : Int} {es : List En} (h : ∀ e ∈ es, e.par ≠ k) : selT k es = [] := by
  unfold selT; rw [List.filter_eq_nil_iff.2 (fun e he => by simpa using h e he)]; rfl
theorem selT_cons (k : Int) (e : En) (es : List En) : selT k (e :: es) = (if e.par = k then [e.t] else []) ++ selT k es := by
  unfold selT; by_cases h : e.par = k <;> simp [h]
/-- The kids of the parent itself. -/
theorem selT_kids : ∀ (us : List T) (nx : Nat) (p : Int) (d i : Nat), p < nx → selT p (kidsE us nx p d i) = us
  | [], _, _, _, _, _ => rfl
  | u :: us, nx, p, d, i, hp => by
    rw [kidsE_cons, selT_app, selT_kids us (nx + u.size) p d (i + 1) (by omega), T.ents_eq, selT_cons, if_pos rfl]
    rw [selT_none (k := p) (fun e he => by
      have := T.ents_par u nx p d i e (by rw [T.ents_eq]; exact he)
      omega)]
    rfl
theorem kidsE_sel : ∀ (us : List T), (∀ u ∈ us, ∀ (id : Nat) (p : Int) (d pl : Nat), p < id → ∀ (j : Nat) (e : En), (u.ents id p d pl)[j]? = some e → selT (id + j : Nat) (u.ents id p d pl) = e.t.kids) →
    ∀ (nx : Nat) (p : Int) (d i : Nat), p < nx → ∀ (j : Nat) (e : En), (kidsE us nx p d i)[j]? = some e → selT (nx + j : Nat) (kidsE us nx p d i) = e.t.kids
  | [], _, _, _, _, _, _, j, e, he => by simp [kidsE_nil] at he
  | u :: us, h, nx, p, d, i, hp, j, e, he => by
    rw [kidsE_cons] at he ⊢
    rw [selT_app]
    by_cases hj : j < u.size
    · rw [List.getElem?_append_left (by rw [T.ents_len]; exact hj)] at he
      rw [h u (by simp) nx p d i hp j e he, selT_none (es := kidsE us _ _ _ _) (fun f hf => by
        rcases kidsE_par _ _ _ _ _ f hf with h1 | ⟨h1, h2⟩ <;> omega)]
      simp
    · rw [List.getElem?_append_right (by rw [T.ents_len]; omega), T.ents_len] at he
      rw [selT_none (es := u.ents _ _ _ _) (fun f hf => by
        rw [T.ents_eq] at hf
        rcases List.mem_cons.1 hf with rfl | hf
        · show p ≠ _; omega
        · have := T.ents_par u nx p d i f (by rw [T.ents_eq]; exact hf)
          omega)]
      have := kidsE_sel us (fun v hv => h v (by simp [hv])) (nx + u.size) p d (i + 1) (by omega) (j - u.size) e he
      rw [show nx + u.size + (j - u.size) = nx + j by omega] at this
      rw [this]; rfl
/-- Whose parent is the node of a number: that node's kids. -/
theorem T.ents_sel : ∀ (t : T) (id : Nat) (p : Int) (d pl : Nat), p < id → ∀ (j : Nat) (e : En), (t.ents id p d pl)[j]? = some e → selT (id + j : Nat) (t.ents id p d pl) = e.t.kids := T.ind' fun t ih id p d pl hp j e he => by
  rw [T.ents_eq] at he ⊢
  rw [selT_cons]
  cases j with
  | zero =>
    simp only [List.getElem?_cons_zero, Option.some.injEq] at he
    subst he
    rw [if_neg (by show ¬ p = _; omega), Nat.add_zero, selT_kids _ _ _ _ _ (by omega)]; rfl
  | succ j =>
    rw [List.getElem?_cons_succ] at he
    have := kidsE_sel t.kids ih (id + 1) id (d + 1) 0 (by omega) j e he
    rw [show id + 1 + j = id + (j + 1) by omega] at this
    rw [if_neg (by show ¬ p = _; omega), this]; rfl

/-- A parent's number is less than a kid's. -/
theorem kidsE_lt' : ∀ (us : List T), (∀ u ∈ us, ∀ (id : Nat) (p : Int) (d pl : Nat), p < id → ∀ (j : Nat) (e : En), (u.ents id p d pl)[j]? = some e → e.par < (id + j : Nat)) →
    ∀ (nx : Nat) (p : Int) (d i : Nat), p < nx → ∀ (j : Nat) (e : En), (kidsE us nx p d i)[j]? = some e → e.par < (nx + j : Nat)
  | [], _, _, _, _, _, _, j, e, he => by simp [kidsE_nil] at he
  | u :: us, h, nx, p, d, i, hp, j, e, he => by
    rw [kidsE_cons] at he
    by_cases hj : j < u.size
    · rw [List.getElem?_append_left (by rw [T.ents_len]; exact hj)] at he
      exact h u (by simp) nx p d i hp j e he
    · rw [List.getElem?_append_right (by rw [T.ents_len]; omega), T.ents_len] at he
      have := kidsE_lt' us (fun v hv => h v (by simp [hv])) (nx + u.size) p d (i + 1) (by omega) (j - u.size) e he
      omega
theorem T.ents_lt : ∀ (t : T) (id : Nat) (p : Int) (d pl : Nat), p < id → ∀ (j : Nat) (e : En), (t.ents id p d pl)[j]? = some e → e.par < (id + j : Nat) := T.ind' fun t ih id p d pl hp j e he => by
  rw [T.ents_eq] at he
  cases j with
  | zero =>
    simp only [List.getElem?_cons_zero, Option.some.injEq] at he
    subst he; show p < _; omega
  | succ j =>
    rw [List.getElem?_cons_succ] at he
    have := kidsE_lt' t.kids ih (id + 1) id (d + 1) 0 (by omega) j e he
    omega

/-- All nodes of a tree, in order. -/
def T.flat (t : T) : List En := t.ents 0 (-1) 0 0
theorem T.flat_len (t : T) : t.flat.length = t.size := T.ents_len t _ _ _ _
theorem T.flat_sel (t : T) {k : Nat} {e : En} (h : t.flat[k]? = some e) : selT k t.flat = e.t.kids := by
  have := T.ents_sel t 0 (-1) 0 0 (by omega) k e h
  rwa [Nat.zero_add] at this
theorem T.flat_lt (t : T) {k : Nat} {e : En} (h : t.flat[k]? = some e) : e.par < k := by
  have := T.ents_lt t 0 (-1) 0 0 (by omega) k e h
  rwa [Nat.zero_add] at this
theorem T.flat_par (t : T) {k : Nat} {e : En} (h : t.flat[k + 1]? = some e) : 0 ≤ e.par ∧ e.par < t.size := by
  have := T.ents_par t 0 (-1) 0 0 e (by
    have h' : t.flat.tail[k]? = some e := by rw [List.getElem?_tail]; exact h
    exact List.mem_of_getElem? h')
  omega
theorem T.flat_zero (t : T) : t.flat[0]? = some ⟨-1, 0, 0, t⟩ := by unfold T.flat; rw [T.ents_eq]; rfl
/-- Behind the node of a number alone. -/
theorem T.flat_drop (t : T) {k : Nat} {e : En} (h : t.flat[k]? = some e) : selT k (t.flat.drop (k + 1)) = e.t.kids := by
  have h1 := t.flat_sel h
  rw [← List.take_append_drop (k + 1) t.flat, selT_app] at h1
  rw [selT_none (es := t.flat.take (k + 1)) (fun f hf => by
    obtain ⟨j, hj, e⟩ := List.getElem_of_mem hf
    have hj' : t.flat[j]? = some f := by
      rw [← e, List.getElem_take, List.getElem?_eq_getElem]
    have := t.flat_lt hj'
    simp at hj
    omega)] at h1
  simpa using h1

/-- What is still to come, when these stand on the stack (the next one first). -/
def rem : List (T × Int × Nat × Nat) → Nat → List En
  | [], _ => []
  | (t, p, d, pl) :: r, id => t.ents id p d pl ++ rem r (id + t.size)
def pushed (p : Int) (d : Nat) : List T → Nat → List (T × Int × Nat × Nat)
  | [], _ => []
  | u :: us, i => (u, p, d, i) :: pushed p d us (i + 1)
theorem rem_push (p : Int) (d : Nat) (r : List (T × Int × Nat × Nat)) : ∀ (us : List T) (nx i : Nat), rem (pushed p d us i ++ r) nx = kidsE us nx p d i ++ rem r (nx + (us.map T.size).sum)
  | [], nx, i => by simp [pushed, kidsE_nil]
  | u :: us, nx, i => by
    rw [pushed, List.cons_append, rem, rem_push p d r us, kidsE_cons, List.append_assoc]; simp [Nat.add_assoc]
theorem rem_step (t : T) (p : Int) (d pl : Nat) (r : List (T × Int × Nat × Nat)) (id : Nat) : rem ((t, p, d, pl) :: r) id = ⟨p, d, pl, t⟩ :: rem (pushed id (d + 1) t.kids 0 ++ r) (id + 1) := by
  rw [rem, T.ents_eq, rem_push, List.cons_append, T.size_eq, Nat.add_assoc]
theorem pushed_len (p : Int) (d : Nat) : ∀ (us : List T) (i : Nat), (pushed p d us i).length = us.length
  | [], _ => rfl
  | _ :: us, i => by rw [pushed, List.length_cons, pushed_len p d us, List.length_cons]
theorem pushed_drop (p : Int) (d : Nat) : ∀ (us : List T) (i k : Nat), (pushed p d us i).drop k = pushed p d (us.drop k) (i + k)
  | [], i, k => by simp [pushed]
  | _ :: us, i, 0 => by simp
  | u :: us, i, k + 1 => by rw [pushed, List.drop_succ_cons, List.drop_succ_cons, pushed_drop p d us (i + 1) k]; congr 1; omega

theorem rem_len : ∀ (st : List (T × Int × Nat × Nat)) (id : Nat), st.length ≤ (rem st id).length
  | [], _ => Nat.le_refl _
  | (t, p, d, pl) :: r, id => by
    rw [rem, List.length_append, T.ents_len, List.length_cons]
    have := rem_len r (id + t.size)
    have := T.size_pos t
    omega
theorem kidsE_dep : ∀ (us : List T), (∀ u ∈ us, ∀ (id : Nat) (p : Int) (d pl : Nat), ∀ e ∈ u.ents id p d pl, e.dep < d + u.size) → ∀ (nx : Nat) (p : Int) (d i : Nat), ∀ e ∈ kidsE us nx p d i, e.dep < d + (us.map T.size).sum
  | [], _, _, _, _, _, e, he => by cases he
  | u :: us, h, nx, p, d, i, e, he => by
    rw [kidsE_cons] at he
    simp only [List.map_cons, List.sum_cons]
    rcases List.mem_append.1 he with he | he
    · have := h u (by simp) nx p d i e he; omega
    · have := kidsE_dep us (fun v hv => h v (by simp [hv])) (nx + u.size) p d (i + 1) e he; omega
theorem T.ents_dep : ∀ (t : T) (id : Nat) (p : Int) (d pl : Nat), ∀ e ∈ t.ents id p d pl, e.dep < d + t.size := T.ind' fun t ih id p d pl e he => by
  rw [T.ents_eq] at he
  rw [T.size_eq]
  rcases List.mem_cons.1 he with rfl | he
  · show d < _; omega
  · have := kidsE_dep t.kids ih (id + 1) id (d + 1) 0 e he; omega
theorem T.flat_dep (t : T) {e : En} (h : e ∈ t.flat) : e.dep < t.size := by
  have := T.ents_dep t 0 (-1) 0 0 e h; omega

theorem T.flat_bulk (t : T) : ∀ e ∈ t.flat, e.t.bulk ≤ t.bulk := by
  have key : ∀ (t : T) (id : Nat) (p : Int) (d pl : Nat), ∀ e ∈ t.ents id p d pl, e.t.bulk ≤ t.bulk := T.ind' fun t ih id p d pl e he => by
    rw [T.ents_eq] at he
    rcases List.mem_cons.1 he with rfl | he
    · exact Nat.le_refl _
    · have go : ∀ (us : List T), (∀ u ∈ us, u ∈ t.kids) → ∀ (nx : Nat) (p : Int) (d i : Nat), e ∈ kidsE us nx p d i → e.t.bulk ≤ t.bulk := by
        intro us
        induction us with
        | nil => intro _ _ _ _ _ he; cases he
        | cons u us ih2 =>
          intro hu nx p d i he
          rw [kidsE_cons] at he
          rcases List.mem_append.1 he with he | he
          · exact Nat.le_trans (ih u (hu u (by simp)) nx p d i e he) (Nat.le_of_lt (T.kid_bulk (hu u (by simp))))
          · exact ih2 (fun v hv => hu v (by simp [hv])) _ _ _ _ he
      exact go t.kids (fun u hu => hu) _ _ _ _ he
  exact key t 0 (-1) 0 0

end Go.Proofs.Yteohbfaechfliaa
