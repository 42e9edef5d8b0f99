/-
  The numbers of a node's kids: by sizes; slots.kids, ref07.Kids.
-/
import Derived.Test.YteohbfaechfliaaWalk
import Derived.Test.YteohbfaechfliaaGslots
import Derived.Test.YteohbfaechfliaaGref07
namespace Go.Proofs.Yteohbfaechfliaa
open Go.RowKit

/-! ### Where a node's own end -/
theorem kidsE_end : ∀ (us : List T), (∀ u ∈ us, ∀ (id : Nat) (p : Int) (d pl : Nat), ∀ (j : Nat) (e : En), (u.ents id p d pl)[j]? = some e → j + e.t.size ≤ u.size) →
    ∀ (nx : Nat) (p : Int) (d i : Nat), ∀ (j : Nat) (e : En), (kidsE us nx p d i)[j]? = some e → j + e.t.size ≤ (us.map T.size).sum
  | [], _, _, _, _, _, j, e, he => by simp [kidsE_nil] at he
  | u :: us, h, nx, p, d, i, j, e, he => by
    rw [kidsE_cons] at he
    simp only [List.map_cons, List.sum_cons]
    by_cases hj : j < u.size
    · rw [List.getElem?_append_left (by rw [T.ents_len]; exact hj)] at he
      have := h u (by simp) nx p d i j e he; omega
    · rw [List.getElem?_append_right (by rw [T.ents_len]; omega), T.ents_len] at he
      have := kidsE_end us (fun v hv => h v (by simp [hv])) (nx + u.size) p d (i + 1) (j - u.size) e he; omega
theorem T.ents_end : ∀ (t : T) (id : Nat) (p : Int) (d pl : Nat), ∀ (j : Nat) (e : En), (t.ents id p d pl)[j]? = some e → j + e.t.size ≤ t.size := T.ind' fun t ih id p d pl j e he => by
  rw [T.ents_eq] at he
  cases j with
  | zero =>
    simp only [List.getElem?_cons_zero, Option.some.injEq] at he
    subst he; show 0 + t.size ≤ _; omega
  | succ j =>
    rw [List.getElem?_cons_succ] at he
    have := kidsE_end t.kids ih (id + 1) id (d + 1) 0 j e he
    rw [T.size_eq t]; omega
theorem T.flat_get (t : T) {j : Nat} (h : j < t.size) : t.flat[j]? = some (t.flat.getD j ⟨0, 0, 0, T.nul⟩) := by
  have hl : j < t.flat.length := by rw [T.flat_len]; exact h
  rw [List.getD_eq_getElem?_getD, List.getElem?_eq_getElem hl]; rfl
theorem T.zAt_end (t : T) {j : Nat} (h : j < t.size) : j + t.zAt j ≤ t.size ∧ 1 ≤ t.zAt j :=
  ⟨T.ents_end t 0 (-1) 0 0 j _ (t.flat_get h), T.size_pos _⟩

def kidLoop (z : Nat → Nat) (lim : Nat) : Nat → Nat → List Nat
  | 0, _ => []
  | f + 1, k => if k < lim then k :: kidLoop z lim f (k + z k) else []
theorem kidLoop_more (z : Nat → Nat) (lim : Nat) (hz : ∀ k, k < lim → 1 ≤ z k) : ∀ (f k : Nat), lim ≤ f + k → ∀ g, lim ≤ g + k → kidLoop z lim f k = kidLoop z lim g k
  | 0, k, h, g, hg => by
    cases g with
    | zero => rfl
    | succ g => rw [kidLoop, kidLoop, if_neg (by omega)]
  | f + 1, k, h, 0, hg => by rw [kidLoop, kidLoop, if_neg (by omega)]
  | f + 1, k, h, g + 1, hg => by
    rw [kidLoop, kidLoop]
    by_cases hk : k < lim
    · have := hz k hk
      rw [if_pos hk, if_pos hk, kidLoop_more z lim hz f (k + z k) (by omega) g (by omega)]
    · rw [if_neg hk, if_neg hk]
/-- The numbers of a node's kids. -/
def T.kidsAt (t : T) (j : Nat) : List Nat := kidLoop t.zAt (j + t.zAt j) t.size (j + 1)
theorem kidLoop_lt (z : Nat → Nat) (lim : Nat) : ∀ (f k : Nat), ∀ x ∈ kidLoop z lim f k, k ≤ x ∧ x < lim
  | 0, _, x, hx => by cases hx
  | f + 1, k, x, hx => by
    rw [kidLoop] at hx
    split at hx
    · rcases List.mem_cons.1 hx with rfl | hx
      · omega
      · have := kidLoop_lt z lim f (k + z k) x hx; omega
    · cases hx
theorem T.kidsAt_lt (t : T) {j : Nat} (h : j < t.size) : ∀ x ∈ t.kidsAt j, j < x ∧ x < t.size := fun x hx => by
  have h1 := kidLoop_lt _ _ _ _ x hx
  have := (t.zAt_end h).1
  omega
theorem kidLoop_len (z : Nat → Nat) (lim : Nat) (hz : ∀ k, k < lim → 1 ≤ z k) : ∀ (f k : Nat), (kidLoop z lim f k).length ≤ lim - k
  | 0, _ => by simp [kidLoop]
  | f + 1, k => by
    rw [kidLoop]
    split
    · rename_i hk
      have := kidLoop_len z lim hz f (k + z k)
      have := hz k hk
      simp only [List.length_cons]; omega
    · simp
theorem T.kidsAt_len (t : T) {j : Nat} (h : j < t.size) : (t.kidsAt j).length ≤ t.size := by
  have h1 := (t.zAt_end h).1
  have := kidLoop_len t.zAt (j + t.zAt j) (fun k hk => (t.zAt_end (by omega)).2) t.size (j + 1)
  unfold T.kidsAt; omega

def nc (k : Nat) : List Value := [.int .i64 (k : Int)]
theorem ones_nc (k : Nat) : ∀ u ∈ [nc k].flatten, u.oneCell' = true := by intro u hu; simp [nc] at hu; subst hu; rfl

/-- The blocks of rows of unlike types are apart. -/
theorem Own.apart {A B : List Nat} {w : World} {s a : Sl} {m n : Nat} {T S : TypeId} {vs us : List (List Value)} (h : Own A w s m T vs) (k : Own B w a n S us) (hne : T ≠ S) : ∀ b ∈ s.blk, b ∉ a.blk := by
  intro b hb hm
  rcases h.at_ with e | ⟨g, cur, h1, _, h3, _⟩
  · rw [e] at hb; simp [Sl.blk, Sl.nil] at hb
  · simp [Sl.blk, h1] at hb; subst hb
    exact (k.other h3 (Ne.symm hne)) hm

/-- slots.kids, over items of which the sizes can be read. -/
theorem slotsKids {A : List Nat} {w : World} {a : Sl} {t : T} (h : Items A w a t) (hb : t.size ≤ 1000000000) {j : Nat} (hj : j < t.size) :
    Calls Try.prog 41 #[a.v, .int .i64 (j : Int)] w (Ret fun v w' => Ext w w' ∧ ∃ s : Sl, v = s.v ∧ Own (List.range w.heap.size) w' s 1 3 ((t.kidsAt j).map nc)) := by
  obtain ⟨al, hal, ho, hr⟩ := h
  have hn := ho.len
  rw [icl_len, T.flat_len] at hn
  have hend := t.zAt_end hj
  refine slots_kids.ok _ _ ?_
  unfold slots_kids.vc
  obtain ⟨p, hp⟩ : ∃ p, a.a = some p := by
    obtain ⟨p, hp, _⟩ := ho.row.at_ j (by rw [icl_len, T.flat_len]; exact hj)
    exact ⟨p, hp⟩
  have hpb : p.block ∈ a.blk := by simp [Sl.blk, hp]
  have size : ∀ w', Ext w w' → ∀ k, k < t.size → w'.cell? ((p.add (k * 10)).add 1) = some (.int .i64 (t.zAt k : Int)) := fun w' hE k hk => by
    have := (ho.ext hE).row.cells1 (i := k) (by rw [icl_len, T.flat_len]; exact hk) hp
    rw [icl_get _ _ _ _ (by rw [T.flat_len]; exact hk)] at this
    exact this 1 _ rfl
  refine ⟨⟨by omega, by omega⟩, fun s k w' => ∃ (k' f : Nat) (us : List Nat), k = (k' : Int) ∧ j < k' ∧ t.size ≤ f + k' ∧ Own (List.range w.heap.size) w' s 1 3 (us.map nc) ∧ us ++ kidLoop t.zAt (j + t.zAt j) f k' = t.kidsAt j ∧ us.length ≤ k' ∧ k' ≤ t.size ∧ Ext w w', fun _ k _ => t.size - k.toNat,
    ⟨j + 1, t.size, [], by omega, by omega, by omega, Own.nil _ _ _ _, rfl, by simp, by omega, Chg.refl _ _⟩, ?_⟩
  rintro s _ w2 ⟨k, f, us, rfl, hjk, hf, hO, hus, hul, hks, hE⟩
  refine ⟨⟨by omega, by omega⟩, p, hp, (t.zAt j : Int), size w2 hE j hj, ⟨by omega, by omega⟩, fun hlt w3 B hN hE3 hB => ?_, fun hge => ?_⟩
  · have hk : k < t.size := by omega
    have hzk := t.zAt_end hk
    have hun := hO.len
    rw [List.length_map] at hun
    obtain ⟨f', rfl⟩ : ∃ f', f = f' + 1 := by
      cases f with
      | zero => exact absurd hf (by omega)
      | succ f => exact ⟨f, rfl⟩
    rw [kidLoop, if_pos (by omega)] at hus
    have hbox : Box w3 B 3 (nc k) := hB
    refine App.runK Try.underlying22 ti_3 rfl (by decide) (.inl (hO.ext hE3)) (fun b hb => Nat.lt_of_lt_of_le (List.mem_range.1 hb) (hE.trans hE3).size) (Own.one (A := []) hbox (by simp)).row (ones_nc _) (by simp) (by simp only [maxLen, List.length_singleton]; omega) (by simp only [List.length_singleton]; omega) (by simp) fun s' w4 ho4 hC4 hb4 => ?_
    have hE4 : Ext w w4 := Chg.fresh (hE.trans hE3) hC4 (fun b hb => by have := (hO.blk b (Sl.own_blk hb)).1; simp at this; exact this)
    refine ⟨s', rfl, ⟨by omega, by omega⟩, p, hp, (t.zAt k : Int), size w4 hE4 k hk, ⟨by omega, by omega⟩, ⟨k + t.zAt k, f', us ++ [k], by omega, by omega, by omega, by rw [List.map_append]; exact ho4, by rw [List.append_assoc]; exact hus, by simp; omega, by omega, hE4⟩, ?_⟩
    dsimp only; omega
  · refine ⟨hE, s, rfl, ?_⟩
    have : us = t.kidsAt j := by
      rw [← hus]
      cases f with
      | zero => simp [kidLoop]
      | succ f => rw [kidLoop, if_neg (by omega)]; simp
    rw [← this]; exact hO

end Go.Proofs.Yteohbfaechfliaa
