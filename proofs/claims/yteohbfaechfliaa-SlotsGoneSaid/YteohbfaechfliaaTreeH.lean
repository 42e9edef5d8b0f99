/-
  The laws' trees by numbers: Grown. TreeSpoilt, TreeAttrs.
-/
import Derived.Test.YteohbfaechfliaaTreeG
namespace Go.Proofs.Yteohbfaechfliaa
open Go.RowKit

theorem len_sizes (us : List T) : us.length ≤ (us.map T.size).sum := by
  have h1 : (us.map fun _ => 1).sum ≤ (us.map T.size).sum := T.sum_le _ _ us fun u _ => by rw [T.size_eq]; omega
  have h2 : ∀ l : List T, (l.map fun _ => 1).sum = l.length := fun l => by induction l with
    | nil => rfl
    | cons a r ih => simp only [List.map_cons, List.sum_cons, ih, List.length_cons]; omega
  rw [h2] at h1; exact h1

/-- What may be said of the kids of a tree that is grown. -/
structure Grove (us : List T) : Prop where
  ne : us ≠ []
  each : ∀ u ∈ us, Sprout 6 u
  few : (us.map T.size).sum ≤ 40

def grownT (us : List T) : T := .node 1 [] [] [] us

theorem Grove.bulk {us : List T} (h : Grove us) : (grownT us).bulk ≤ 601 := by
  have h2 : (us.map T.bulk).sum ≤ (us.map fun u => 15 * u.size).sum := T.sum_le _ _ us fun u hm => (h.each u hm).few
  have h3 : (us.map fun u => 15 * u.size).sum = 15 * (us.map T.size).sum := by
    have key : ∀ l : List T, (l.map fun u => 15 * u.size).sum = 15 * (l.map T.size).sum := fun l => by induction l with
      | nil => rfl
      | cons u r ih => simp only [List.map_cons, List.sum_cons, ih]; omega
    exact key us
  have h4 := h.few
  rw [T.bulk_eq]
  simp only [grownT, T.name, T.text, T.attrs, T.kids, List.length_nil, List.map_nil, List.sum_nil]; omega
theorem Grove.check {us : List T} (h : Grove us) : (grownT us).check = true := by
  have hs : (grownT us).size ≤ 41 := by rw [T.size_eq]; have := h.few; simp only [grownT, T.kids]; omega
  have hd : (grownT us).depth ≤ 7 := by
    rw [T.depth_eq]
    have : ((grownT us).kids.map T.depth).foldr max 0 ≤ 6 := T.foldr_max_le fun x hx => by
      obtain ⟨u, hm, rfl⟩ := List.mem_map.1 hx
      exact (h.each u hm).deep
    omega
  have hk : kidsOk (grownT us) = true := by
    unfold kidsOk
    rw [List.all_eq_true]
    intro u hm
    have := h.each u hm
    have h3 := this.kind
    rw [this.ok, decide_eq_false (by omega : ¬ u.kind = 5)]; rfl
  unfold T.check
  rw [hk, decide_eq_true (show (grownT us).size ≤ 300 by omega), decide_eq_true (show (grownT us).depth ≤ 60 by omega)]; rfl

theorem lawGrownT {w : World} {l : Sl} {zs : List Int} (hl : Row [] w l 1 (zs.map ic)) :
    Calls Try.prog 8 #[l.v] w (Ret fun v w' => Ext w w' ∧ ∃ (us : List T) (sk : Sl), v = tv (grownT us) Sl.nil sk ∧ Nur (List.range w.heap.size) w' sk us ∧ Grove us) := by
  refine law00_Grown.ok _ ?_
  unfold law00_Grown.vc
  intro w1 B2 Ba Bn B60 hN2 hNa hNn hN60 n1 n2 n3 n4 n5 n6 hE1 hBa1
  have g2 := hN2.ge
  have ga := hNa.ge
  have gn := hNn.ge
  have g60 := hN60.ge
  have l2 := hN2.lt
  have la := hNa.lt
  have ln := hNn.lt
  have l60 := hN60.lt
  have hl0 : Row [Ba, Bn] w l 1 (zs.map ic) := (hl.fresh (by decide) gn).fresh (by decide) ga
  refine CallK.chg (lawNext (x := 0) (hl0.ext hE1) (by simp) hBa1 (by omega)) (by simp; omega) fun v w2 hC2 ⟨r, x', hv, hr, hx', hBa2⟩ => ⟨(r : Int), hv, fun hBn2 => ?_⟩
  have e4 : ((r : Int)).tmod 4 = ((r % 4 : Nat) : Int) := rfl
  rw [e4]
  have hF : ∀ b ∈ [Ba, Bn], w.heap.size ≤ b := by simp; omega
  have hC12 : Chg [Ba, Bn] w w2 := (Chg.ext hE1).more' hC2 (by simp)
  have hsz2 := hC2.size
  have hsz12 := hE1.size
  refine ⟨fun k c w' => -1 ≤ k ∧ k ≤ 3 ∧ Chg [Ba, Bn] w w' ∧ w2.heap.size ≤ w'.heap.size ∧ ∃ (us : List T) (xk : Nat), (us = [] → 0 ≤ k) ∧ Nur (List.range w1.heap.size) w' c us ∧ (∀ u ∈ us, Sprout 6 u) ∧
          Box w' Ba 3 [.int .i64 (xk : Int)] ∧ Box w' Bn 3 [.int .i64 (((us.map T.size).sum : Nat) : Int)] ∧ (us.map T.size).sum ≤ 40 ∧ xk ≤ (us.map T.size).sum + 1,
        fun k _ _ => (k + 1).toNat, ⟨by omega, by omega, hC12, Nat.le_refl _, [], x', fun _ => by omega, Nur.nil _ _, by simp, hBa2, hBn2, by simp, by simp; omega⟩, ?_⟩
  rintro k c w3 ⟨hk1, hk3, hC3, hsz3, us, xk, hke, hNur, hus, hBa3, hBn3, hn3, hx3⟩
  have hcb : ∀ b ∈ c.blk, w1.heap.size ≤ b ∧ b < w3.heap.size := fun b hb => by
    have h := hNur.own.2.2.2 b hb
    have h1 := h.1
    simp at h1; omega
  refine ⟨(((us.map T.size).sum : Nat) : Int), fun _ => hBn3.cell 0 _ rfl, fun ⟨hk0, hk40⟩ w4 hE4 => ?_, fun hstop w4 hC4 => ?_⟩
  · have hC4 := hC3.more' hE4 (by simp)
    have hcall := lawGrown n4 5 (by omega) (w := w4) (x := xk) (n := (us.map T.size).sum) (by omega) (by omega) (hl0.chg hC4 (by simp)) (hBa3.ext hE4) (hBn3.ext hE4)
    have hsz4 := hE4.size
    refine CallK.chg hcall (by simp; omega) ?_
    rintro v w5 hC5 ⟨u, su, sku, xu, rfl, hru, hBa5, hBn5, hn5, hx5, hspr⟩
    refine ⟨_, _, _, su, sku, rfl, fun w6 B6 hE6 hB6 hbox6 w7 hE7 hbox7 => ?_⟩
    have hE57 : Ext w5 w7 := hE6.trans hE7
    have hsz5 := hC5.size
    have hsz7 := hE57.size
    have hNur7 := ((hNur.ext hE4).chg hC5 (fun b hb => List.mem_range.2 (by simp at hb; rcases hb with rfl | rfl <;> omega))).ext hE57
    have hC7 : Chg [Ba, Bn] w w7 := (hC4.trans hC5).more' hE57 (by simp)
    refine hNur7.push (fun b hb => by have := List.mem_range.1 hb; omega) hbox7 ((hru.ext hE57).less fun b hb => List.mem_range.2 ?_) ?_ (fun b hb => List.mem_range.2 (by simp at hb; rcases hb with rfl | rfl <;> omega)) fun s' w8 hN8 hC8 hbl => ⟨s', rfl, ⟨by omega, by omega⟩, fun w9 hC9 => ?_⟩
    · rcases List.mem_append.1 hb with hb | hb
      · have := hcb b hb; omega
      · have := List.mem_range.1 hb; omega
    · have := len_sizes us; omega
    · have hown : ∀ b ∈ c.own, w1.heap.size ≤ b := fun b hb => (hcb b (Sl.own_blk hb)).1
      have hsz8 := hC8.size
      have hsz9 := hC9.size
      have es : ((us ++ [u]).map T.size).sum = (us.map T.size).sum + u.size := by simp
      have q1 : ∀ b ∈ [Ba, Bn], b ∉ c.own := fun b hb hm => by have := hown b hm; simp at hb; rcases hb with rfl | rfl <;> omega
      have q2 : ∀ b ∈ [Ba, Bn], b ∉ [B60] := fun b hb hm => by simp at hb hm; rcases hb with rfl | rfl <;> omega
      refine ⟨⟨by omega, by omega, (hC7.more' hC8 (fun b hb => .inr (by have := hown b hb; omega))).more' hC9 (by simp; omega), by omega, us ++ [u], xu, by simp, hN8.chg hC9 (by simpa using l60), fun y hy => ?_, ((hBa5.ext hE57).keep hC8 (q1 _ (by simp))).keep hC9 (q2 _ (by simp)), ?_, by rw [es]; omega, by rw [es]; omega⟩, by dsimp only; omega⟩
      · rcases List.mem_append.1 hy with hy | hy
        · exact hus y hy
        · simp at hy; subst hy; exact hspr
      · have := ((hBn5.ext hE57).keep hC8 (q1 _ (by simp))).keep hC9 (q2 _ (by simp))
        rw [es]; exact this
  · refine ⟨Chg.fresh (Chg.fresh (Chg.refl [] w) hC3 hF) hC4 (by simpa using g2), us, c, rfl, (hNur.chg hC4 (by simpa using l2)).less (fun b hb => List.mem_range.2 (by have := List.mem_range.1 hb; omega)), ?_, hus, hn3⟩
    rintro rfl
    have := hke rfl
    rcases hstop with h | h
    · omega
    · simp at h

end Go.Proofs.Yteohbfaechfliaa
