/-
  Rows in the making: attributes, nodes; copies of trees.
-/
import Derived.Test.YteohbfaechfliaaTreeW
import Derived.Test.YteohbfaechfliaaRdC
namespace Go.Proofs.Yteohbfaechfliaa
open Go.RowKit

theorem ones_ac (p : Str × Str) : ∀ u ∈ [ac p].flatten, u.oneCell' = true := by intro u hu; simp [ac] at hu; rcases hu with rfl | rfl <;> rfl
theorem ones_acs (l : List (Str × Str)) : ∀ u ∈ (l.map ac).flatten, u.oneCell' = true := by
  intro u hu
  obtain ⟨c, hc, hu⟩ := List.mem_flatten.1 hu
  obtain ⟨p, _, rfl⟩ := List.mem_map.1 hc
  exact ones_ac p u (by simpa using hu)
theorem ones_tc (t : T) (p : Sl × Sl) : ∀ u ∈ [tc t p].flatten, u.oneCell' = true := by intro u hu; simp [tc] at hu; rcases hu with rfl | rfl | rfl | rfl | rfl <;> rfl

/-- Trees in a row of the call's own; they themselves do not stand in it. -/
def Nur (A : List Nat) (w : World) (s : Sl) (ts : List T) : Prop :=
  ∃ ps : List (Sl × Sl), ps.length = ts.length ∧ Own A w s 5 26 (List.zipWith tc ts ps) ∧ ∀ (i : Nat) (t : T) (p : Sl × Sl), ts[i]? = some t → ps[i]? = some p → RdT (s.blk ++ A) w t p.1 p.2

theorem Nur.nil (A : List Nat) (w : World) : Nur A w Sl.nil [] := ⟨[], rfl, Own.nil _ _ _ _, by simp⟩
theorem Nur.own {A : List Nat} {w : World} {s : Sl} {ts : List T} (h : Nur A w s ts) : s.n = ts.length ∧ s.n ≤ s.c ∧ s.c ≤ maxLen ∧ ∀ b ∈ s.blk, b ∉ A ∧ b < w.heap.size := by
  obtain ⟨ps, hl, ho, _⟩ := h
  have := ho.len
  exact ⟨by simp [hl] at this; omega, ho.cap, ho.most, ho.blk⟩
theorem Nur.chg {A F : List Nat} {w w' : World} {s : Sl} {ts : List T} (h : Nur A w s ts) (c : Chg F w w') (hF : ∀ b ∈ F, b ∈ A) : Nur A w' s ts := by
  obtain ⟨ps, hl, ho, hr⟩ := h
  exact ⟨ps, hl, ho.chg c hF, fun i t p ht hp => (hr i t p ht hp).chg c (fun b hb => List.mem_append_right _ (hF b hb))⟩
theorem Nur.ext {A : List Nat} {w w' : World} {s : Sl} {ts : List T} (h : Nur A w s ts) (c : Ext w w') : Nur A w' s ts := h.chg c (by simp)
theorem Nur.less {A A' : List Nat} {w : World} {s : Sl} {ts : List T} (h : Nur A w s ts) (hA : ∀ b ∈ A', b ∈ A) : Nur A' w s ts := by
  obtain ⟨ps, hl, ho, hr⟩ := h
  exact ⟨ps, hl, ho.less hA, fun i t p ht hp => (hr i t p ht hp).less (fun b hb => by
    rcases List.mem_append.1 hb with hb | hb
    · exact List.mem_append_left _ hb
    · exact List.mem_append_right _ (hA b hb))⟩
theorem Nur.rd {A : List Nat} {w : World} {s sa : Sl} {ts : List T} (h : Nur A w s ts) {k : Int} {n x : Str} {ats : List (Str × Str)} (ha : Row A w sa 2 (ats.map ac)) : RdT A w (.node k n x ats ts) sa s := by
  obtain ⟨ps, hl, ho, hr⟩ := h
  exact .mk ps ha hl ho.row (fun i t p ht hp => (hr i t p ht hp).less (fun b hb => List.mem_append_right _ hb))

theorem Nur.push {A bx : List Nat} {w : World} {s : Sl} {ts : List T} {u : T} {su sk : Sl} {B : Nat} {S ty : TypeId} {K : Value → World → Prop} (h : Nur A w s ts) (hA : ∀ b ∈ A, b < w.heap.size) (hB : Box w B S (tc u (su, sk))) (hu : RdT (s.blk ++ A) w u su sk)
    (hl : ts.length + 1 ≤ 1099511627776) (hbx : ∀ b ∈ bx, b ∈ A) (k : ∀ s' w', Nur A w' s' (ts ++ [u]) → Chg s.own w w' → (∀ b ∈ s'.blk, b ∈ s.own ∨ w.heap.size ≤ b) → K s'.v w') :
    RunK Try.prog (Builtin.append_ #[24, 24] ty #[s.v, Sl.v (Sl.mk (some ⟨B, 0, none⟩) 1 1)]) w bx K := by
  have hn := h.own.1
  obtain ⟨ps, hpl, ho, hr⟩ := h
  have hx : Row [] w (Sl.mk (some ⟨B, 0, none⟩) 1 1) 5 [tc u (su, sk)] :=
    ⟨rfl, Nat.le_refl _, by simp [maxLen], fun i hi => by
      have : i = 0 := by simpa using hi
      subst this
      exact ⟨_, rfl, by simp, by rw [Nat.zero_mul, Addr.add_zero']; exact hB.cells, rfl⟩⟩
  refine App.runK Try.underlying24 ti_26 rfl (by decide) (.inl ho) hA hx (ones_tc u _) (by simp) (by simp only [maxLen, List.length_singleton]; omega) (by simp only [List.length_singleton]; omega) hbx fun s' w' ho' hc hb => k s' w' ?_ hc hb
  have back : ∀ {t : T} {p : Sl × Sl}, RdT (s.blk ++ A) w t p.1 p.2 → RdT (s'.blk ++ A) w' t p.1 p.2 := fun {t p} hr => by
    have h1 : ∀ b ∈ s'.blk, b ∈ s.blk ++ A ∨ w.heap.size ≤ b := fun b hm => (hb b hm).imp_left (fun h => List.mem_append_left _ (Sl.own_blk h))
    have h2 : ∀ L : List Nat, (∀ b ∈ L, b ∈ s.blk ++ A ∨ w.heap.size ≤ b) → RdT (L ++ (s.blk ++ A)) w t p.1 p.2 := fun L => by
      induction L with
      | nil => intro _; exact hr
      | cons b L ih =>
        intro hL
        have h3 := ih (fun b hb => hL b (List.mem_cons_of_mem _ hb))
        rcases hL b (List.mem_cons_self ..) with hm | hm
        · refine h3.less fun x hx => ?_
          rcases List.mem_append.1 hx with hx | hx
          · rcases List.mem_cons.1 hx with e | hx
            · subst e; exact List.mem_append_right _ hm
            · exact List.mem_append_left _ hx
          · exact List.mem_append_right _ hx
        · exact h3.fresh hm
    refine ((h2 s'.blk h1).chg hc (fun b hb => List.mem_append_right _ (List.mem_append_left _ (Sl.own_blk hb)))).less fun x hx => ?_
    rcases List.mem_append.1 hx with hx | hx
    · exact List.mem_append_left _ hx
    · exact List.mem_append_right _ (List.mem_append_right _ hx)
  refine ⟨ps ++ [(su, sk)], by simp [hpl], ?_, fun i t p ht hp => ?_⟩
  · rw [List.zipWith_append (by omega)]; exact ho'
  · rcases Nat.lt_trichotomy i ts.length with hi | hi | hi
    · rw [List.getElem?_append_left hi] at ht
      rw [List.getElem?_append_left (by omega)] at hp
      exact back (hr i t p ht hp)
    · rw [List.getElem?_append_right (by omega)] at ht hp
      rw [hi, Nat.sub_self] at ht
      rw [hi, hpl, Nat.sub_self] at hp
      simp at ht hp; subst ht; subst hp
      exact back (p := (su, sk)) hu
    · have := (List.getElem?_eq_some_iff.1 ht).1
      simp at this; omega

/-- A copy of attributes in new memory. -/
theorem lawAttrs {A : List Nat} {w : World} {b : Sl} {l : List (Str × Str)} (h : Row A w b 2 (l.map ac)) (hb : l.length ≤ 1099511627776) :
    Calls Try.prog 43 #[b.v] w (Ret fun v w' => Ext w w' ∧ ∃ s : Sl, v = s.v ∧ Own (List.range w.heap.size) w' s 2 47 (l.map ac)) := by
  refine law00_Attrs.ok _ ?_
  unfold law00_Attrs.vc
  have hl := h.len
  simp only [List.length_map] at hl
  cases hx : l with
  | nil =>
    have e := append_none (P := Try.prog) (w := w) (s := Sl.nil) (x := b) (t := 23) (ty := 23) Try.underlying23 ti_47 (Nat.le_refl _) (by rw [hl, hx]; rfl)
    exact ⟨_, _, e, fun _ _ _ => rfl, Nat.le_refl _, Sl.nil, rfl, Chg.refl _ _, Sl.nil, rfl, Own.nil _ _ _ _⟩
  | cons x r =>
    rw [← hx]
    refine App.runK Try.underlying23 ti_47 rfl (by decide) (.inl (Own.nil (List.range w.heap.size) _ _ _)) (fun b hb => List.mem_range.1 hb) (h.less (by simp)) (ones_acs l) (by rw [hx]; simp) (by simp [maxLen]; omega) (by simp; omega) (by simp) fun s' w' ho hc hb => ⟨s', rfl, ?_, s', rfl, ho⟩
    exact hc.mono (by simp [Sl.own])

/-- A copy of a tree in new memory. -/
theorem lawTree {A : List Nat} : ∀ t : T, t.bulk ≤ 1099511627776 → ∀ {w : World} {sa sk : Sl}, RdT A w t sa sk →
    Calls Try.prog 19 #[tv t sa sk] w (Ret fun v w' => Ext w w' ∧ ∃ sa' sk' : Sl, v = tv t sa' sk' ∧ RdT (List.range w.heap.size) w' t sa' sk') := T.ind' fun t ih hb w sa sk h => by
  refine law00_Tree.ok _ _ _ _ _ ?_
  unfold law00_Tree.vc
  have hn := h.nkids
  have hcp := h.caps
  have hl := T.kids_len t
  have hla : t.attrs.length ≤ 1099511627776 := by have := T.slots_bulk t; have := T.slots_eq t; omega
  intro w1 B2 B10 hN2 hN10 hne hE1
  refine ⟨fun r w' => Own (List.range w1.heap.size) w' r 2 47 (t.attrs.map ac), fun r w' w'' hE h => h.ext hE, fun w' hE => (lawAttrs ((h.ext (hE1.trans hE)).attrs) hla).mono fun e w'' he => by
    cases e with
    | returned v => obtain ⟨h1, s, h2, h3⟩ := he; exact ⟨h1, s, h2, h3.less fun b hb => List.mem_range.2 (Nat.lt_of_lt_of_le (List.mem_range.1 hb) hE.size)⟩
    | _ => exact he, ?_⟩
  intro w2 sa' B45 hE2 hV hB45 hbox w3 hE3
  have hE13 : Ext w1 w3 := Chg.fresh hE2 hE3 (by simpa using hB45)
  have hAt : Own (B45 :: List.range w1.heap.size) w3 sa' 2 47 (t.attrs.map ac) := (hV.cons (hV.other hbox (by decide))).chg hE3 (by simp)
  have hlt3 : w1.heap.size ≤ w3.heap.size := hE13.size
  have hB3 : B45 < w3.heap.size := Nat.lt_of_lt_of_le hbox.lt hE3.size
  refine ⟨fun i c w' => ∃ k : Nat, i = (k : Int) ∧ k ≤ t.kids.length ∧ Nur (B45 :: List.range w1.heap.size) w' c (t.kids.take k) ∧ Own (B45 :: List.range w1.heap.size) w' sa' 2 47 (t.attrs.map ac) ∧ (∀ b ∈ c.blk, b ∉ sa'.blk) ∧ w3.heap.size ≤ w'.heap.size ∧ Ext w1 w', fun i _ _ => t.kids.length - i.toNat, ⟨0, rfl, Nat.zero_le _, Nur.nil _ _, hAt, by simp [Sl.blk], Nat.le_refl _, hE13⟩, ?_⟩
  rintro _ c w4 ⟨k, rfl, hk, hNur, hAt4, hdis, hsz, hE4⟩
  have hA4 : ∀ b ∈ B45 :: List.range w1.heap.size, b < w4.heap.size := fun b hb => by
    rcases List.mem_cons.1 hb with rfl | hb
    · omega
    · have := List.mem_range.1 hb; omega
  refine ⟨fun hi w5 hE5 => ?_, fun hi w5 hE5 => ?_⟩
  · have hk' : k < t.kids.length := by omega
    obtain ⟨p, sau, sku, hp, _, hc, hr⟩ := (h.ext ((hE1.trans hE4).trans hE5)).kid hk'
    rw [Int.toNat_natCast]
    have hm := getD_mem (d := T.nul) hk'
    refine ⟨p, ⟨⟨by omega, hi⟩, hp⟩, _, _, _, sau, sku, hc, fun kd n x a b w' => kd = (t.kids.getD k T.nul).kind ∧ n = (t.kids.getD k T.nul).name ∧ x = (t.kids.getD k T.nul).text ∧ RdT (List.range w5.heap.size) w' (t.kids.getD k T.nul) a b,
      fun _ _ _ _ _ w' w'' hE hv => ⟨hv.1, hv.2.1, hv.2.2.1, hv.2.2.2.ext hE⟩, fun w' hE => (ih _ hm (by have := T.kid_bulk hm; omega) (hr.ext hE)).mono fun e w'' he => by
        cases e with
        | returned v => obtain ⟨h1, a, b, h2, h3⟩ := he; exact ⟨h1, _, _, _, a, b, h2, rfl, rfl, rfl, h3.less fun b hb => List.mem_range.2 (Nat.lt_of_lt_of_le (List.mem_range.1 hb) hE.size)⟩
        | _ => exact he, ?_⟩
    rintro w6 _ _ _ a b B6 hE6 ⟨rfl, rfl, rfl, hV6⟩ hB6 hbox6 _
    have hE56 : Ext w4 w6 := hE5.trans hE6
    refine (hNur.ext hE56).push (fun b hb => Nat.lt_of_lt_of_le (hA4 b hb) hE56.size) hbox6 ?_ (by simp; omega) ?_ fun s' w7 hN hC hbl => ⟨s', rfl, ⟨by omega, by omega⟩, fun w8 hE8 => ⟨⟨k + 1, by omega, by omega, ?_, ?_, ?_, ?_, ?_⟩, by dsimp only; omega⟩⟩
    · refine hV6.less fun x hx => List.mem_range.2 ?_
      have := hE5.size
      rcases List.mem_append.1 hx with hx | hx
      · have := (hNur.own.2.2.2 x hx).2; omega
      · have := hA4 x hx; omega
    · intro b hb
      simp only [List.mem_cons, List.not_mem_nil, or_false] at hb
      rcases hb with rfl | rfl | rfl
      · exact List.mem_cons_of_mem _ (List.mem_range.2 hN2.lt)
      · exact List.mem_cons_of_mem _ (List.mem_range.2 hN10.lt)
      · simp
    · rw [take_getD hk']; exact hN.chg hE8 (by simp)
    · have := (hAt4.ext hE56)
      have h2 : Own (c.own ++ (B45 :: List.range w1.heap.size)) w6 sa' 2 47 (t.attrs.map ac) := this.avoid fun b hb hm => by
        rcases List.mem_append.1 hm with hm | hm
        · exact hdis b (Sl.own_blk hm) hb
        · exact (this.blk b hb).1 hm
      exact (Own.less (A' := B45 :: List.range w1.heap.size) (h2.chg hC (fun b hb => List.mem_append_left _ hb)) (fun b hb => List.mem_append_right _ hb)).chg hE8 (by simp)
    · intro b hb hm
      rcases hbl b hb with h | h
      · exact hdis b (Sl.own_blk h) hm
      · have := (hAt4.blk b hm).2
        have := hE56.size; omega
    · have h1 := hE56.size; have h2 := hC.size; have h3 := hE8.size; omega
    · refine Chg.fresh (Chg.fresh (hE4.trans hE56) hC fun x hx => ?_) hE8 (by simpa using hB45)
      have := (hNur.own.2.2.2 x (Sl.own_blk hx)).1
      simp at this; omega
  · have hkl : k = t.kids.length := by omega
    subst hkl
    rw [List.take_of_length_le (Nat.le_refl _)] at hNur
    have hF : ∀ b ∈ [B10], b ∈ B45 :: List.range w1.heap.size := by intro b hb; simp at hb; subst hb; exact List.mem_cons_of_mem _ (List.mem_range.2 hN10.lt)
    have := (hNur.chg hE5 hF).rd (k := t.kind) (n := t.name) (x := t.text) (hAt4.chg hE5 hF).row
    refine ⟨Chg.fresh (hE1.trans hE4) hE5 (by simpa using hN10.ge), sa', c, rfl, ?_⟩
    have e : t = .node t.kind t.name t.text t.attrs t.kids := by cases t; rfl
    rw [e]
    exact this.less fun b hb => List.mem_cons_of_mem _ (List.mem_range.2 (Nat.lt_of_lt_of_le (List.mem_range.1 hb) hE1.size))

end Go.Proofs.Yteohbfaechfliaa
