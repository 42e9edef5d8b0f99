/-
  The laws of chapter 25: SlotsNone.
-/
import Derived.Test.YteohbfaechfliaaSltF
import Derived.Test.YteohbfaechfliaaTreeH
import Derived.Test.YteohbfaechfliaaGlaw25SlotsNone
namespace Go.Proofs.Yteohbfaechfliaa
open Go.RowKit Go.MapKept

def idPs (n : Nat) : List (Int × Int) := (List.range n).map fun i : Nat => ((i : Int), (i : Int))
theorem idPs_succ (n : Nat) : idPs (n + 1) = idPs n ++ [((n : Int), (n : Int))] := by simp [idPs, List.range_succ]
theorem toF_id : ∀ (n : Nat) (i : Int), 0 ≤ i → i < n → toF (idPs n) i = some i
  | 0, i, h0, h1 => by omega
  | n + 1, i, h0, h1 => by
    rw [idPs_succ, toF_snoc]
    by_cases h : i = n
    · rw [if_pos h]; simp [h]
    · rw [if_neg h]; exact toF_id n i h0 (by omega)
theorem num_id (n : Nat) (k : Int) (h0 : 0 ≤ k) (h1 : k < n) : num (idPs n) k = k := by
  have : (idPs n).map swapP = idPs n := by simp [idPs, swapP]
  unfold num
  rw [this, toF_id n k h0 h1]
theorem chkL_id (t : T) : ∀ (m k : Nat) (seen : List Int), k + m = t.size → (∀ b ∈ seen, b < k) → chkL t t ((k : Int) - 1) ((List.range' k m).map fun i : Nat => ((i : Int), (i : Int))) seen = true
  | 0, k, seen, _, _ => rfl
  | m + 1, k, seen, h, hs => by
    rw [List.range'_succ, List.map_cons, chkL]
    have hm : seen.contains (k : Int) = false := by
      rw [Bool.eq_false_iff]; intro hc
      have := hs _ (by simpa using hc)
      omega
    have ih := chkL_id t m (k + 1) ((k : Int) :: seen) (by omega) (fun b hb => by
      rcases List.mem_cons.1 hb with rfl | hb
      · omega
      · have := hs b hb; omega)
    rw [show ((k + 1 : Nat) : Int) - 1 = (k : Int) by omega] at ih
    simp only [hm, ih]
    simp; omega
theorem chkP_id {t : T} (h : t.check = true) : chkP t t (idPs t.size) = true := by
  have hp := T.size_pos t
  have h1 : (idPs t.size).head? = some (0, 0) := by
    obtain ⟨n, hn⟩ : ∃ n, t.size = n + 1 := ⟨t.size - 1, by omega⟩
    rw [hn, idPs, List.range_eq_range', List.range'_succ]; rfl
  have h2 := chkL_id t t.size 0 [] (by omega) (by simp)
  unfold chkP
  rw [h, h1]
  rw [idPs, List.range_eq_range']
  simpa using h2

/-! ### Attributes of a tree that may be -/
theorem T.ents_all {Q : T → Prop} (hQ : ∀ t, Q t → ∀ u ∈ t.kids, Q u) : ∀ (t : T) (id : Nat) (p : Int) (d pl : Nat), Q t → ∀ e ∈ t.ents id p d pl, Q e.t := T.ind' fun t ih id p d pl hq e he => by
  rw [T.ents_eq] at he
  rcases List.mem_cons.1 he with rfl | he
  · exact hq
  · have go : ∀ (us : List T), (∀ u ∈ us, u ∈ t.kids) → ∀ (nx : Nat) (p : Int) (d i : Nat), e ∈ kidsE us nx p d i → Q e.t := by
      intro us
      induction us with
      | nil => intro _ _ _ _ _ he; cases he
      | cons u us ih2 =>
        intro hu nx p d i he
        rw [kidsE_cons] at he
        rcases List.mem_append.1 he with he | he
        · exact ih u (hu u (by simp)) nx p d i (hQ t hq u (hu u (by simp))) e he
        · exact ih2 (fun v hv => hu v (by simp [hv])) _ _ _ _ he
    exact go t.kids (fun u hu => hu) _ _ _ _ he
theorem nodeOk_attrs {t : T} (h : nodeOk t = true) : attrsOk [] t.attrs = true ∧ ∀ u ∈ t.kids, nodeOk u = true := by
  by_cases hk : t.kind = 2
  · rw [nodeOk_el hk] at h
    simp only [Bool.and_eq_true] at h
    refine ⟨h.1.2.2, fun u hu => ?_⟩
    have := List.all_eq_true.1 h.2 u hu
    simp only [Bool.and_eq_true] at this
    exact this.1
  · rw [nodeOk_ne hk] at h
    simp only [Bool.and_eq_true] at h
    have h1 : t.attrs = [] := by simpa using h.1.1
    have h2 : t.kids = [] := by simpa using h.1.2
    rw [h1, h2]
    exact ⟨rfl, by simp⟩
theorem check_attrs {t : T} (h : t.check = true) {j : Nat} (hj : j < t.size) : attrsOk [] (t.nd j).t.attrs = true := by
  unfold T.check at h
  simp only [Bool.and_eq_true] at h
  have hroot : attrsOk [] t.attrs = true := by
    have h1 : t.attrs = [] := by simpa using h.1.2
    rw [h1]; rfl
  have hkids : ∀ u ∈ t.kids, nodeOk u = true := fun u hu => by
    have := List.all_eq_true.1 h.2 u hu
    simp only [Bool.and_eq_true] at this
    exact this.1
  have := T.ents_all (Q := fun u => attrsOk [] u.attrs = true ∧ ∀ v ∈ u.kids, nodeOk v = true) (fun u hu v hv => nodeOk_attrs (hu.2 v hv)) t 0 (-1) 0 0 ⟨hroot, hkids⟩ (t.nd j) (List.mem_of_getElem? (t.flat_get hj))
  exact this.1
theorem setOf_self {l : List (Str × Str)} (h : attrsOk [] l = true) : setOf l l = [] ∧ unsetOf l l = [] := by
  have hm := attrGet_mem h
  constructor
  · unfold setOf
    rw [List.filter_eq_nil_iff]
    intro p hp
    simp [setKeep, hm p hp]
  · unfold unsetOf
    rw [List.filter_eq_nil_iff.2 (fun p hp => by simp [hm p hp])]
    rfl
theorem nd_par (t : T) {j : Nat} (hj : j < t.size) : (t.nd j).par = -1 ∨ (0 ≤ (t.nd j).par ∧ (t.nd j).par < t.size) := by
  cases j with
  | zero =>
    have h := t.flat_get hj
    rw [t.flat_zero] at h
    left
    show (t.flat.getD 0 ⟨0, 0, 0, T.nul⟩).par = -1
    rw [← Option.some.inj h]
  | succ j => exact .inr (t.flat_par (t.flat_get hj))

theorem slotOf_id {t : T} (h : t.check = true) {j : Nat} (hj : j < t.size) : slotOf t t (idPs t.size) j = ⟨false, false, [], [], (t.nd j).par, kidsZ t j⟩ := by
  obtain ⟨h1, h2⟩ := setOf_self (check_attrs h hj)
  unfold slotOf
  rw [toF_id t.size j (by omega) (by omega)]
  simp only [Int.toNat_natCast]
  rw [h1, h2]
  have h3 : (t.kidsAt j).map (fun k : Nat => num (idPs t.size) (k : Int)) = kidsZ t j := List.map_congr_left fun k hk => num_id _ _ (by omega) (by have := t.kidsAt_lt hj k hk; omega)
  have h4 : (if 0 ≤ (t.nd j).par then num (idPs t.size) (t.nd j).par else -1) = (t.nd j).par := by
    rcases nd_par t hj with h | h
    · rw [h]; rfl
    · rw [if_pos h.1, num_id _ _ h.1 h.2]
  rw [h3, h4]
  simp

theorem slotsNoneLaw {w : World} {l : Sl} {zs : List Int} (hl : Row [] w l 1 (zs.map ic)) :
    Calls Try.prog 7 #[l.v] w (Ret fun v w' => Ext w w' ∧ v = .bool true) := by
  refine law25_SlotsNone.ok _ ?_
  unfold law25_SlotsNone.vc
  refine CallK.ext (lawGrownT hl) ?_
  rintro v w1 hE1 ⟨us, sk, rfl, hN, hG⟩
  have hbulk := hG.bulk
  have hchk := hG.check
  have hrd : RdT [] w1 (grownT us) Sl.nil sk := (hN.less (by simp)).rd (k := 1) (n := []) (x := []) (ats := []) (Row.nil _ _ _)
  generalize grownT us = t at hbulk hchk hrd
  clear hN hG
  have hsz := T.size_bulk t
  have hpos := T.size_pos t
  refine ⟨t.kind, t.name, t.text, Sl.nil, sk, rfl, fun w2 B2 hN2 hE2 => ?_⟩
  refine CallK.ext (refFlat0 (by omega) (hrd.ext hE2)) ?_
  rintro v w3 hE3 ⟨rf, rfl, hRI, _⟩
  have hrn := hRI.len
  have hE03 := (hE1.trans hE2).trans hE3
  have hB2w : B2 < w3.heap.size := Nat.lt_of_lt_of_le hN2.lt hE3.size
  refine ⟨rf, rfl, fun p i w' => ∃ k : Nat, i = (k : Int) ∧ k ≤ t.size ∧ Own (B2 :: List.range w1.heap.size) w' p 2 40 ((idPs k).map pc) ∧ Ext w1 w' ∧ w3.heap.size ≤ w'.heap.size, fun _ i _ => t.size - i.toNat, ⟨0, rfl, by omega, Own.nil _ _ _ _, hE2.trans hE3, Nat.le_refl _⟩, ?_⟩
  rintro p _ w4 ⟨k, rfl, hk, hO, hE14, hsz4⟩
  refine ⟨fun hi w5 B5 hN5 hE5 hbox => ?_, fun hi w5 hE5 => ?_⟩
  · have hpn := hO.len
    simp only [idPs, List.length_map, List.length_range] at hpn
    have hbox' : Box w5 B5 40 (pc ((k : Int), (k : Int))) := hbox
    refine App.runK Try.underlying29 ti_40 rfl (by decide) (.inl (hO.ext hE5)) (fun b hb => ?_) (Own.one (A := []) hbox' (by simp)).row (by intro u hu; simp [pc] at hu; rcases hu with rfl | rfl <;> rfl) (by simp) (by simp only [maxLen, List.length_singleton]; omega) (by simp only [List.length_singleton]; omega) (by simp) fun s' w6 ho6 hC6 hb6 => ⟨s', rfl, ⟨by omega, by omega⟩, ⟨k + 1, by omega, by omega, ?_, ?_, ?_⟩, by dsimp only; omega⟩
    · have h1 := hE5.size
      rcases List.mem_cons.1 hb with rfl | hb
      · omega
      · have := List.mem_range.1 hb; have := hE14.size; omega
    · rw [idPs_succ, List.map_append]; exact ho6
    · exact Chg.fresh (hE14.trans hE5) hC6 fun b hb => by
        have := (hO.blk b (Sl.own_blk hb)).1
        simp at this; omega
    · have := hE5.size; have := hC6.size; omega
  have hkl : k = t.size := by omega
  subst hkl
  have hE15 := hE14.trans hE5
  have hE05 := hE1.trans hE15
  refine ⟨fun kd n x a b w' => kd = t.kind ∧ n = t.name ∧ x = t.text ∧ RdT [] w' t a b, fun _ _ _ _ _ w' w'' hE h => ⟨h.1, h.2.1, h.2.2.1, h.2.2.2.ext hE⟩, fun w' hE => ?_, ?_⟩
  · refine Ret.mono (lawTree t (by omega) (hrd.ext (hE15.trans hE))) ?_
    rintro v w'' ⟨h1, a, b, rfl, h2⟩
    exact ⟨h1, _, _, _, a, b, rfl, rfl, rfl, rfl, h2.less (by simp)⟩
  rintro w6 _ _ _ a b hE6 ⟨rfl, rfl, rfl, hrd2⟩
  have hE16 := hE15.trans hE6
  have hOw := ((hO.ext hE5).ext hE6).less (A' := []) (by simp)
  refine CallK.ext (slotsOfC (hrd.ext hE16) hrd2 hOw.row (by omega) (by omega) (by simp [idPs]; omega)) ?_
  rintro v w7 hE7 hv
  rcases hv with ⟨h, _⟩ | ⟨_, s, rfl, hS⟩
  · rw [chkP_id hchk] at h; cases h
  have hsl := hS.len
  rw [show (slotsOf t t (idPs t.size)).length = t.size by simp [slotsOf]] at hsl
  have hE17 := hE16.trans hE7
  refine ⟨s, 0, rfl, fun hbad => ?_, fun _ w8 hE8 => ?_⟩
  · rcases hbad with h | h
    · exact absurd rfl h
    · omega
  have hgetS : ∀ j, j < t.size → (slotsOf t t (idPs t.size)).getD j sv0 = ⟨false, false, [], [], (t.nd j).par, kidsZ t j⟩ := fun j hj => by
    rw [← slotOf_id hchk hj]
    simp [slotsOf, List.getD_eq_getElem?_getD, hj]
  refine ⟨fun i w' => ∃ k : Nat, i = (k : Int) ∧ k ≤ t.size ∧ Ext w7 w', fun i _ => t.size - i.toNat, ⟨0, rfl, by omega, hE8⟩, ?_⟩
  rintro _ w9 ⟨k, rfl, hk, hE9⟩
  refine ⟨fun hi w10 hE10 => ?_, fun hi => CallK.exact (slotsAwake w9) fun w10 hE10 => ⟨true, rfl, ((hE1.trans hE17).trans hE9).trans hE10, rfl⟩⟩
  have hk' : k < t.size := by omega
  have hE710 := hE9.trans hE10
  obtain ⟨pp, se, un, ki, hpp, hcell, _, _, o3⟩ := (hS.ext hE710).at (i := k) (by simp [slotsOf]; omega)
  rw [hgetS k hk'] at hcell o3
  refine ⟨⟨by omega, by omega⟩, pp, hpp, fun w11 hE11 => ⟨false, (hcell.ext hE11) 0 _ rfl, fun w12 hE12 => ?_⟩⟩
  have hE712 := (hE710.trans hE11).trans hE12
  have htch : touched t (slotsOf t t (idPs t.size)) (k : Int) = false := by
    unfold touched
    rw [if_neg (by simp [slotsOf]; omega), Int.toNat_natCast, hgetS k hk']
    simp
  refine ⟨_, fun _ => slotsTouched (hrd.ext (hE17.trans hE712)) (hS.ext hE712) (by omega) (k : Int), fun w13 hE13 => ?_⟩
  rw [htch]
  refine ⟨pp, fun _ => ⟨⟨by omega, by omega⟩, hpp⟩, ki, fun _ => (((hcell.ext hE11).ext hE12).ext hE13) 5 _ rfl, fun r w' => Own [] w' r 1 3 ((kidsZ t k).map zc), fun r w' w'' hE h => h.ext hE, fun _ w' hE => ?_, fun w14 r hE14 hr => ?_⟩
  · refine Ret.mono (slotsKidsT (hrd.ext (((hE17.trans hE712).trans hE13).trans hE)) (by omega) (id := (k : Int)) (by omega) (by omega)) ?_
    rintro v w'' ⟨h1, r, rfl, h2⟩
    exact ⟨h1, r, rfl, h2.less (by simp)⟩
  · refine ⟨true, fun hg => ?_, fun w15 hE15' => ⟨fun hbad => ?_, fun _ => ⟨⟨by omega, by omega⟩, ⟨k + 1, by omega, by omega, (((hE712.trans hE13).trans hE14).trans hE15')⟩, by dsimp only; omega⟩⟩⟩
    · have := lawSameInts (((o3.ext (hE11.trans hE12)).ext (hE13.trans hE14)).row) (hr hg).row
      simpa using this
    · rcases hbad with (h | h) | h
      · cases h
      · cases h
      · cases h

end Go.Proofs.Yteohbfaechfliaa
