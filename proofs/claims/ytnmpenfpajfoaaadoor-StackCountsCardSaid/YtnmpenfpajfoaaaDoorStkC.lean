/-
  The laws of chapter 12: StackCounts.
-/
import Derived.Test.YtnmpenfpajfoaaaDoorStkL
import Derived.Test.YtnmpenfpajfoaaaDoorGlaw12StackCounts
namespace Go.Proofs.YtnmpenfpajfoaaaDoor
open Go.RowKit

def six : List Str := [[112], [108, 105], [100, 100], [100, 105, 118], [98], [111, 112, 116, 105, 111, 110]]
def imply (n x : Str) : Prop := (x ≠ [100, 105, 118] ∧ x ≠ [98]) ∧ x ≠ n

theorem six_is {x : Str} (h : x ∈ six) : isB x 4 = true ↔ (x ≠ [100, 105, 118] ∧ x ≠ [98]) := by
  have : ∀ x ∈ six, (isB x 4 = true ↔ (x ≠ [100, 105, 118] ∧ x ≠ [98])) := by
    simp only [six, List.forall_mem_cons]
    refine ⟨?_, ?_, ?_, ?_, ?_, ?_, by simp⟩ <;> decide +kernel
  exact this x h
theorem six_border {x : Str} (h : x ∈ six) : borderB x 4 = false := by
  have : ∀ x ∈ six, borderB x 4 = false := by
    simp only [six, List.forall_mem_cons]
    refine ⟨?_, ?_, ?_, ?_, ?_, ?_, by simp⟩ <;> decide +kernel
  exact this x h
theorem six_at (i : Nat) (h : i < 6) : six.getD i [] ∈ six := by
  have : ∀ i : Fin 6, six.getD i.val [] ∈ six := by decide +kernel
  exact this ⟨i, h⟩

theorem imp_spec (n : Str) : ∀ r : List Str, (∀ x ∈ r, x ∈ six) → impR n r ≤ r.length ∧ ∀ i, i < r.length → (i < impR n r → imply n (r.getD i [])) ∧ (i = impR n r → ¬ imply n (r.getD i []))
  | [], _ => by simp [impR]
  | x :: r, h => by
    obtain ⟨h1, h2⟩ := imp_spec n r (fun y hy => h y (by simp [hy]))
    have hs := six_is (h x (by simp))
    by_cases hx : x = n ∨ isB x 4 = false
    · rw [impR, if_pos hx]
      refine ⟨by simp, fun i hi => ⟨fun h => by omega, fun h => ?_⟩⟩
      subst h
      rintro ⟨h3, h4⟩
      simp only [List.getD_cons_zero] at h3 h4
      rcases hx with hx | hx
      · exact h4 hx
      · rw [hs.2 h3] at hx; cases hx
    · rw [impR, if_neg hx]
      have hx1 : x ≠ n := fun e => hx (.inl e)
      have hx2 : isB x 4 = true := by
        cases he : isB x 4 with
        | true => rfl
        | false => exact absurd (.inr he) hx
      refine ⟨by simp; omega, fun i hi => ?_⟩
      cases i with
      | zero => exact ⟨fun _ => ⟨hs.1 hx2, hx1⟩, fun h => by omega⟩
      | succ i =>
        have := h2 i (by simpa using hi)
        simp only [List.getD_cons_succ]
        exact ⟨fun h => this.1 (by omega), fun h => this.2 (by omega)⟩

theorem until_spec (n : Str) : ∀ (r : List Str) (s : Nat), (untilR [n] r s = 0 ∧ n ∉ r ∧ 1 ≤ s) ∨ s = 0 ∨ ∃ j, j < r.length ∧ untilR [n] r s = s + j ∧ r.getD j [] = n ∧ ∀ i, i < j → r.getD i [] ≠ n
  | [], s => by
    rcases Nat.eq_zero_or_pos s with h | h
    · exact .inr (.inl h)
    · exact .inl ⟨rfl, by simp, h⟩
  | x :: r, s => by
    rcases Nat.eq_zero_or_pos s with h | h
    · exact .inr (.inl h)
    · by_cases hx : n = x
      · refine .inr (.inr ⟨0, by simp, ?_, by simp [hx], by simp⟩)
        rw [untilR, if_pos (by simp [has, hx])]; rfl
      · rw [untilR, if_neg (by simp [has, hx])]
        rcases until_spec n r (s + 1) with ⟨h1, h2, _⟩ | h1 | ⟨j, h1, h2, h3, h4⟩
        · exact .inl ⟨h1, by simp [hx, h2], h⟩
        · omega
        · refine .inr (.inr ⟨j + 1, by simp; omega, by omega, by simpa using h3, fun i hi => ?_⟩)
          cases i with
          | zero => simpa using fun e => hx e.symm
          | succ i => simpa using h4 i (by omega)
theorem until_none : ∀ (r : List Str) (s : Nat), untilR [] r s = 0
  | [], _ => rfl
  | x :: r, s => by rw [untilR, if_neg (by simp [has])]; exact until_none r _
theorem in_spec (n : Str) : ∀ r : List Str, (∀ x ∈ r, x ∈ six) → inR n 4 r = decide (n ∈ r)
  | [], _ => by simp [inR]
  | x :: r, h => by
    have ih := in_spec n r (fun y hy => h y (by simp [hy]))
    by_cases hx : x = n
    · rw [inR, if_pos hx]; simp [hx]
    · rw [inR, if_neg hx, six_border (h x (by simp)), if_neg (by decide), ih]
      have : ¬ n = x := fun e => hx e.symm
      simp [this]

theorem getD_mem' {l : List Str} {i : Nat} (h : i < l.length) : l.getD i [] ∈ l := by
  rw [List.getD_eq_getElem?_getD, List.getElem?_eq_getElem h]; exact List.getElem_mem h
theorem rev_getD {l : List Str} {i : Nat} (h : i < l.length) : l.reverse.getD i [] = l.getD (l.length - 1 - i) [] := by
  rw [List.getD_eq_getElem?_getD, List.getD_eq_getElem?_getD, List.getElem?_reverse h]

theorem stackCountsLaw {w : World} (hT : Sp w) {l : Sl} {zs : List Int} (hl : Row [] w l 1 (zs.map fun z => [.int .i64 z])) (name : Int) :
    Calls Tryd.prog 7 #[l.v, .int .i64 name] w (Ret fun v w' => Ext w w' ∧ v = .bool true) := by
  refine law12_StackCounts.ok _ _ ?_
  unfold law12_StackCounts.vc
  have hln := hl.len
  simp only [List.length_map] at hln
  have hn0 : 0 ≤ name.emod 6 := Int.emod_nonneg _ (by decide)
  have hn1 : name.emod 6 < 6 := Int.emod_lt_of_pos _ (by decide)
  intro w1 B6 hN6 hE1
  have g6 := hN6.ge
  have l6 := hN6.lt
  refine ⟨fun o i w2 => ∃ (k : Nat) (os : List Str), i = (k : Int) ∧ k ≤ zs.length ∧ k ≤ 30 ∧ os.length = k ∧ (∀ x ∈ os, x ∈ six) ∧ Own (List.range w1.heap.size) w2 o 1 9 (os.map sc) ∧ Ext w1 w2, fun _ i _ => 30 - i.toNat, ⟨0, [], rfl, Nat.zero_le _, by omega, rfl, by simp, Own.nil _ _ _ _, Chg.refl _ _⟩, ?_⟩
  rintro o _ w2 ⟨k, os, rfl, hk, hk30, hol, hos, ho, hE2⟩
  rw [Int.toNat_natCast]
  refine ⟨fun hi => ?_, fun hi => ?_⟩
  · have hk' : k < zs.length := by omega
    obtain ⟨p, hp, _, hc, _⟩ := (hl.ext (hE1.trans hE2)).at_ k (by simpa using hk')
    have e : (zs.map fun z => [Value.int .i64 z]).getD k [] = [.int .i64 (zs.getD k 0)] := by simp [List.getD_eq_getElem?_getD, hk']
    rw [e] at hc
    have hc0 := hc 0 _ rfl
    rw [Addr.add_zero'] at hc0
    have hz0 : 0 ≤ (zs.getD k 0).emod 6 := Int.emod_nonneg _ (by decide)
    have hz1 : (zs.getD k 0).emod 6 < 6 := Int.emod_lt_of_pos _ (by decide)
    refine ⟨⟨by omega, hi.1⟩, p, hp, _, hc0, CallK.exact (place _ 6 (by decide) (by decide)) fun w3 hE3 => ⟨_, rfl, ⟨hz0, hz1⟩, fun w4 B4 hN4 hE4 hb4 => ?_⟩⟩
    have hE24 := hE3.trans hE4
    have hE04 := hE2.trans hE24
    have hz4 := hE04.size
    have hx : Row [] w4 (Sl.mk (some ⟨B4, 0, none⟩) 1 1) 1 (([six.getD ((zs.getD k 0).emod 6).toNat []] : List Str).map sc) := Box.rowStr (l := [six.getD ((zs.getD k 0).emod 6).toNat []]) hb4 (by simp) (by simp)
    refine pushStr (ho.ext hE24) (fun b hb => by have := List.mem_range.1 hb; omega) hx (by simp; omega) (by simpa using l6) fun r w5 ho5 hC5 => ⟨r, rfl, ⟨by omega, by omega⟩, ⟨k + 1, os ++ [six.getD ((zs.getD k 0).emod 6).toNat []], by omega, by omega, by omega, by simp [hol], fun x hx => ?_, ho5, ?_⟩, by dsimp only; omega⟩
    · rcases List.mem_append.1 hx with hx | hx
      · exact hos x hx
      · rw [List.mem_singleton.1 hx]; exact six_at _ (by omega)
    · exact Chg.fresh hE04 hC5 fun b hb => by have := ho.tail b hb; simp at this; omega
  · have hE02 := hE1.trans hE2
    have hr2 : Row [] w2 o 1 (os.map sc) := ho.row.less (by simp)
    have hon : o.n = os.length := hr2.strs.1
    refine CallK.exact (place _ 6 (by decide) (by decide)) fun w3 hE3 => ⟨_, rfl, ⟨hn0, hn1⟩, ?_⟩
    generalize name.emod 6 = z at hn0 hn1
    have hn : six.getD z.toNat [] ∈ six := six_at _ (by omega)
    show CallK _ _ #[_, .string (Bs (six.getD z.toNat []))] _ _ _
    have hfold : (([([112] : Str), ([108, 105] : Str), ([100, 100] : Str), ([100, 105, 118] : Str), ([98] : Str), ([111, 112, 116, 105, 111, 110] : Str)] : List Str).getD z.toNat []) = six.getD z.toNat [] := rfl
    simp only [hfold]
    generalize six.getD z.toNat [] = n at hn
    have hrs : ∀ x ∈ os.reverse, x ∈ six := fun x hx => hos x (List.mem_reverse.1 hx)
    obtain ⟨hi1, hi2⟩ := imp_spec n os.reverse hrs
    have hin := in_spec n os.reverse hrs
    have hus := until_spec n os.reverse 1
    simp only [List.length_reverse] at hi1 hi2 hus
    refine CallK.exact (stackImplied (hT.ext (hE02.trans hE3)) (hr2.ext hE3) n) fun w4 hE4 => ⟨_, rfl, ?_⟩
    generalize impR n os.reverse = K at hi1 hi2
    have hE24 := hE3.trans hE4
    refine ⟨fun i w5 => ∃ j : Nat, i = (j : Int) ∧ j ≤ os.length ∧ Ext w2 w5, fun i _ => os.length - i.toNat, ⟨0, rfl, Nat.zero_le _, hE24⟩, ?_⟩
    rintro _ w5 ⟨j, rfl, hj, hE5⟩
    refine ⟨fun hi => ?_, fun hi w6 B hNB hE6 hb => ?_⟩
    · have hj' : j < os.length := by omega
      obtain ⟨p, hp, hc⟩ := (hr2.ext hE5).str (i := os.length - 1 - j) (by omega)
      rw [show ((o.n : Int) - 1 - (j : Int)).toNat = os.length - 1 - j by omega]
      have hx := hi2 j hj'
      rw [rev_getD hj'] at hx
      refine ⟨⟨by omega, by omega⟩, ⟨by omega, by omega⟩, ⟨by omega, by omega⟩, p, hp, _, hc, fun hbad => ?_, fun _ => ⟨⟨by omega, by omega⟩, ⟨j + 1, by omega, by omega, hE5⟩, by dsimp only; omega⟩⟩
      exfalso
      rcases hbad with ⟨h1, h2⟩ | ⟨h1, h2⟩
      · have := hx.1 (by omega)
        rcases h2 with (h2 | h2) | h2
        · exact h2 this.1.1
        · exact h2 this.1.2
        · exact h2 this.2
      · exact hx.2 (by omega) h2
    · have hE26 := hE5.trans hE6
      have hrn : Row [] w6 (Sl.mk (some ⟨B, 0, none⟩) 1 1) 1 (([n] : List Str).map sc) := Box.rowStr (l := [n]) hb (by simp) (by simp)
      refine CallK.exact (stackUntil (hr2.ext hE26) hrn (by omega)) fun w7 hE7 => ⟨_, rfl, ?_⟩
      have hE27 := hE26.trans hE7
      -- what u is
      have hu : untilR [n] os.reverse 1 ≤ os.length ∧ (untilR [n] os.reverse 1 = 0 ∨ os.getD (os.length - untilR [n] os.reverse 1) [] = n) ∧ (∀ i, 1 ≤ i → i < untilR [n] os.reverse 1 → os.getD (os.length - i) [] ≠ n) ∧ (decide (0 < untilR [n] os.reverse 1) = decide (n ∈ os.reverse)) := by
        rcases hus with ⟨h1, h2, _⟩ | h1 | ⟨q, h1, h2, h3, h4⟩
        · rw [h1]; exact ⟨Nat.zero_le _, .inl rfl, fun i _ h => by omega, by rw [decide_eq_false h2]; rfl⟩
        · omega
        · rw [h2]
          rw [rev_getD h1] at h3
          refine ⟨by omega, .inr (by rw [show os.length - (1 + q) = os.length - 1 - q by omega]; exact h3), fun i hi1 hi2 => ?_, ?_⟩
          · have := h4 (i - 1) (by omega)
            rw [rev_getD (by omega)] at this
            rwa [show os.length - 1 - (i - 1) = os.length - i by omega] at this
          · have : n ∈ os.reverse := by
              rw [List.mem_reverse, ← h3]
              exact getD_mem' (by omega)
            rw [decide_eq_true this, decide_eq_true (by omega)]
      generalize untilR [n] os.reverse 1 = u at hu
      obtain ⟨u1, u2, u3, u4⟩ := hu
      refine ⟨fun i w8 => ∃ j : Nat, i = (j : Int) ∧ 1 ≤ j ∧ Ext w2 w8, fun i _ => u - i.toNat, ⟨1, rfl, by omega, hE27⟩, ?_⟩
      rintro _ w8 ⟨j, rfl, hj1, hE8⟩
      refine ⟨fun hi => ?_, fun hi => ?_⟩
      · obtain ⟨p, hp, hc⟩ := (hr2.ext hE8).str (i := os.length - j) (by omega)
        rw [show ((o.n : Int) - (j : Int)).toNat = os.length - j by omega]
        refine ⟨⟨by omega, by omega⟩, ⟨by omega, by omega⟩, p, hp, _, hc, fun hbad => absurd hbad (u3 j hj1 (by omega)), fun _ => ⟨⟨by omega, by omega⟩, ⟨j + 1, by omega, by omega, hE8⟩, by dsimp only; omega⟩⟩
      · have hcell : ∃ p, ((u : Int) ≠ 0 → o.a = some p ∧ w8.cell? (p.add (((o.n : Int) - (u : Int)).toNat * 1)) = some (.string (Bs (os.getD (os.length - u) [])))) := by
          by_cases h0 : u = 0
          · exact ⟨⟨0, 0, none⟩, fun h => absurd (by omega) h⟩
          · obtain ⟨p, hp, hc⟩ := (hr2.ext hE8).str (i := os.length - u) (by omega)
            rw [show ((o.n : Int) - (u : Int)).toNat = os.length - u by omega]
            exact ⟨p, fun _ => ⟨hp, hc⟩⟩
        obtain ⟨p, hpc⟩ := hcell
        refine ⟨fun _ => ⟨by omega, by omega⟩, p, fun hg => ⟨⟨by omega, by omega⟩, (hpc hg.2).1⟩, _, fun hg => (hpc hg.2).2, 0, fun _ => ?_, fun w9 hE9 => ⟨_, fun _ => stackIn (hT.ext (hE02.trans (hE8.trans hE9))) (hr2.ext (hE8.trans hE9)) _ _, fun w10 hE10 => ⟨true, fun _ => stackAwake (hT.ext (hE02.trans ((hE8.trans hE9).trans hE10))), fun w11 hE11 => ⟨hE02.trans (((hE8.trans hE9).trans hE10).trans hE11), ?_⟩⟩⟩⟩
        · have := stackUntil (m := []) (hr2.ext hE8) (Row.nil [] w8 1) (by omega)
          rw [until_none] at this
          exact this
        · rw [hin, ← u4, decide_eq_true (by omega : ((K : Nat) : Int) ≤ (o.n : Int)), decide_eq_true (by omega : ((u : Nat) : Int) ≤ (o.n : Int))]
          have e1 : (decide ((u : Int) = 0) || decide (os.getD (os.length - u) [] = n)) = true := by
            rcases u2 with h | h
            · rw [decide_eq_true (by omega : (u : Int) = 0)]; rfl
            · rw [decide_eq_true h, Bool.or_true]
          have e2 : decide ((0 : Int) < (u : Int)) = decide (0 < u) := by rw [Bool.eq_iff_iff]; simp
          rw [e1, e2]; simp

end Go.Proofs.YtnmpenfpajfoaaaDoor
