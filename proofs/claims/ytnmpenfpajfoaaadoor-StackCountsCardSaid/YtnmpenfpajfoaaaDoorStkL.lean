/-
  The laws of chapter 12: StackAll, StackSorts, StackScopes, StackBorders.
-/
import Derived.Test.YtnmpenfpajfoaaaDoorStkW
import Derived.Test.YtnmpenfpajfoaaaDoorGlaw12awake
import Derived.Test.YtnmpenfpajfoaaaDoorGlaw12few
import Derived.Test.YtnmpenfpajfoaaaDoorGlaw12StackAll
import Derived.Test.YtnmpenfpajfoaaaDoorGlaw12StackSorts
import Derived.Test.YtnmpenfpajfoaaaDoorGlaw12StackScopes
import Derived.Test.YtnmpenfpajfoaaaDoorGlaw12StackBorders
namespace Go.Proofs.YtnmpenfpajfoaaaDoor
open Go.RowKit

theorem stackAwake {w : World} (hT : Sp w) : Calls Tryd.prog 11 #[] w (Ret fun v w' => Ext w w' ∧ v = .bool true) := by
  refine law12_awake.ok ?_
  unfold law12_awake.vc
  intro w1 B hN hE1 hb
  have hr : ∀ w', Ext w1 w' → Row [] w' (Sl.mk (some ⟨B, 0, none⟩) 4 4) 1 (([[104, 116, 109, 108], [98, 111, 100, 121], [112], [98, 117, 116, 116, 111, 110]] : List Str).map sc) := fun w' hE => Box.rowStr (l := [[104, 116, 109, 108], [98, 111, 100, 121], [112], [98, 117, 116, 116, 111, 110]]) (hb.ext hE) (by decide) (by simp)
  refine CallK.exact (stackIn (hT.ext hE1) (hr _ (Chg.refl _ _)) _ _) fun w2 hE2 => ⟨_, rfl, _, fun _ => stackIn (hT.ext (hE1.trans hE2)) (hr _ hE2) _ _, fun w3 hE3 => ⟨_, fun _ => stackIs (hT.ext ((hE1.trans hE2).trans hE3)) _ _, fun w4 hE4 => ⟨_, fun _ => stackIs (hT.ext (((hE1.trans hE2).trans hE3).trans hE4)) _ _, fun w5 hE5 => ⟨(((hE1.trans hE2).trans hE3).trans hE4).trans hE5, ?_⟩⟩⟩⟩
  have e1 : inR [112] 3 ([[104, 116, 109, 108], [98, 111, 100, 121], [112], [98, 117, 116, 116, 111, 110]] : List Str).reverse = false := by decide +kernel
  have e2 : inR [112] 1 ([[104, 116, 109, 108], [98, 111, 100, 121], [112], [98, 117, 116, 116, 111, 110]] : List Str).reverse = true := by decide +kernel
  have e3 : isB [98, 114] 1 = true := by decide +kernel
  have e4 : isB [98] 1 = false := by decide +kernel
  rw [e1, e2, e3, e4]; rfl

def fewB (l : List Str) : Bool := (l.take 50).all (fun x => decide (x.length ≤ 100)) && decide (l.length ≤ 50)
theorem fewB_len {l : List Str} (h : fewB l = true) : l.length ≤ 50 := by
  unfold fewB at h
  simp only [Bool.and_eq_true] at h
  exact of_decide_eq_true h.2

theorem lawFew {A : List Nat} {w : World} {s : Sl} {l : List Str} (h : Row A w s 1 (l.map sc)) :
    Calls Tryd.prog 12 #[s.v] w (Ret fun v w' => Ext w w' ∧ v = .bool (fewB l)) := by
  refine law12_few.ok _ ?_
  unfold law12_few.vc
  have hs := h.strs
  refine ⟨fun i w1 => ∃ k : Nat, i = (k : Int) ∧ k ≤ l.length ∧ k ≤ 50 ∧ (l.take k).all (fun x => decide (x.length ≤ 100)) = true ∧ Ext w w1, fun i _ => l.length - i.toNat, ⟨0, rfl, Nat.zero_le _, by omega, rfl, Chg.refl _ _⟩, ?_⟩
  rintro _ w1 ⟨k, rfl, hk, hk5, hall, hE⟩
  rw [Int.toNat_natCast]
  refine ⟨fun hi => ?_, fun hi => ⟨hE, ?_⟩⟩
  · have hk' : k < l.length := by omega
    obtain ⟨p, hp, hc⟩ := (h.ext hE).str hk'
    refine ⟨⟨by omega, hi.1⟩, p, hp, _, hc, fun hb => ⟨hE, ?_⟩, fun hg => ⟨⟨by omega, by omega⟩, ⟨k + 1, by omega, by omega, by omega, ?_, hE⟩, by dsimp only; omega⟩⟩
    · have hm : l.getD k [] ∈ l.take 50 := by
        rw [List.getD_eq_getElem?_getD, List.getElem?_eq_getElem hk']
        exact List.mem_take_iff_getElem.2 ⟨k, by omega, rfl⟩
      have : (l.take 50).all (fun x => decide (x.length ≤ 100)) = false := by
        rw [List.all_eq_false]
        exact ⟨_, hm, fun h => by have := of_decide_eq_true h; omega⟩
      unfold fewB; rw [this]; rfl
    · rw [List.take_succ_eq_append_getElem hk', List.all_append, hall]
      have : l[k] = l.getD k [] := by rw [List.getD_eq_getElem?_getD, List.getElem?_eq_getElem hk']; rfl
      rw [this]
      simp only [List.all_cons, List.all_nil, Bool.and_true, Bool.true_and]
      exact decide_eq_true (by omega)
  · unfold fewB
    by_cases h5 : l.length ≤ 50
    · have hkl : k = l.length := by omega
      subst hkl
      rw [List.take_of_length_le (Nat.le_refl _)] at hall
      rw [List.take_of_length_le h5, hall, decide_eq_true h5, decide_eq_true (by omega : (s.n : Int) ≤ 50)]; rfl
    · rw [decide_eq_false h5, decide_eq_false (by omega : ¬ (s.n : Int) ≤ 50), Bool.and_false]

/-- A copy of texts. -/
theorem copyStr {n : Nat} {w : World} {s : Sl} {l : List Str} (h : Row [] w s 1 (l.map sc)) (hn : n ≤ w.heap.size) (hl : l.length ≤ 1000000) {ty : TypeId} : ∃ r w', (Builtin.append_ #[22, 22] ty #[Sl.v Sl.nil, s.v]).run Tryd.prog w = .ok (Sl.v r) w' ∧ Ext w w' ∧ Own (List.range n) w' r 1 9 (l.map sc) := by
  obtain ⟨v, w', h1, h2, h3, r, rfl, h4, h5⟩ := pushStr (A := List.range n) (bx := []) (s := Sl.nil) (l := []) (m := l) (ty := ty) (K := fun v w' => ∃ r : Sl, v = r.v ∧ Own (List.range n) w' r 1 9 (l.map sc) ∧ Ext w w') (Own.nil _ _ _ _) (fun b hb => by have := List.mem_range.1 hb; omega) h (by simp; omega) (by simp) fun s' w' ho hc => ⟨s', rfl, by simpa using ho, by simpa [Sl.own] using hc⟩
  exact ⟨r, w', h1, h5, h4⟩

theorem stackAllLaw {w : World} (hT : Sp w) (nm : Str) (sort : Int) {s t : Sl} {l m : List Str} (h : Row [] w s 1 (l.map sc)) (scope : Int) (h2 : Row [] w t 1 (m.map sc)) :
    Calls Tryd.prog 6 #[.string (Bs nm), .int .i64 sort, s.v, .int .i64 scope, t.v] w (Ret fun v w' => Ext w w' ∧ v = .bool true) := by
  refine law12_StackAll.ok _ _ _ _ _ ?_
  unfold law12_StackAll.vc
  refine CallK.exact (lawFew h) fun w1 hE1 => ⟨_, rfl, _, fun _ => lawFew (h2.ext hE1), fun w2 hE2 => ⟨fun _ => CallK.exact (stackAwake (hT.ext (hE1.trans hE2))) fun w3 hE3 => ⟨true, rfl, (hE1.trans hE2).trans hE3, rfl⟩, fun hg => ?_⟩⟩
  have hE02 := hE1.trans hE2
  have hl := fewB_len hg.1.1
  have hm := fewB_len hg.1.2
  obtain ⟨r, w3, hrun, hE3, ho⟩ := copyStr (n := 0) (h.ext hE02) (Nat.zero_le _) (by omega) (ty := 22)
  have hE03 := hE02.trans hE3
  have hor := ho.row
  refine ⟨_, _, hrun, fun _ h => (by cases h), hE3.size, r, rfl, CallK.exact (stackIs (hT.ext hE03) _ _) fun w4 hE4 => ⟨_, rfl, CallK.exact (refIs _ _) fun w5 hE5 => ⟨_, rfl, ?_⟩⟩⟩
  have hE35 := hE4.trans hE5
  refine ⟨_, fun _ => stackIn (hT.ext (hE03.trans hE35)) (hor.ext hE35) _ _, fun w6 hE6 => ⟨_, fun _ => refIn (h.ext ((hE03.trans hE35).trans hE6)) _ _, fun w7 hE7 => ?_⟩⟩
  have hE37 := (hE35.trans hE6).trans hE7
  refine ⟨_, fun _ => stackImplied (hT.ext (hE03.trans hE37)) (hor.ext hE37) _, fun w8 hE8 => ⟨_, fun _ => refImplied (h.ext ((hE03.trans hE37).trans hE8)) _, fun w9 hE9 => ?_⟩⟩
  have hE39 := (hE37.trans hE8).trans hE9
  obtain ⟨r2, w10, hrun2, hE10, ho2⟩ := copyStr (n := 0) (h2.ext (hE03.trans hE39)) (Nat.zero_le _) (by omega) (ty := 22)
  refine ⟨fun r w' => Ext w9 w' ∧ Own (List.range 0) w' r 1 9 (m.map sc), fun _ => ⟨_, _, hrun2, fun _ h => (by cases h), hE10.size, r2, rfl, hE10, ho2⟩, fun r3 w11 _ hV _ => ?_⟩
  obtain ⟨hE11, ho3⟩ := hV ⟨⟨by rw [beq_self_eq_true], by rw [beq_self_eq_true]⟩, rfl⟩
  have hE311 := hE39.trans hE11
  refine ⟨_, fun _ => stackUntil (hor.ext hE311) ho3.row (by omega), fun w12 hE12 => ⟨_, fun _ => refUntil (h.ext ((hE03.trans hE311).trans hE12)) (h2.ext ((hE03.trans hE311).trans hE12)) (by omega), fun w13 hE13 => ⟨true, fun _ => stackAwake (hT.ext (((hE03.trans hE311).trans hE12).trans hE13)), fun w14 hE14 => ⟨(((hE03.trans hE311).trans hE12).trans hE13).trans hE14, ?_⟩⟩⟩⟩
  simp

theorem stackSortsLaw {w : World} (hT : Sp w) : Calls Tryd.prog 3 #[] w (Ret fun v w' => Ext w w' ∧ v = .bool true) := by
  refine law12_StackSorts.ok ?_
  unfold law12_StackSorts.vc
  let L : Nat → List Str := fun k => ((List.range k).map fun (i : Nat) => sortL ((i : Int) + 1)).flatten
  have hL : ∀ k, L (k + 1) = L k ++ sortL ((k : Int) + 1) := fun k => by simp only [L]; rw [List.range_succ]; simp
  have hlen : ∀ k, k ≤ 8 → (L k).length ≤ 1000 := fun k hk => by
    have : ∀ k : Fin 9, (((List.range k.val).map fun (i : Nat) => sortL ((i : Int) + 1)).flatten).length ≤ 1000 := by decide +kernel
    exact this ⟨k, by omega⟩
  have hs : ∀ k : Nat, k < 8 → (sortL ((k : Int) + 1)).length ≤ 1000 := fun k hk => by
    have : ∀ k : Fin 8, (sortL ((k.val : Int) + 1)).length ≤ 1000 := by decide +kernel
    exact this ⟨k, hk⟩
  refine ⟨fun a i w1 => ∃ k : Nat, i = (k : Int) + 1 ∧ k ≤ 8 ∧ Own (List.range w.heap.size) w1 a 1 9 ((L k).map sc) ∧ Ext w w1, fun _ i _ => 9 - i.toNat, ⟨0, rfl, by omega, Own.nil _ _ _ _, Chg.refl _ _⟩, ?_⟩
  rintro a _ w1 ⟨k, rfl, hk, ho, hE⟩
  refine ⟨fun hi => ?_, fun hi w2 B2 hN2 hE2 hb2 => ?_⟩
  · refine CallK.ext (refSort _) ?_
    rintro v w2 hE2 ⟨s, rfl, hr⟩
    have hsz := hE.size
    have hsz2 := hE2.size
    have h1 := hlen k hk
    have h2 := hs k (by omega)
    refine ⟨s, rfl, pushStr (ho.ext hE2) (fun b hb => by have := List.mem_range.1 hb; omega) hr (by omega) (by simp) fun r w3 ho3 hC3 => ⟨r, rfl, ⟨by omega, by omega⟩, ⟨k + 1, by omega, by omega, by rw [hL]; exact ho3, ?_⟩, by dsimp only; omega⟩⟩
    exact Chg.fresh (hE.trans hE2) hC3 fun b hb => by have := ho.tail b hb; simp at this; omega
  · have hk8 : k = 8 := by omega
    subst hk8
    have hsz := hE.size
    have hsz2 := hE2.size
    have h1 := hlen 8 (by omega)
    let X : List Str := [[], [115, 112, 97, 110], [104, 55], [65], [98, 82]]
    have hx : Row [] w2 (Sl.mk (some ⟨B2, 0, none⟩) 5 5) 1 (X.map sc) := Box.rowStr (l := X) hb2 (by decide) (by simp)
    have h150 : 150 < (L 8 ++ X).length := by decide +kernel
    generalize hM : L 8 ++ X = M at h150
    refine pushStr (ho.ext hE2) (fun b hb => by have := List.mem_range.1 hb; omega) hx (by simp [X]; omega) (by simp) fun r w3 ho3 hC3 => ⟨r, rfl, ?_⟩
    rw [hM] at ho3
    have hE3 : Ext w w3 := Chg.fresh (hE.trans hE2) hC3 fun b hb => by have := ho.tail b hb; simp at this; omega
    have hor := (ho3.row).less (A' := []) (by simp)
    have hrs := hor.strs
    refine ⟨fun i w4 => ∃ j : Nat, i = (j : Int) ∧ j ≤ M.length ∧ Ext w3 w4, fun i _ => M.length - i.toNat, ⟨0, rfl, Nat.zero_le _, Chg.refl _ _⟩, ?_⟩
    rintro _ w4 ⟨j, rfl, hj, hE4⟩
    rw [Int.toNat_natCast]
    refine ⟨fun hi => ?_, fun hi => ⟨true, fun _ => stackAwake (hT.ext (hE3.trans hE4)), fun w5 hE5 => ⟨(hE3.trans hE4).trans hE5, by rw [decide_eq_true (by omega : (150 : Int) < r.n)]; rfl⟩⟩⟩
    refine ⟨fun i w5 => ∃ q : Nat, i = (q : Int) ∧ q ≤ 10 ∧ Ext w3 w5, fun i _ => 10 - i.toNat, ⟨0, rfl, by omega, hE4⟩, ?_⟩
    rintro _ w5 ⟨q, rfl, hq, hE5⟩
    refine ⟨fun hq9 w6 hE6 => ?_, fun _ => ⟨⟨by omega, by omega⟩, ⟨j + 1, by omega, by omega, hE5⟩, by dsimp only; omega⟩⟩
    obtain ⟨p, hp, hc⟩ := (hor.ext (hE5.trans hE6)).str (i := j) (by omega)
    exact ⟨p, ⟨⟨by omega, hi⟩, hp⟩, _, hc, _, fun w' hE' => stackIs (hT.ext ((hE3.trans (hE5.trans hE6)).trans hE')) _ _, p, ⟨⟨by omega, hi⟩, hp⟩, _, hc, _, fun w' _ => refIs _ _, fun hbad => by simp at hbad, fun _ => ⟨⟨by omega, by omega⟩, fun w7 hE7 => ⟨⟨q + 1, by omega, by omega, (hE5.trans hE6).trans hE7⟩, by dsimp only; omega⟩⟩⟩

theorem stackBordersLaw {w : World} (hT : Sp w) : Calls Tryd.prog 5 #[] w (Ret fun v w' => Ext w w' ∧ v = .bool true) := by
  refine law12_StackBorders.ok ?_
  unfold law12_StackBorders.vc
  let T10 : List Str := [[97, 112, 112, 108, 101, 116], [99, 97, 112, 116, 105, 111, 110], [116, 100], [116, 104], [109, 97, 114, 113, 117, 101, 101], [111, 98, 106, 101, 99, 116], [111, 108], [117, 108], [98, 117, 116, 116, 111, 110], [116, 97, 98, 108, 101]]
  have key : ∀ (j : Nat) (s : Nat), j < 10 → s < 5 → 1 ≤ s → inR [112] (s : Int) ([[104, 116, 109, 108], [112], T10.getD j []] : List Str).reverse = ([false, (decide (5 < (j : Int)) && decide ((j : Int) < 9)), decide ((j : Int) = 8), (decide (5 < (j : Int)) && decide ((j : Int) < 8)), decide ((j : Int) < 9)] : List Bool).getD s false := by
    have : ∀ (j : Fin 10) (s : Fin 5), 1 ≤ s.val → inR [112] (s.val : Int) ([[104, 116, 109, 108], [112], ([[97, 112, 112, 108, 101, 116], [99, 97, 112, 116, 105, 111, 110], [116, 100], [116, 104], [109, 97, 114, 113, 117, 101, 101], [111, 98, 106, 101, 99, 116], [111, 108], [117, 108], [98, 117, 116, 116, 111, 110], [116, 97, 98, 108, 101]] : List Str).getD j.val []] : List Str).reverse = ([false, (decide (5 < (j.val : Int)) && decide ((j.val : Int) < 9)), decide ((j.val : Int) = 8), (decide (5 < (j.val : Int)) && decide ((j.val : Int) < 8)), decide ((j.val : Int) < 9)] : List Bool).getD s.val false := by decide +kernel
    exact fun j s hj hs h1 => this ⟨j, hj⟩ ⟨s, hs⟩ h1
  intro w1 B4 hN4 hE1
  refine ⟨fun i w2 => ∃ j : Nat, i = (j : Int) ∧ j ≤ 10 ∧ Ext w w2, fun i _ => 10 - i.toNat, ⟨0, rfl, by omega, hE1⟩, ?_⟩
  rintro _ w2 ⟨j, rfl, hj, hE2⟩
  rw [Int.toNat_natCast]
  refine ⟨fun hi => ⟨⟨by omega, hi⟩, fun w3 Ba Bb hNa hNb _ hE3 hb => ?_⟩, fun hi w3 B hN hE3 hb => ?_⟩
  · have hr : Row [] w3 (Sl.mk (some ⟨Ba, 0, none⟩) 3 3) 1 (([[104, 116, 109, 108], [112], T10.getD j []] : List Str).map sc) := Box.rowStr (l := [[104, 116, 109, 108], [112], T10.getD j []]) hb (by simp) (by simp)
    refine ⟨fun i w4 => ∃ s : Nat, i = (s : Int) ∧ s ≤ 5 ∧ 1 ≤ s ∧ Ext w3 w4, fun i _ => 5 - i.toNat, ⟨1, rfl, by omega, by omega, Chg.refl _ _⟩, ?_⟩
    rintro _ w4 ⟨s, rfl, hs, hs1, hE4⟩
    rw [Int.toNat_natCast]
    refine ⟨fun hi4 w5 hE5 => ?_, fun _ => ⟨⟨by omega, by omega⟩, ⟨j + 1, by omega, by omega, (hE2.trans hE3).trans hE4⟩, by dsimp only; omega⟩⟩
    refine ⟨_, fun w' hE' => stackIn (hT.ext (((hE2.trans hE3).trans (hE4.trans hE5)).trans hE')) ((hr.ext (hE4.trans hE5)).ext hE') _ _, ⟨by omega, by omega⟩, fun hbad => ?_, fun _ => ⟨⟨by omega, by omega⟩, fun w6 hE6 => ⟨⟨s + 1, by omega, by omega, by omega, (hE4.trans hE5).trans hE6⟩, by dsimp only; omega⟩⟩⟩
    rw [key j s (by omega) (by omega) hs1] at hbad
    simp at hbad
  · have hE3 := hE2.trans hE3
    have hr : Row [] w3 (Sl.mk (some ⟨B, 0, none⟩) 1 1) 1 (([[116, 97, 98, 108, 101]] : List Str).map sc) := Box.rowStr (l := [[116, 97, 98, 108, 101]]) hb (by simp) (by simp)
    refine CallK.exact (stackIn (hT.ext hE3) hr _ _) fun w4 hE4 => ⟨_, rfl, _, fun _ => stackIn (l := []) (hT.ext (hE3.trans hE4)) (Row.nil [] _ _) _ _, fun w5 hE5 => ⟨true, fun _ => stackAwake (hT.ext ((hE3.trans hE4).trans hE5)), fun w6 hE6 => ⟨((hE3.trans hE4).trans hE5).trans hE6, ?_⟩⟩⟩
    have e1 : inR [116, 97, 98, 108, 101] 1 ([[116, 97, 98, 108, 101]] : List Str).reverse = true := by decide +kernel
    rw [e1]; rfl

theorem inR_span {nm : Str} {k : Int} (hk : 1 ≤ k ∧ k ≤ 4) (hn : nm ≠ [115, 112, 97, 110]) (l : List Str) : ∀ m : Nat, inR nm k (List.replicate m [115, 112, 97, 110] ++ l) = inR nm k l
  | 0 => rfl
  | m + 1 => by
    have hb : borderB [115, 112, 97, 110] k = false := by
      have : ∀ k : Fin 5, borderB [115, 112, 97, 110] (k.val : Int) = false := by decide +kernel
      have := this ⟨k.toNat, by omega⟩
      rwa [show ((k.toNat : Nat) : Int) = k by omega] at this
    rw [List.replicate_succ, List.cons_append, inR, if_neg (fun e => hn e.symm), hb, if_neg (by decide)]
    exact inR_span hk hn l m

theorem pushOne {w : World} {n B : Nat} {S : TypeId} {s : Sl} {l : List Str} {x : Str} {ty : TypeId} (h : Own (List.range n) w s 1 9 (l.map sc)) (hn : n ≤ w.heap.size) (hb : Box w B S [.string (Bs x)]) (hl : l.length ≤ 1000000) :
    ∃ r w', (Builtin.append_ #[22, 22] ty #[s.v, Sl.v (Sl.mk (some ⟨B, 0, none⟩) 1 1)]).run Tryd.prog w = .ok (Sl.v r) w' ∧ Own (List.range n) w' r 1 9 ((l ++ [x]).map sc) ∧ Own (List.range n) w' s 1 9 (l.map sc) ∧ w.heap.size ≤ w'.heap.size ∧ ∀ {w0 : World}, w0.heap.size ≤ n → Ext w0 w → Ext w0 w' := by
  have hx : Row [] w (Sl.mk (some ⟨B, 0, none⟩) 1 1) 1 (([x] : List Str).map sc) := Box.rowStr (l := [x]) hb (by simp) (by simp)
  have hln := h.len
  simp only [List.length_map] at hln
  obtain ⟨r, w', hr, ho, hc, _, hk⟩ := append_app2 (P := Tryd.prog) (ty := ty) Tryd.underlying22 ti_9 rfl (by decide) h (fun b hb => by have := List.mem_range.1 hb; omega) hx (ones_sc [x]) (by simp) (by simp [maxLen]; omega) (by simp; omega)
  refine ⟨r, w', hr, by rw [List.map_append]; exact ho, hk, hc.size, fun h0 hE => Chg.fresh hE hc fun b hb => ?_⟩
  have := h.tail b (List.mem_filter.1 hb).1
  simp at this; omega

theorem stackScopesLaw {w : World} (hT : Sp w) {s : Sl} {l : List Str} (h : Row [] w s 1 (l.map sc)) (nm : Str) (scope n : Int) :
    Calls Tryd.prog 4 #[s.v, .string (Bs nm), .int .i64 scope, .int .i64 n] w (Ret fun v w' => Ext w w' ∧ v = .bool true) := by
  refine law12_StackScopes.ok _ _ _ _ ?_
  unfold law12_StackScopes.vc
  refine CallK.exact (lawFew h) fun w1 hE1 => ⟨_, rfl, fun _ => CallK.exact (stackAwake (hT.ext hE1)) fun w2 hE2 => ⟨true, rfl, hE1.trans hE2, rfl⟩, fun hg => ?_⟩
  obtain ⟨⟨⟨hf, hnm⟩, htab⟩, hspan⟩ := hg
  have hl := fewB_len hf
  have hk0 : 0 ≤ scope.emod 4 := Int.emod_nonneg _ (by decide)
  have hk1 : scope.emod 4 < 4 := Int.emod_lt_of_pos _ (by decide)
  have hn0 : 0 ≤ n.emod 5 := Int.emod_nonneg _ (by decide)
  have hn1 : n.emod 5 < 5 := Int.emod_lt_of_pos _ (by decide)
  refine CallK.exact (place scope 4 (by decide) (by decide)) fun w2 hE2 => ⟨_, rfl, ⟨by omega, by omega⟩, ?_⟩
  generalize scope.emod 4 = k at hk0 hk1
  have hE02 := hE1.trans hE2
  have hz2 := hE02.size
  obtain ⟨r, w3, hrun, hE3, ho⟩ := copyStr (n := w.heap.size) (h.ext hE02) hz2 (by omega) (ty := 22)
  have hE03 := hE02.trans hE3
  refine ⟨_, _, hrun, fun _ h => (by cases h), hE3.size, r, rfl, CallK.exact (stackIn (hT.ext hE03) ho.row _ _) fun w4 hE4 => ⟨_, rfl, ?_⟩⟩
  have hE04 := hE03.trans hE4
  have hz4 := hE04.size
  obtain ⟨o, w5, hrun2, hE5, ho5⟩ := copyStr (n := w.heap.size) (h.ext hE04) hz4 (by omega) (ty := 22)
  refine ⟨_, _, hrun2, fun _ h => (by cases h), hE5.size, o, rfl, ?_⟩
  let SP : Nat → List Str := fun m => l ++ List.replicate m [115, 112, 97, 110]
  have hin : ∀ m, inR nm (1 + k) (SP m).reverse = inR nm (1 + k) l.reverse := fun m => by
    simp only [SP, List.reverse_append, List.reverse_replicate]
    exact inR_span (by omega) hspan _ m
  refine ⟨fun o i w6 => ∃ m : Nat, i = (m : Int) ∧ m ≤ 5 ∧ Own (List.range w.heap.size) w6 o 1 9 ((SP m).map sc) ∧ Ext w w6, fun _ i _ => 5 - i.toNat, ⟨0, rfl, by omega, by simpa [SP] using ho5, hE04.trans hE5⟩, ?_⟩
  rintro o _ w6 ⟨m, rfl, hm, ho6, hE6⟩
  have hml : (SP m).length ≤ 1000 := by simp [SP]; omega
  refine CallK.exact (place n 5 (by decide) (by decide)) fun w7 hE7 => ⟨_, rfl, fun hi w8 B8 hN8 hE8 hb8 => ?_, fun hi => ?_⟩
  · have hE08 := hE6.trans (hE7.trans hE8)
    obtain ⟨r8, w9, hr9, ho9, _, hz9, hE9⟩ := pushOne (ty := 22) (ho6.ext (hE7.trans hE8)) hE08.size hb8 (by omega)
    exact ⟨_, _, hr9, fun _ h => (by cases h), hz9, r8, rfl, ⟨by omega, by omega⟩, ⟨m + 1, by omega, by omega, by simpa [SP, List.replicate_succ'] using ho9, hE9 (Nat.le_refl _) hE08⟩, by dsimp only; omega⟩
  · have hE07 := hE6.trans hE7
    have ho7 := ho6.ext hE7
    refine CallK.exact (stackIn (hT.ext hE07) ho7.row _ _) fun w8 hE8 => ⟨_, rfl, fun w9 hE9 B9 hB9 hb9 => ?_⟩
    rw [hin m]
    have hg1 : (inR nm (1 + k) l.reverse == inR nm (1 + k) l.reverse) = true := by simp
    have hE09 := hE07.trans (hE8.trans hE9)
    have ho9 := ho7.ext (hE8.trans hE9)
    obtain ⟨ra, wa, hra, hoa, hoa2, hza, hEa⟩ := pushOne (ty := 22) ho9 hE09.size (hb9 (by rw [hin m]; exact hg1)) (by omega)
    refine ⟨fun r w' => Own (List.range w.heap.size) w' r 1 9 ((SP m ++ [[116, 97, 98, 108, 101]]).map sc) ∧ Own (List.range w.heap.size) w' o 1 9 ((SP m).map sc) ∧ Ext w w', fun _ => ⟨_, _, hra, fun _ h => (by cases h), hza, ra, rfl, hoa, hoa2, hEa (Nat.le_refl _) hE09⟩, fun rb wb hzb hV _ => ?_⟩
    obtain ⟨hob, hob2, hEb⟩ := hV hg1
    have et : inR nm (1 + k) (SP m ++ [[116, 97, 98, 108, 101]]).reverse = false := by
      have hbt : borderB [116, 97, 98, 108, 101] (1 + k) = true := by unfold borderB; simp
      rw [List.reverse_append, List.reverse_singleton, List.singleton_append, inR, if_neg (fun e => htab e.symm), hbt, if_pos rfl]
    refine ⟨_, fun _ => stackIn (hT.ext hEb) hob.row _ _, fun wc hEc wd hEd B10 hB10 hb10 => ?_⟩
    rw [et]
    have hE0d := hEb.trans (hEc.trans hEd)
    have hod := hob2.ext (hEc.trans hEd)
    obtain ⟨re, we, hre, hoe, _, hze, hEe⟩ := pushOne (ty := 22) hod hE0d.size (hb10 ⟨hg1, et⟩) (by omega)
    refine ⟨fun r w' => Own (List.range w.heap.size) w' r 1 9 ((SP m ++ [nm]).map sc) ∧ Ext w w', fun _ => ⟨_, _, hre, fun _ h => (by cases h), hze, re, rfl, hoe, hEe (Nat.le_refl _) hE0d⟩, fun rf wf hzf hVf _ => ?_⟩
    obtain ⟨hof, hEf⟩ := hVf ⟨hg1, rfl⟩
    have en : inR nm (1 + k) (SP m ++ [nm]).reverse = true := by
      rw [List.reverse_append, List.reverse_singleton, List.singleton_append, inR, if_pos rfl]
    refine ⟨_, fun _ => stackIn (hT.ext hEf) hof.row _ _, fun wg hEg => ⟨true, fun _ => stackAwake (hT.ext (hEf.trans hEg)), fun wh hEh => ⟨(hEf.trans hEg).trans hEh, ?_⟩⟩⟩
    rw [en]; simp

end Go.Proofs.YtnmpenfpajfoaaaDoor
