/-
  The example of chapter 25's laws.
-/
import Derived.Test.YteohbfaechfliaaSltE
import Derived.Test.YteohbfaechfliaaTreeC
namespace Go.Proofs.Yteohbfaechfliaa
open Go.RowKit Go.MapKept

theorem slotsKidsT {A : List Nat} {w : World} {t : T} {sa sk : Sl} (h : RdT A w t sa sk) (nt : t.bulk ≤ 400000000) {id : Int} (h0 : 0 ≤ id) (h1 : id < t.size) :
    Calls Try.prog 24 #[tv t sa sk, .int .i64 id] w (Ret fun v w' => Ext w w' ∧ ∃ s : Sl, v = s.v ∧ Own (List.range w.heap.size) w' s 1 3 ((kidsZ t id.toNat).map zc)) := by
  refine slots_Kids.ok _ _ _ _ _ _ ?_
  unfold slots_Kids.vc
  have hsz := T.size_bulk t
  intro w1 B hN hE1
  refine CallK.ext (walkFlat (by omega) (h.ext hE1)) ?_
  rintro v w2 hE2 ⟨s, rfl, hI⟩
  obtain ⟨hn, _⟩ := hI.cell
  refine ⟨s, rfl, fun hb => by omega, fun _ => ?_⟩
  have hcall := slotsKids hI (by omega) (j := id.toNat) (by omega)
  rw [show ((id.toNat : Nat) : Int) = id by omega] at hcall
  refine CallK.ext hcall ?_
  rintro v w3 hE3 ⟨r, rfl, hr⟩
  refine ⟨r, rfl, (hE1.trans hE2).trans hE3, r, rfl, ?_⟩
  rw [← kidsZ_nc]
  exact hr.less fun b hb => List.mem_range.2 (by have := List.mem_range.1 hb; have := (hE1.trans hE2).size; omega)

theorem Own.many {A : List Nat} {w : World} {B size : Nat} {S : TypeId} {us : List (List Value)} (h : Box w B S us.flatten) (hu : ∀ u ∈ us, u.length = size) (hn : us.length ≤ maxLen) (hA : B ∉ A) : Own A w ⟨some ⟨B, 0, none⟩, us.length, us.length⟩ size S us :=
  ⟨rfl, Nat.le_refl _, hn, hu, .inr ⟨B, us.flatten, rfl, hA, h, flatten_len us hu, by rw [← flatten_len us hu, List.take_length]⟩⟩
def exQ (c : UInt8) : T := .node 3 [] [c] [] []
def exS (c : UInt8) : T := .node 1 [] [] [] [exQ c]
theorem exS_rd {A : List Nat} {w : World} {B : Nat} {S : TypeId} {c : UInt8} (h : Box w B S [.int .i64 3, .string (Bs []), .string (Bs [c]), Sl.nil.v, Sl.nil.v]) (hA : B ∉ A) : RdT A w (exS c) Sl.nil (Sl.mk (some ⟨B, 0, none⟩) 1 1) :=
  .mk [(Sl.nil, Sl.nil)] (Row.nil _ _ _) rfl (Own.one h hA).row (fun i t p ht hp => by
    cases i with
    | zero => simp at ht hp; subst ht; subst hp; exact RdT.nil _ _ _ _ _
    | succ i => simp at ht)
theorem exS_facts (c : UInt8) : (exS c).bulk ≤ 400000000 ∧ (exS c).size = 2 ∧ (exS c).check = true ∧ (exS c).flat = [⟨-1, 0, 0, exS c⟩, ⟨0, 1, 0, exQ c⟩] := by
  have hs : (exS c).size = 2 := by simp [exS, exQ, T.size_eq, T.kids]
  have hd : (exS c).depth = 2 := by simp [exS, exQ, T.depth_eq, T.kids]
  refine ⟨by simp [exS, exQ, T.bulk_eq, T.kids, T.name, T.text, T.attrs, T.abulk], hs, ?_, ?_⟩
  · unfold T.check; rw [hs, hd]
    simp only [exS, exQ, T.kind, T.name, T.text, T.attrs, kidsOk, T.kids, List.all_cons, List.all_nil]
    rw [nodeOk_ne (by simp [T.kind])]; rfl
  · unfold T.flat
    simp [T.ents_eq, exS, exQ, T.kids, kidsE_cons, kidsE_nil]
theorem exS_nd (c : UInt8) : (exS c).nd 0 = ⟨-1, 0, 0, exS c⟩ ∧ (exS c).nd 1 = ⟨0, 1, 0, exQ c⟩ ∧ (exS c).zAt 0 = 2 ∧ (exS c).zAt 1 = 1 := by
  have h := (exS_facts c).2.2.2
  have h2 := (exS_facts c).2.1
  have h3 : (exQ c).size = 1 := by simp [exQ, T.size_eq, T.kids]
  unfold T.nd T.zAt
  rw [h]
  exact ⟨rfl, rfl, h2, h3⟩
theorem exS_kids (c : UInt8) : (exS c).kidsAt 0 = [1] ∧ (exS c).kidsAt 1 = [] := by
  obtain ⟨_, _, z0, z1⟩ := exS_nd c
  unfold T.kidsAt
  rw [(exS_facts c).2.1, z0, z1]
  constructor
  · simp [kidLoop, z1]
  · simp [kidLoop]
def exPs : List (Int × Int) := [(0, 0), (1, 1)]
theorem exS_slots : chkP (exS 97) (exS 98) exPs = true ∧ slotsOf (exS 97) (exS 98) exPs = [⟨false, false, [], [], -1, [1]⟩, ⟨false, true, [], [], 0, []⟩] := by
  obtain ⟨_, s1, c1, _⟩ := exS_facts 97
  obtain ⟨_, s2, c2, _⟩ := exS_facts 98
  obtain ⟨a0, a1, _, _⟩ := exS_nd 97
  obtain ⟨b0, b1, _, _⟩ := exS_nd 98
  obtain ⟨k0, k1⟩ := exS_kids 98
  constructor
  · unfold chkP
    rw [c1, c2]
    simp only [exPs, chkL, Int.toNat_zero, Int.toNat_one, s1, s2, a0, b0, a1, b1]
    simp [exS, exQ, T.kind, T.name]
  · unfold slotsOf
    rw [s1]
    have r0 : slotOf (exS 97) (exS 98) exPs 0 = ⟨false, false, [], [], -1, [1]⟩ := by
      have ht : toF exPs ((0 : Nat) : Int) = some 0 := by decide
      have hn : num exPs 1 = 1 := by decide
      unfold slotOf
      rw [ht]
      simp only [Int.toNat_zero, a0, b0, k0, List.map_cons, List.map_nil]
      simp [exS, T.text, T.attrs, setOf, unsetOf, hn]
    have r1 : slotOf (exS 97) (exS 98) exPs 1 = ⟨false, true, [], [], 0, []⟩ := by
      have ht : toF exPs ((1 : Nat) : Int) = some 1 := by decide
      have hn : num exPs 0 = 0 := by decide
      unfold slotOf
      rw [ht]
      simp only [Int.toNat_one, a1, b1, k1, List.map_nil]
      simp [exQ, T.text, T.attrs, setOf, unsetOf, hn]
    show [slotOf _ _ _ 0, slotOf _ _ _ 1] = _
    rw [r0, r1]

theorem slotsAwake (w : World) : Calls Try.prog 14 #[] w (Ret fun v w' => Ext w w' ∧ v = .bool true) := by
  refine law25_awake.ok ?_
  unfold law25_awake.vc
  intro w1 B1 B2 B3 B4 B5 hN1 hN2 hN3 hN4 hN5 _ _ _ _ _ _ _ _ _ _ hE1 hb1 hb3 hb5
  obtain ⟨n1, s1, _, _⟩ := exS_facts 97
  obtain ⟨n2, _, _, _⟩ := exS_facts 98
  obtain ⟨e1, e2⟩ := exS_slots
  have hps : Row [] w1 (Sl.mk (some ⟨B5, 0, none⟩) 2 2) 2 (exPs.map pc) :=
    (Own.many (us := exPs.map pc) hb5 (by simp [exPs, pc]) (by simp [exPs, maxLen]) (by simp)).row
  refine CallK.ext (slotsOfC (A := []) (o := exS 97) (x := exS 98) (ps := exPs) (exS_rd hb1 (by simp)) (exS_rd hb3 (by simp)) hps n1 n2 (by simp [exPs])) ?_
  rintro v w2 hE2 hv
  rcases hv with ⟨h, _⟩ | ⟨_, s, rfl, hS⟩
  · rw [e1] at h; cases h
  rw [e2] at hS
  have hrd : ∀ w', Ext w1 w' → RdT [] w' (exS 97) Sl.nil (Sl.mk (some ⟨B1, 0, none⟩) 1 1) := fun w' hE => exS_rd (hb1.ext hE) (by simp)
  obtain ⟨p, se, un, ki, hp, hc, _⟩ := hS.at (i := 1) (by simp)
  have hl := hS.len
  have t1 : touched (exS 97) [⟨false, false, [], [], -1, [1]⟩, ⟨false, true, [], [], 0, []⟩] 1 = true := by
    unfold touched; rw [s1, if_neg (by simp)]; simp
  have t0 : touched (exS 97) [⟨false, false, [], [], -1, [1]⟩, ⟨false, true, [], [], 0, []⟩] 0 = false := by
    unfold touched; rw [s1, if_neg (by simp)]
    simp [kidsZ, (exS_kids 97).1, (exS_nd 97).1]
  refine ⟨s, 0, rfl, p, fun _ => ⟨⟨by omega, by simp at hl; omega⟩, hp⟩, true, fun _ => hc 1 _ rfl, p, fun _ => ⟨⟨by omega, by simp at hl; omega⟩, hp⟩, 0, fun _ => hc 4 _ rfl, _, fun _ => slotsTouched (hrd w2 hE2) hS n1 1, fun w3 hE3 => ⟨_, fun _ => slotsTouched (hrd w3 (hE2.trans hE3)) (hS.ext hE3) n1 0, fun w4 hE4 => ⟨((hE1.trans hE2).trans hE3).trans hE4, ?_⟩⟩⟩
  rw [t1, t0]
  simp at hl
  simp [hl]

end Go.Proofs.Yteohbfaechfliaa
