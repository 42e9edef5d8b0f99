/-
  slots.Touched, slots.Kids; the example of the laws of chapter 25.
-/
import Derived.Test.YteohbfaechfliaaSltD
import Derived.Test.YteohbfaechfliaaGlaw25awake
namespace Go.Proofs.Yteohbfaechfliaa
open Go.RowKit Go.MapKept

def kidsZ (t : T) (j : Nat) : List Int := (t.kidsAt j).map fun k : Nat => (k : Int)
theorem kidsZ_nc (t : T) (j : Nat) : (t.kidsAt j).map nc = (kidsZ t j).map zc := by simp [kidsZ, nc, zc]
def touched (t : T) (vs : List SV) (id : Int) : Bool := if id < 0 ∨ t.size ≤ id ∨ (vs.length : Int) ≤ id then false else
  !(vs.getD id.toNat sv0).gone && ((vs.getD id.toNat sv0).text || decide (0 < ((vs.getD id.toNat sv0).set.length : Int)) || decide (0 < ((vs.getD id.toNat sv0).unset.length : Int)) || !(decide ((vs.getD id.toNat sv0).kids = kidsZ t id.toNat)) || decide ((vs.getD id.toNat sv0).up ≠ (t.nd id.toNat).par))

theorem slotsTouched {A B : List Nat} {w : World} {t : T} {sa sk l : Sl} {vs : List SV} (h : RdT A w t sa sk) (hl : Slots B w l vs) (nt : t.bulk ≤ 400000000) (id : Int) :
    Calls Try.prog 16 #[tv t sa sk, l.v, .int .i64 id] w (Ret fun v w' => Ext w w' ∧ v = .bool (touched t vs id)) := by
  obtain ⟨R, hR⟩ : ∃ R, R = touched t vs id := ⟨_, rfl⟩
  rw [← hR]
  refine slots_Touched.ok _ _ _ _ _ _ _ ?_
  unfold slots_Touched.vc
  have hsz := T.size_bulk t
  intro w1 B1 hN1 hE1
  refine CallK.ext (walkFlat (by omega) (h.ext hE1)) ?_
  rintro v w2 hE2 ⟨s, rfl, hI⟩
  have hE02 := hE1.trans hE2
  have hL := hl.ext hE02
  have hln := hL.len
  obtain ⟨hn, p, al, hp, hc⟩ := hI.cell
  refine ⟨s, rfl, ?_⟩
  by_cases hid : id < 0 ∨ (t.size : Int) ≤ id ∨ (vs.length : Int) ≤ id
  · have hf : R = false := by rw [hR]; unfold touched; rw [if_pos hid]
    refine ⟨⟨0, 0, none⟩, fun hg => by omega, false, fun hg => by omega, fun _ => ⟨hE02, by rw [hf]⟩, fun hg => by omega⟩
  · have h1 : 0 ≤ id := by omega
    have h2 : id < t.size := by omega
    have h3 : id < vs.length := by omega
    obtain ⟨pl, se, un, ki, hpl, hcell, o1, o2, o3⟩ := hL.at (i := id.toNat) (by omega)
    unfold touched at hR
    rw [if_neg hid] at hR
    generalize vs.getD id.toNat sv0 = sv at hcell o1 o2 o3 hR
    obtain ⟨gone, text, set, unset, up, kids⟩ := sv
    have n1 := o1.len
    have n2 := o2.len
    rw [List.length_map] at n1 n2
    simp only at n1 n2 o3
    refine ⟨pl, fun _ => ⟨⟨h1, by omega⟩, hpl⟩, gone, fun _ => hcell 0 _ rfl, fun hbad => ⟨hE02, ?_⟩, fun hg => ⟨⟨h1, by omega⟩, pl, hpl, gone, text, se, un, up, ki, hcell, fun w3 B3 hN3 hE3 => ?_⟩⟩
    · rcases hbad with ((hb | hb) | hb) | hb
      · omega
      · omega
      · omega
      · rw [hR, hb]; rfl
    · have hgone : gone = false := hg.2
      subst hgone
      refine ⟨fun r w' => Own [] w' r 1 3 ((kidsZ t id.toNat).map zc), fun r w' w'' hE h => h.ext hE, fun _ w' hE => ?_, decide (kids = kidsZ t id.toNat), fun _ r w' hE hr => ?_, p, fun _ => ⟨⟨h1, by omega⟩, hp⟩, (t.nd id.toNat).par, fun _ => ((hc id.toNat (by omega)).1.ext hE3) 0 _ rfl, fun w4 hE4 => ⟨(hE02.trans hE3).trans hE4, ?_⟩⟩
      · have hcall := slotsKids (hI.ext (hE3.trans hE)) (by omega) (j := id.toNat) (by omega)
        rw [show ((id.toNat : Nat) : Int) = id by omega] at hcall
        refine Ret.mono hcall ?_
        rintro v w'' ⟨a1, r, rfl, a2⟩
        exact ⟨a1, r, rfl, by rw [← kidsZ_nc]; exact a2.less (by simp)⟩
      · exact slicesEqual ((o3.ext (hE3.trans hE)).row) (hr (by assumption)).row
      · rw [hR, n1, n2]; simp

end Go.Proofs.Yteohbfaechfliaa
