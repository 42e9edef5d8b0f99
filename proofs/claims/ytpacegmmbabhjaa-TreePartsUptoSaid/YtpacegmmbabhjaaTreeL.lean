/-
  The laws of chapter 5: TreeParts.
-/
import Derived.Test.YtpacegmmbabhjaaTreeC
namespace Go.Proofs.Ytpacegmmbabhjaa
open Go.RowKit

theorem treePartsLaw {w : World} {t : T} {sa sk : Sl} (h : RdT [] w t sa sk) (hb : t.bulk ≤ 1048576) :
    Calls Try.prog 6 #[tv t sa sk] w (Ret fun v w' => Ext w w' ∧ v = .bool true) := by
  refine law05_TreeParts.ok _ _ _ _ _ ?_
  unfold law05_TreeParts.vc
  have hn := h.nkids
  have hna := h.nattrs
  have hcp := h.caps
  have hl := T.kids_len t
  have hb' : t.bulk ≤ 1099511627776 := by omega
  have ht1 := T.size_eq t
  have ht2 := T.slots_eq t
  have ht3 := T.depth_eq t
  have hb1 := T.size_bulk t
  have hb2 := T.slots_bulk t
  have hb3 := T.depth_size t
  intro w1 B1 _ hE1
  refine CallK.ext (lawSmallT (h.ext hE1) hb') fun v w2 hE2 ⟨b, hv⟩ => ⟨b, hv, fun _ => CallK.exact (treeAwake w2) fun w3 hE3 => ⟨true, rfl, (hE1.trans hE2).trans hE3, rfl⟩, fun _ w3 hE3 w4 hE4 => ?_⟩
  have hE14 := ((hE1.trans hE2).trans hE3).trans hE4
  refine ⟨fun n d s i w5 => ∃ k : Nat, i = (k : Int) ∧ k ≤ t.kids.length ∧ n = ((1 + ((t.kids.take k).map T.size).sum : Nat) : Int) ∧ d = ((((t.kids.take k).map T.depth).foldr max 0 : Nat) : Int) ∧ s = ((t.attrs.length + ((t.kids.take k).map T.slots).sum : Nat) : Int) ∧ Ext w w5, fun _ _ _ i _ => t.kids.length - i.toNat,
    ⟨0, rfl, Nat.zero_le _, by simp, by simp, by simp [hna], hE14⟩, ?_⟩
  rintro _ _ _ _ w5 ⟨k, rfl, hk, rfl, rfl, rfl, hE⟩
  rw [Int.toNat_natCast]
  refine ⟨fun hi => ?_, fun hi => ?_⟩
  · have hk' : k < t.kids.length := by omega
    have hm := getD_mem (d := T.nul) hk'
    have hs1 := sum_take T.size hk'
    have hs2 := sum_take T.slots hk'
    have hs3 := max_take T.depth hk'
    have hl1 := sum_take_le T.size t.kids (k + 1)
    have hl2 := sum_take_le T.slots t.kids (k + 1)
    have hkb := T.kid_bulk hm
    obtain ⟨p, sa', sk', hp, _, hc, hr⟩ := (h.ext hE).kid hk'
    refine ⟨⟨by omega, hi⟩, p, hp, _, _, _, sa', sk', hc, CallK.exact (treeSize _ (by omega) hr) fun w6 hE6 => ⟨_, rfl, ⟨by omega, by omega⟩, ⟨by omega, hi⟩, ?_⟩⟩
    obtain ⟨p, sa', sk', hp, _, hc, hr⟩ := (h.ext (hE.trans hE6)).kid hk'
    refine ⟨p, hp, _, _, _, sa', sk', hc, CallK.exact (treeDepth _ (by omega) hr) fun w7 hE7 => ⟨_, rfl, ⟨by omega, hi⟩, ?_⟩⟩
    have hE7 := (hE.trans hE6).trans hE7
    obtain ⟨p, sa', sk', hp, _, hc, hr⟩ := (h.ext hE7).kid hk'
    refine ⟨p, hp, _, _, _, sa', sk', hc, CallK.exact (treeSlots _ (by omega) hr) fun w8 hE8 => ⟨_, rfl, ⟨by omega, by omega⟩, ⟨by omega, by omega⟩, ⟨k + 1, by omega, by omega, by omega, by omega, by omega, hE7.trans hE8⟩, by dsimp only; omega⟩⟩
  · have hkl : k = t.kids.length := by omega
    subst hkl
    rw [List.take_of_length_le (Nat.le_refl _), ← ht1, ← ht2]
    refine CallK.exact (treeSize _ hb' (h.ext hE)) fun w6 hE6 => ⟨_, rfl, _, fun _ => treeDepth _ hb' (h.ext (hE.trans hE6)), fun w7 hE7 => ⟨fun _ => ⟨by omega, by omega⟩, _, fun _ => treeSlots _ hb' (h.ext ((hE.trans hE6).trans hE7)), fun w8 hE8 => ⟨true, fun _ => treeAwake w8, fun w9 hE9 => ⟨(((hE.trans hE6).trans hE7).trans hE8).trans hE9, ?_⟩⟩⟩⟩
    have e : ((t.depth : Nat) : Int) = (((t.kids.map T.depth).foldr max 0 : Nat) : Int) + 1 := by omega
    rw [decide_eq_true e]; simp

end Go.Proofs.Ytpacegmmbabhjaa
