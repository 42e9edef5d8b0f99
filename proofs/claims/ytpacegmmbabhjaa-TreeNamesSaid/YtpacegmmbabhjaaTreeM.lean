/-
  The laws of chapter 5: TreeNames.
-/
import Derived.Test.YtpacegmmbabhjaaTreeC
namespace Go.Proofs.Ytpacegmmbabhjaa
open Go.RowKit

def badByte (c : Int) : Bool := ((((((((((((decide (c = 0)) || (decide (c = 9))) || (decide (c = 10))) || (decide (c = 12))) || (decide (c = 32))) || (decide (c = 34))) || (decide (c = 39))) || (decide (c = 62))) || (decide (c = 47))) || (decide (c = 61))) || (decide (c = 60))) || ((decide (65 ≤ c)) && (decide (c ≤ 90))))
theorem name_byte (c : Nat) (h : c < 128) : (nameOk ([120] ++ [UInt8.ofNat c]) == badByte (c : Int)) = false := by
  have k : ∀ c : Fin 128, (nameOk ([120] ++ [UInt8.ofNat c.val]) == badByte (c.val : Int)) = false := by decide +kernel
  exact k ⟨c, h⟩

theorem treeNamesLaw {w : World} : Calls Try.prog 5 #[] w (Ret fun v w' => Ext w w' ∧ v = .bool true) := by
  refine law05_TreeNames.ok ?_
  unfold law05_TreeNames.vc
  have e1 : nameOk [97, 98, 99, 100, 101, 102, 103, 104, 105, 106, 107, 108, 109, 110, 111, 112, 113, 114, 115, 116, 117, 118, 119, 120, 121, 122, 48, 49, 50, 51, 52, 53] = true := by decide +kernel
  have e2 : nameOk ([97, 98, 99, 100, 101, 102, 103, 104, 105, 106, 107, 108, 109, 110, 111, 112, 113, 114, 115, 116, 117, 118, 119, 120, 121, 122, 48, 49, 50, 51, 52, 53] ++ [54]) = false := by decide +kernel
  have e3 : nameOk [] = false := by decide +kernel
  have e4 : nameOk [195, 169, 45, 95, 58, 46, 38, 59] = true := by decide +kernel
  refine CallK.exact (treeName _) fun w1 hE1 => ⟨_, rfl, fun _ => by decide, _, fun _ => treeName _, fun w2 hE2 => ⟨_, fun _ => treeName _, fun w3 hE3 => ⟨_, fun _ => treeName _, fun w4 hE4 => ⟨fun hbad => ?_, fun _ => ?_⟩⟩⟩⟩
  · rw [e1, e2, e3, e4] at hbad; simp at hbad
  · refine ⟨fun i w5 => ∃ k : Nat, i = (k : Int) ∧ k ≤ 128 ∧ Ext w w5, fun i _ => 128 - i.toNat, ⟨0, rfl, by omega, ((hE1.trans hE2).trans hE3).trans hE4⟩, ?_⟩
    rintro _ w5 ⟨k, rfl, hk, hE⟩
    refine ⟨fun hi w6 B _ hE6 hB => ?_, fun hi => CallK.exact (treeAwake w5) fun w6 hE6 => ⟨true, rfl, hE.trans hE6, rfl⟩⟩
    have hk' : k < 128 := by omega
    have hv : IntKind.u8.wrap (k : Int) = (((UInt8.ofNat k).toNat : Nat) : Int) := by
      rw [IntKind.wrap_u8]; simp
    rw [hv] at hB
    have hr : RdB [] w6 (Sl.mk (some ⟨B, 0, none⟩) 1 1) [UInt8.ofNat k] := Box.rdB (xs := [UInt8.ofNat k]) hB (by simp [maxLen]) [] (by simp)
    refine ⟨_, hr.conv Try.underlying39 Try.underlying5 Try.underlying9, by simp, CallK.exact (treeName _) fun w7 hE7 => ⟨_, rfl, fun hbad => ?_, fun _ => ⟨⟨by omega, by omega⟩, ⟨k + 1, by omega, by omega, (hE.trans hE6).trans hE7⟩, by dsimp only; omega⟩⟩⟩
    have := name_byte k hk'
    unfold badByte at this
    rw [this] at hbad; cases hbad

end Go.Proofs.Ytpacegmmbabhjaa
