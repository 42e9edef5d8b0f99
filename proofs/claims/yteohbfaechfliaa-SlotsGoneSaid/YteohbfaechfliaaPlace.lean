/-
  The laws' Place.
-/
import Derived.Test.YteohbfaechfliaaGlaw00
namespace Go.Proofs.Yteohbfaechfliaa
open Go.RowKit

theorem place {w : World} (v n : Int) (hn : 0 < n) (hn63 : n ≤ 9223372036854775807) : Calls Try.prog 49 #[.int .i64 v, .int .i64 n] w (Ret fun u w' => Ext w w' ∧ u = .int .i64 (v.emod n)) := by
  refine law00_Place.ok _ _ ?_
  unfold law00_Place.vc
  have h1 := Int.tmod_eq_emod (a := v) (b := n)
  have h2 := Int.emod_nonneg v (show n ≠ 0 by omega)
  have h3 := Int.emod_lt_of_pos v hn
  have h4 : (((if 0 ≤ v ∨ n ∣ v then 0 else n.natAbs : Nat)) : Int) = 0 ∨ (((if 0 ≤ v ∨ n ∣ v then 0 else n.natAbs : Nat)) : Int) = n := by
    split
    · exact .inl rfl
    · right; omega
  generalize (((if 0 ≤ v ∨ n ∣ v then 0 else n.natAbs : Nat)) : Int) = q at h1 h4
  refine ⟨by omega, fun h => ⟨⟨by omega, by omega⟩, Chg.refl _ _, ?_⟩, fun h => ⟨Chg.refl _ _, ?_⟩⟩
  · show Value.int .i64 _ = Value.int .i64 (v % n)
    rw [show v.tmod n + n = v % n by omega]
  · show Value.int .i64 _ = Value.int .i64 (v % n)
    rw [show v.tmod n = v % n by omega]


end Go.Proofs.Yteohbfaechfliaa
