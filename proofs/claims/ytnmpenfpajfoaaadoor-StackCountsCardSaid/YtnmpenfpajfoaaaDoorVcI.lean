/-
  Rules, further: guarded operations that write; arrays read at an open number.
-/
import Derived.Test.YtnmpenfpajfoaaaDoorVcH
namespace Go.Proofs.YtnmpenfpajfoaaaDoor
open Go.RowKit

section ops
variable {P : Program} {ops : Array Oper} {Q : Exit → Act → World → Prop} {K : Act → World → Prop} {n : Nat} {a : Act} {w : World} {L : List (Nat × Value)}
/-- A guarded operation that may write. -/
theorem opk_grunW {j tj d : Nat} {want g e : Bool} {op : Op} {ty : TypeId} {pos : String} {after : Array Edge} {m : Sem Value} {bx : List Nat} {R : Value → World → Prop} (hA : Ag n a L) (hd : Nat.blt d n = true)
    (hj : (ops[j]?).bind (·.dst) = some tj) (hl : lookupL tj L = some (cV g (.bool e)))
    (hrun : (g && (e == want)) = true → ∀ v w', m.run P w = .ok v w' → (execOp a.eval ⟨some d, op, ty, pos, after, some (j, want)⟩).run P w = .ok (.value v) w')
    (hc : (g && (e == want)) = true → ∃ v w', m.run P w = .ok v w' ∧ NoTouch bx w w' ∧ w.heap.size ≤ w'.heap.size ∧ R v w')
    (k : ∀ a' v w', Ag n a' ((d, cV (g && (e == want)) v) :: L) → a' = a.put (some d) (cV (g && (e == want)) v) → NoTouch bx w w' → w.heap.size ≤ w'.heap.size → ((g && (e == want)) = true → R v w') → ((g && (e == want)) = false → w' = w) → K a' w') : opK P ops Q ⟨some d, op, ty, pos, after, some (j, want)⟩ K a w := by
  unfold opK
  rw [wanted_of hA hj hl]
  by_cases h : (g && (e == want)) = true
  · rw [if_pos h]
    obtain ⟨v, w', h0, h1, h2, h3⟩ := hc h
    simp only [Oper.wp, hrun h v w' h0, Oper.upon]
    refine k _ v w' ?_ (by rw [h]; rfl) h1 h2 (fun _ => h3) (fun h' => by rw [h] at h'; cases h')
    rw [h, cV_true]; exact hA.put hd v
  · rw [if_neg h]
    have hf : (g && (e == want)) = false := by simpa using h
    refine k _ undef w ?_ (by rw [hf]; rfl) (fun _ _ _ => rfl) (Nat.le_refl _) (fun h' => absurd h' h) (fun _ => rfl)
    rw [hf]; exact hA.put hd undef
end ops

/-- A cell of an array of one kind, at an open number. -/
theorem Box.cellA {α : Type} {w : World} {B : Nat} {T : TypeId} {cs : List Value} (l : List α) (f : α → Value) (d : α) (h : Box w B T cs) (hcs : cs = l.map f) {i : Int} {n : Nat} (hn : l.length = n) (hi : 0 ≤ i ∧ i < n) : w.cell? ((⟨B, 0, none⟩ : Addr).add (i.toNat * 1)) = some (f (l.getD i.toNat d)) := by
  subst hcs
  rw [Addr.add_lit, Nat.zero_add, Nat.mul_one]
  have hlt : i.toNat < l.length := by omega
  exact h.cell _ _ (by simp [List.getD_eq_getElem?_getD, hlt])

end Go.Proofs.YtnmpenfpajfoaaaDoor
