/-
  strings.Fields, by the shelf's contract.
-/
import Derived.Test.YtnmpenfpajfoaaaDoorStr
import Derived.Test.YtnmpenfpajfoaaaDoorShelf
namespace Go.Proofs.YtnmpenfpajfoaaaDoor
open Go.RowKit

theorem cntF_le : ∀ (l : List UInt8) (ws : Bool), Lib.cntF ws l ≤ l.length
  | [], _ => Nat.le_refl _
  | b :: t, ws => by
    have := cntF_le t (Lib.isSp b)
    simp only [Lib.cntF, List.length_cons]
    split <;> omega

/-- strings.asciiSpace is as it is laid. -/
def Sp (w : World) : Prop := Lib.TabIs Tryd.prog w "strings.asciiSpace" .u8 Lib.asciiSpaceTab

theorem fieldsC {w : World} (hT : Sp w) (s : Str) (ha : s.all (fun b => decide (b.toNat < 128)) = true) (hl : s.length ≤ 1000000) :
    Calls Tryd.prog 25 #[.string (Bs s)] w (Ret fun v w' => Ext w w' ∧ ∃ r : Sl, v = r.v ∧ Row [] w' r 1 ((Lib.fields s).map sc)) := by
  refine (Tryd.strings_Fields (Bs s) w (by rw [Bs_size]; omega) (fun j b hb => ?_) hT).mono fun e w' ⟨he, hw⟩ => ?_
  · rw [Bs_data] at hb
    have := List.all_eq_true.1 ha b (List.mem_of_getElem? hb)
    simpa using this
  · subst he hw
    rw [Bs_data]
    have hn : (Lib.fields s).length ≤ s.length := by rw [Lib.fields_length]; exact cntF_le s _
    have hb : Box (w.alloc (.cells ((Lib.fields s).map fun l => Value.string ⟨l.toArray⟩).toArray 9)) w.heap.size 9 ((Lib.fields s).map fun x => .string (Bs x)) := Box.alloc _ _ _
    generalize Lib.fields s = l at hb hn
    refine ⟨Ext.alloc _ _, ⟨some ⟨w.heap.size, 0, none⟩, l.length, l.length⟩, rfl, hb.rowStrL (by simp only [maxLen]; omega) (by simp)⟩

theorem Sp.ext {w w' : World} (h : Sp w) (c : Ext w w') : Sp w' := by
  have hg : Tryd.prog.globalNamed "strings.asciiSpace" = some 0 := by kernel_rfl
  unfold Sp Lib.TabIs World.var? at h ⊢
  rw [hg] at h ⊢
  simp only [Option.bind_some] at h ⊢
  have hlt : 0 < w.heap.size := by
    rcases Nat.lt_or_ge 0 w.heap.size with h' | h'
    · exact h'
    · rw [Array.getElem?_eq_none h'] at h; cases h
  rw [c.block _ hlt (by simp)]
  exact h

end Go.Proofs.YtnmpenfpajfoaaaDoor
