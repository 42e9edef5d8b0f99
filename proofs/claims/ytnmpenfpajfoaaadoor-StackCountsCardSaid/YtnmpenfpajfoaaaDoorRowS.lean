/-
  An argument that is a slice of texts, opened.
-/
import Derived.Test.YtnmpenfpajfoaaaDoorRowO
import Derived.Test.YtnmpenfpajfoaaaDoorStr
namespace Go.Proofs.YtnmpenfpajfoaaaDoor
open Go.RowKit Go.ChangeShapes Go.WideShapes Go.ChangeAt

theorem open_strs {H : Type} {enc : TypeId × Value → H} {W : World} {v : Value} {d : DataW H} {ps : List MemPlace} {base : Nat} (hval : Value.okWide Tryd.prog W .any base 22 v) (h : DataW.Trod enc Tryd.prog W 0 (fun _ => true) true 22 v d ps) :
    ∃ (s : Sl) (l : List Str), v = s.v ∧ Row [] W s 1 (l.map sc) ∧ (l.map List.length).sum + 1 ≤ Rows.uptoBulk d := by
  obtain ⟨a, len, cap, rfl⟩ := okWide_slice Tryd.underlying22 hval
  obtain ⟨fuel, hf⟩ := h
  obtain ⟨s, gs, hc, hr, _, hb⟩ := open_row Tryd.underlying22 (by kernel_rfl : Tryd.prog.cellsOf 9 = 1) sc (fun _ => True) List.length (fun m _ cs y _ h => by
    obtain ⟨s, rfl, hb⟩ := isStr h
    exact ⟨s, rfl, trivial, by omega⟩) hf
  refine ⟨s, gs, ?_, hr, hb⟩
  simp [Value.cells] at hc
  obtain ⟨rfl, rfl, rfl⟩ := hc
  rfl

end Go.Proofs.YtnmpenfpajfoaaaDoor
