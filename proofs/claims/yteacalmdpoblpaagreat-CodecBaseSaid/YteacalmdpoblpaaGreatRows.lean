/-
  NARROWER THAN 'FOR EVERY INPUT', by the rows' own cells (each row's printed sentence says how): CodecPatches: loops.
  DERIVED. THE GIVEN ROWS OF THIS SEAT. 3 by the template 'for every input the law returns true; each argument reads behind the call as it read before'; 0 by the template 'total and deterministic' (their statements: YteacalmdpoblpaaGreatTotals.lean).
  GIVEN WITH THE SEED: the statements are not yours to turn. If you find one false, say at which input.
  Laid BY PROGRAM, IN A SANDBOX (cutbox-rows.mjs): the forced cells as the released guide's own fill.sh prints them over the translation b5ce56a1925e87a8… (all of the seat's roots in one cut). By AI agents, Wed Nov 11 2026. No macro, syntax, notation, axiom, sorry.
-/
import Derived.Test.YteacalmdpoblpaaGreatChecked
import GoSem.Claim
import GoSem.ClaimJoined
import GoSem.ClaimMapViews
import Derived.JoinedTies
import Derived.KernelRfl
namespace Go.Proofs.YteacalmdpoblpaaGreat
/- THE CELL 'sum', in the pinned program and in every row, IS THE sha256 OF THE DUMP (.gsa) THAT YteacalmdpoblpaaGreatProg.lean LOADS. Nothing in Lean hashes anything: it is a label: what it is worth is what the hold of that sum in a sandbox is worth. -/
noncomputable def Tryz.pinned : Pinned := { name := "yteacalmdpoblpaagreat", sum := "b5ce56a1925e87a8fdfcb35d22a382b26e0d217cf8b98d55d3979afed4380086", checked := Tryz.checked }
namespace Rows
def none {H : Type} : Left H := { results := [], args := [] }

/-- 'topiarylaw24.CodecTurned': WHATEVER THE INPUT: true; the input reads as it did. -/
def codecTurnedSpec : ChangeSpec := { name := "codecTurned", fn := fun _ => fun
  | [d1, d2, d3, d4, d5] => { results := [.lit (.bool true)], args := [d1, d2, d3, d4, d5] }
  | _ => none }
def codecTurnedRow : OpenClaim := { program := "yteacalmdpoblpaagreat", sum := "b5ce56a1925e87a8fdfcb35d22a382b26e0d217cf8b98d55d3979afed4380086", func := "topiary/topiarylaw24.CodecTurned", spec := "codecTurned", inPlace := ["slices.overlaps[int]", "internal/bytealg.abigen_runtime_cmpstring", "slices.overlaps[topiary/api.Attr]"], unfollowed := true, recurses := true, apart := false }
def CodecTurnedSaid : Prop := codecTurnedRow.holds Tryz.pinned (OpenSpec.ofChange codecTurnedSpec)

/-- ITS FALSE NEIGHBOUR: 'it returns false'. Refute it at one input. -/
def codecTurnedWrong : ChangeSpec := { name := "codecTurned", fn := fun _ => fun
  | [d1, d2, d3, d4, d5] => { results := [.lit (.bool false)], args := [d1, d2, d3, d4, d5] }
  | _ => none }
def CodecTurnedWrongFalsely : Prop := codecTurnedRow.holds Tryz.pinned (OpenSpec.ofChange codecTurnedWrong)

/-- 'topiarylaw24.CodecPatches': WHATEVER THE INPUT: true; the input reads as it did. -/
def codecPatchesSpec : ChangeSpec := { name := "codecPatches", fn := fun _ => fun
  | [d1, d2, d3, d4] => { results := [.lit (.bool true)], args := [d1, d2, d3, d4] }
  | _ => none }
def codecPatchesRow : OpenClaim := { program := "yteacalmdpoblpaagreat", sum := "b5ce56a1925e87a8fdfcb35d22a382b26e0d217cf8b98d55d3979afed4380086", func := "topiary/topiarylaw24.CodecPatches", spec := "codecPatches", inPlace := ["slices.overlaps[int]", "internal/bytealg.abigen_runtime_cmpstring", "slices.overlaps[topiary/api.Attr]"], unfollowed := true, recurses := true, loops := true, apart := false }
def CodecPatchesSaid : Prop := codecPatchesRow.holds Tryz.pinned (OpenSpec.ofChange codecPatchesSpec)

/-- ITS FALSE NEIGHBOUR: 'it returns false'. Refute it at one input. -/
def codecPatchesWrong : ChangeSpec := { name := "codecPatches", fn := fun _ => fun
  | [d1, d2, d3, d4] => { results := [.lit (.bool false)], args := [d1, d2, d3, d4] }
  | _ => none }
def CodecPatchesWrongFalsely : Prop := codecPatchesRow.holds Tryz.pinned (OpenSpec.ofChange codecPatchesWrong)

/-- 'topiarylaw24.CodecBase': WHATEVER THE INPUT: true; the input reads as it did. -/
def codecBaseSpec : ChangeSpec := { name := "codecBase", fn := fun _ => fun
  | [d1, d2, d3] => { results := [.lit (.bool true)], args := [d1, d2, d3] }
  | _ => none }
def codecBaseRow : OpenClaim := { program := "yteacalmdpoblpaagreat", sum := "b5ce56a1925e87a8fdfcb35d22a382b26e0d217cf8b98d55d3979afed4380086", func := "topiary/topiarylaw24.CodecBase", spec := "codecBase", inPlace := ["slices.overlaps[int]", "internal/bytealg.abigen_runtime_cmpstring", "slices.overlaps[topiary/api.Attr]"], unfollowed := true, recurses := true, apart := false }
def CodecBaseSaid : Prop := codecBaseRow.holds Tryz.pinned (OpenSpec.ofChange codecBaseSpec)

/-- ITS FALSE NEIGHBOUR: 'it returns false'. Refute it at one input. -/
def codecBaseWrong : ChangeSpec := { name := "codecBase", fn := fun _ => fun
  | [d1, d2, d3] => { results := [.lit (.bool false)], args := [d1, d2, d3] }
  | _ => none }
def CodecBaseWrongFalsely : Prop := codecBaseRow.holds Tryz.pinned (OpenSpec.ofChange codecBaseWrong)

/- THE SECOND FORM. 'bulk': how many values and letters a reading holds, each counted each time it is reached (what is shared counts as often as it is met; a slice's spare places count too). A statement '..UptoSaid' is the law's where the arguments, and the package variables that the reading takes, are together of bulk at most 1048576: NARROWER than '..Said'. Prove '..Said' where nothing that the law and all that it calls make is longer than what came in: it says more and counts as full. Else prove '..UptoSaid'. A law counts once. -/
mutual
def uptoBulk {H : Type} : DataW H → Nat
  | .lit (.string bytes) => bytes.length + 1
  | .lit _ => 1
  | .nil => 1
  | .ptr d => uptoBulk d + 1
  | .slice elems spare => uptoBulkAll elems + uptoBulkAll spare + 1
  | .agg parts => uptoBulkAll parts + 1
  | .iface _ d => uptoBulk d + 1
  | .map entries => uptoBulkEntries entries + 1
  | .held _ => 1
def uptoBulkAll {H : Type} : List (DataW H) → Nat
  | [] => 0
  | d :: r => uptoBulk d + uptoBulkAll r
def uptoBulkEntries {H : Type} : List (Lit × DataW H) → Nat
  | [] => 0
  | x :: r => uptoBulkEntry x + uptoBulkEntries r
def uptoBulkEntry {H : Type} : Lit × DataW H → Nat
  | (.string bytes, d) => bytes.length + uptoBulk d + 1
  | (_, d) => uptoBulk d + 1
 end
def uptoSmall : (H : Type) → List (DataW H) → Bool := fun _ ds => decide (uptoBulkAll ds ≤ 1048576)
def OpenSpec.upto (s : _root_.Go.ChangeSpec) : _root_.Go.OpenSpec := { _root_.Go.OpenSpec.ofChange s with cond := some uptoSmall }

/-- 'topiarylaw24.CodecTurned', WHERE WHAT IT READS IS OF BULK AT MOST 1048576: true; the input reads as it did. -/
def codecTurnedUptoRow : OpenClaim := { program := "yteacalmdpoblpaagreat", sum := "b5ce56a1925e87a8fdfcb35d22a382b26e0d217cf8b98d55d3979afed4380086", func := "topiary/topiarylaw24.CodecTurned", spec := "codecTurned", inPlace := ["slices.overlaps[int]", "internal/bytealg.abigen_runtime_cmpstring", "slices.overlaps[topiary/api.Attr]"], unfollowed := true, recurses := true, apart := false, narrowed := true }
def CodecTurnedUptoSaid : Prop := codecTurnedUptoRow.holds Tryz.pinned (OpenSpec.upto codecTurnedSpec)

/-- 'topiarylaw24.CodecPatches', WHERE WHAT IT READS IS OF BULK AT MOST 1048576: true; the input reads as it did. -/
def codecPatchesUptoRow : OpenClaim := { program := "yteacalmdpoblpaagreat", sum := "b5ce56a1925e87a8fdfcb35d22a382b26e0d217cf8b98d55d3979afed4380086", func := "topiary/topiarylaw24.CodecPatches", spec := "codecPatches", inPlace := ["slices.overlaps[int]", "internal/bytealg.abigen_runtime_cmpstring", "slices.overlaps[topiary/api.Attr]"], unfollowed := true, recurses := true, loops := true, apart := false, narrowed := true }
def CodecPatchesUptoSaid : Prop := codecPatchesUptoRow.holds Tryz.pinned (OpenSpec.upto codecPatchesSpec)

/-- 'topiarylaw24.CodecBase', WHERE WHAT IT READS IS OF BULK AT MOST 1048576: true; the input reads as it did. -/
def codecBaseUptoRow : OpenClaim := { program := "yteacalmdpoblpaagreat", sum := "b5ce56a1925e87a8fdfcb35d22a382b26e0d217cf8b98d55d3979afed4380086", func := "topiary/topiarylaw24.CodecBase", spec := "codecBase", inPlace := ["slices.overlaps[int]", "internal/bytealg.abigen_runtime_cmpstring", "slices.overlaps[topiary/api.Attr]"], unfollowed := true, recurses := true, apart := false, narrowed := true }
def CodecBaseUptoSaid : Prop := codecBaseUptoRow.holds Tryz.pinned (OpenSpec.upto codecBaseSpec)

end Rows
end Go.Proofs.YteacalmdpoblpaaGreat
