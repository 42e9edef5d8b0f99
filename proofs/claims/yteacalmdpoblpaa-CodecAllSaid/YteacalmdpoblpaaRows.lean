/-
  No cell of these rows narrows 'for every input' (looked for: loops, veiled, ifaces, maps, wideKeys, modest, calm, conditions, laid).
  DERIVED. THE GIVEN ROWS OF THIS SEAT. 5 by the template 'for every input the law returns true; each argument reads behind the call as it read before'; 0 by the template 'total and deterministic' (their statements: YteacalmdpoblpaaTotals.lean).
  GIVEN WITH THE SEED: the statements are not yours to turn. If you find one false, say at which input.
  Laid BY PROGRAM, IN A SANDBOX (cutbox-rows.mjs): the forced cells as the released guide's own fill.sh prints them over the translation 2adf95b7d75132b3… (all of the seat's roots in one cut). By AI agents, Wed Nov 11 2026. No macro, syntax, notation, axiom, sorry.
-/
import Derived.Test.YteacalmdpoblpaaChecked
import GoSem.Claim
import GoSem.ClaimJoined
import GoSem.ClaimMapViews
import Derived.JoinedTies
import Derived.KernelRfl
namespace Go.Proofs.Yteacalmdpoblpaa
/- THE CELL 'sum', in the pinned program and in every row, IS THE sha256 OF THE DUMP (.gsa) THAT YteacalmdpoblpaaProg.lean LOADS. Nothing in Lean hashes anything: it is a label: what it is worth is what the hold of that sum in a sandbox is worth. -/
noncomputable def Try.pinned : Pinned := { name := "yteacalmdpoblpaa", sum := "2adf95b7d75132b33c9c4fc8d7437d61c801fb5307fd236f0e092c5cf9aa6c28", checked := Try.checked }
namespace Rows
def none {H : Type} : Left H := { results := [], args := [] }

/-- 'topiarylaw24.CodecAll': WHATEVER THE INPUT: true; the input reads as it did. -/
def codecAllSpec : ChangeSpec := { name := "codecAll", fn := fun _ => fun
  | [d1, d2, d3, d4] => { results := [.lit (.bool true)], args := [d1, d2, d3, d4] }
  | _ => none }
def codecAllRow : OpenClaim := { program := "yteacalmdpoblpaa", sum := "2adf95b7d75132b33c9c4fc8d7437d61c801fb5307fd236f0e092c5cf9aa6c28", func := "topiary/topiarylaw24.CodecAll", spec := "codecAll", inPlace := ["slices.overlaps[int]", "internal/bytealg.abigen_runtime_cmpstring", "slices.overlaps[topiary/api.Attr]"], unfollowed := true, recurses := true, apart := false }
def CodecAllSaid : Prop := codecAllRow.holds Try.pinned (OpenSpec.ofChange codecAllSpec)

/-- ITS FALSE NEIGHBOUR: 'it returns false'. Refute it at one input. -/
def codecAllWrong : ChangeSpec := { name := "codecAll", fn := fun _ => fun
  | [d1, d2, d3, d4] => { results := [.lit (.bool false)], args := [d1, d2, d3, d4] }
  | _ => none }
def CodecAllWrongFalsely : Prop := codecAllRow.holds Try.pinned (OpenSpec.ofChange codecAllWrong)

/-- 'topiarylaw24.CodecBack': WHATEVER THE INPUT: true; the input reads as it did. -/
def codecBackSpec : ChangeSpec := { name := "codecBack", fn := fun _ => fun
  | [d1, d2, d3, d4] => { results := [.lit (.bool true)], args := [d1, d2, d3, d4] }
  | _ => none }
def codecBackRow : OpenClaim := { program := "yteacalmdpoblpaa", sum := "2adf95b7d75132b33c9c4fc8d7437d61c801fb5307fd236f0e092c5cf9aa6c28", func := "topiary/topiarylaw24.CodecBack", spec := "codecBack", inPlace := ["slices.overlaps[int]", "internal/bytealg.abigen_runtime_cmpstring", "slices.overlaps[topiary/api.Attr]"], unfollowed := true, recurses := true, apart := false }
def CodecBackSaid : Prop := codecBackRow.holds Try.pinned (OpenSpec.ofChange codecBackSpec)

/-- ITS FALSE NEIGHBOUR: 'it returns false'. Refute it at one input. -/
def codecBackWrong : ChangeSpec := { name := "codecBack", fn := fun _ => fun
  | [d1, d2, d3, d4] => { results := [.lit (.bool false)], args := [d1, d2, d3, d4] }
  | _ => none }
def CodecBackWrongFalsely : Prop := codecBackRow.holds Try.pinned (OpenSpec.ofChange codecBackWrong)

/-- 'topiarylaw24.CodecSummed': WHATEVER THE INPUT: true; the input reads as it did. -/
def codecSummedSpec : ChangeSpec := { name := "codecSummed", fn := fun _ => fun
  | [d] => { results := [.lit (.bool true)], args := [d] }
  | _ => none }
def codecSummedRow : OpenClaim := { program := "yteacalmdpoblpaa", sum := "2adf95b7d75132b33c9c4fc8d7437d61c801fb5307fd236f0e092c5cf9aa6c28", func := "topiary/topiarylaw24.CodecSummed", spec := "codecSummed", inPlace := ["slices.overlaps[int]", "internal/bytealg.abigen_runtime_cmpstring", "slices.overlaps[topiary/api.Attr]"], unfollowed := true, recurses := true, apart := false }
def CodecSummedSaid : Prop := codecSummedRow.holds Try.pinned (OpenSpec.ofChange codecSummedSpec)

/-- ITS FALSE NEIGHBOUR: 'it returns false'. Refute it at one input. -/
def codecSummedWrong : ChangeSpec := { name := "codecSummed", fn := fun _ => fun
  | [d] => { results := [.lit (.bool false)], args := [d] }
  | _ => none }
def CodecSummedWrongFalsely : Prop := codecSummedRow.holds Try.pinned (OpenSpec.ofChange codecSummedWrong)

/-- 'topiarylaw24.CodecStrings': WHATEVER THE INPUT: true; the input reads as it did. -/
def codecStringsSpec : ChangeSpec := { name := "codecStrings", fn := fun _ => fun
  | [d1, d2, d3] => { results := [.lit (.bool true)], args := [d1, d2, d3] }
  | _ => none }
def codecStringsRow : OpenClaim := { program := "yteacalmdpoblpaa", sum := "2adf95b7d75132b33c9c4fc8d7437d61c801fb5307fd236f0e092c5cf9aa6c28", func := "topiary/topiarylaw24.CodecStrings", spec := "codecStrings", inPlace := ["slices.overlaps[int]", "internal/bytealg.abigen_runtime_cmpstring", "slices.overlaps[topiary/api.Attr]"], unfollowed := true, recurses := true, apart := false }
def CodecStringsSaid : Prop := codecStringsRow.holds Try.pinned (OpenSpec.ofChange codecStringsSpec)

/-- ITS FALSE NEIGHBOUR: 'it returns false'. Refute it at one input. -/
def codecStringsWrong : ChangeSpec := { name := "codecStrings", fn := fun _ => fun
  | [d1, d2, d3] => { results := [.lit (.bool false)], args := [d1, d2, d3] }
  | _ => none }
def CodecStringsWrongFalsely : Prop := codecStringsRow.holds Try.pinned (OpenSpec.ofChange codecStringsWrong)

/-- 'topiarylaw24.CodecCuts': WHATEVER THE INPUT: true; the input reads as it did. -/
def codecCutsSpec : ChangeSpec := { name := "codecCuts", fn := fun _ => fun
  | [d1, d2, d3, d4] => { results := [.lit (.bool true)], args := [d1, d2, d3, d4] }
  | _ => none }
def codecCutsRow : OpenClaim := { program := "yteacalmdpoblpaa", sum := "2adf95b7d75132b33c9c4fc8d7437d61c801fb5307fd236f0e092c5cf9aa6c28", func := "topiary/topiarylaw24.CodecCuts", spec := "codecCuts", inPlace := ["slices.overlaps[int]", "internal/bytealg.abigen_runtime_cmpstring", "slices.overlaps[topiary/api.Attr]"], unfollowed := true, recurses := true, apart := false }
def CodecCutsSaid : Prop := codecCutsRow.holds Try.pinned (OpenSpec.ofChange codecCutsSpec)

/-- ITS FALSE NEIGHBOUR: 'it returns false'. Refute it at one input. -/
def codecCutsWrong : ChangeSpec := { name := "codecCuts", fn := fun _ => fun
  | [d1, d2, d3, d4] => { results := [.lit (.bool false)], args := [d1, d2, d3, d4] }
  | _ => none }
def CodecCutsWrongFalsely : Prop := codecCutsRow.holds Try.pinned (OpenSpec.ofChange codecCutsWrong)

/- THE SECOND FORM. 'bulk': how many values and letters a reading holds, each counted each time it is reached (what is shared counts as often as it is met; a slice's spare places count too). A statement '..UptoSaid' is the law's where the arguments, and the package variables that the reading takes, are together of bulk at most 1048576: NARROWER than '..Said'. Prove '..Said' where nothing that the law and all that it calls make is longer than what came in: it says more and counts as full. Else prove '..UptoSaid'. A law counts once. -/
mutual
def uptoBulk {H : Type} : DataW H → Nat
  | .lit (.string bytes) => bytes.length + 1
  | .lit _ => 1
  | .nil => 1
  | .ptr d => uptoBulk d + 1
  | .slice elems spare => uptoBulkAll elems + uptoBulkAll spare + 1
  | .agg parts => uptoBulkAll parts + 1
  | .iface _ d => uptoBulk d + 1
  | .map entries => uptoBulkEntries entries + 1
  | .held _ => 1
def uptoBulkAll {H : Type} : List (DataW H) → Nat
  | [] => 0
  | d :: r => uptoBulk d + uptoBulkAll r
def uptoBulkEntries {H : Type} : List (Lit × DataW H) → Nat
  | [] => 0
  | x :: r => uptoBulkEntry x + uptoBulkEntries r
def uptoBulkEntry {H : Type} : Lit × DataW H → Nat
  | (.string bytes, d) => bytes.length + uptoBulk d + 1
  | (_, d) => uptoBulk d + 1
 end
def uptoSmall : (H : Type) → List (DataW H) → Bool := fun _ ds => decide (uptoBulkAll ds ≤ 1048576)
def OpenSpec.upto (s : _root_.Go.ChangeSpec) : _root_.Go.OpenSpec := { _root_.Go.OpenSpec.ofChange s with cond := some uptoSmall }

/-- 'topiarylaw24.CodecAll', WHERE WHAT IT READS IS OF BULK AT MOST 1048576: true; the input reads as it did. -/
def codecAllUptoRow : OpenClaim := { program := "yteacalmdpoblpaa", sum := "2adf95b7d75132b33c9c4fc8d7437d61c801fb5307fd236f0e092c5cf9aa6c28", func := "topiary/topiarylaw24.CodecAll", spec := "codecAll", inPlace := ["slices.overlaps[int]", "internal/bytealg.abigen_runtime_cmpstring", "slices.overlaps[topiary/api.Attr]"], unfollowed := true, recurses := true, apart := false, narrowed := true }
def CodecAllUptoSaid : Prop := codecAllUptoRow.holds Try.pinned (OpenSpec.upto codecAllSpec)

/-- 'topiarylaw24.CodecBack', WHERE WHAT IT READS IS OF BULK AT MOST 1048576: true; the input reads as it did. -/
def codecBackUptoRow : OpenClaim := { program := "yteacalmdpoblpaa", sum := "2adf95b7d75132b33c9c4fc8d7437d61c801fb5307fd236f0e092c5cf9aa6c28", func := "topiary/topiarylaw24.CodecBack", spec := "codecBack", inPlace := ["slices.overlaps[int]", "internal/bytealg.abigen_runtime_cmpstring", "slices.overlaps[topiary/api.Attr]"], unfollowed := true, recurses := true, apart := false, narrowed := true }
def CodecBackUptoSaid : Prop := codecBackUptoRow.holds Try.pinned (OpenSpec.upto codecBackSpec)

/-- 'topiarylaw24.CodecSummed', WHERE WHAT IT READS IS OF BULK AT MOST 1048576: true; the input reads as it did. -/
def codecSummedUptoRow : OpenClaim := { program := "yteacalmdpoblpaa", sum := "2adf95b7d75132b33c9c4fc8d7437d61c801fb5307fd236f0e092c5cf9aa6c28", func := "topiary/topiarylaw24.CodecSummed", spec := "codecSummed", inPlace := ["slices.overlaps[int]", "internal/bytealg.abigen_runtime_cmpstring", "slices.overlaps[topiary/api.Attr]"], unfollowed := true, recurses := true, apart := false, narrowed := true }
def CodecSummedUptoSaid : Prop := codecSummedUptoRow.holds Try.pinned (OpenSpec.upto codecSummedSpec)

/-- 'topiarylaw24.CodecStrings', WHERE WHAT IT READS IS OF BULK AT MOST 1048576: true; the input reads as it did. -/
def codecStringsUptoRow : OpenClaim := { program := "yteacalmdpoblpaa", sum := "2adf95b7d75132b33c9c4fc8d7437d61c801fb5307fd236f0e092c5cf9aa6c28", func := "topiary/topiarylaw24.CodecStrings", spec := "codecStrings", inPlace := ["slices.overlaps[int]", "internal/bytealg.abigen_runtime_cmpstring", "slices.overlaps[topiary/api.Attr]"], unfollowed := true, recurses := true, apart := false, narrowed := true }
def CodecStringsUptoSaid : Prop := codecStringsUptoRow.holds Try.pinned (OpenSpec.upto codecStringsSpec)

/-- 'topiarylaw24.CodecCuts', WHERE WHAT IT READS IS OF BULK AT MOST 1048576: true; the input reads as it did. -/
def codecCutsUptoRow : OpenClaim := { program := "yteacalmdpoblpaa", sum := "2adf95b7d75132b33c9c4fc8d7437d61c801fb5307fd236f0e092c5cf9aa6c28", func := "topiary/topiarylaw24.CodecCuts", spec := "codecCuts", inPlace := ["slices.overlaps[int]", "internal/bytealg.abigen_runtime_cmpstring", "slices.overlaps[topiary/api.Attr]"], unfollowed := true, recurses := true, apart := false, narrowed := true }
def CodecCutsUptoSaid : Prop := codecCutsUptoRow.holds Try.pinned (OpenSpec.upto codecCutsSpec)

end Rows
end Go.Proofs.Yteacalmdpoblpaa
