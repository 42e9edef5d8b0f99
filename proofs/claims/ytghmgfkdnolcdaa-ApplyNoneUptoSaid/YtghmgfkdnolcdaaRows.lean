/-
  NARROWER THAN 'FOR EVERY INPUT', by the rows' own cells (each row's printed sentence says how): ApplyNone: loops.
  DERIVED. THE GIVEN ROWS OF THIS SEAT. 10 by the template 'for every input the law returns true; each argument reads behind the call as it read before'; 0 by the template 'total and deterministic' (their statements: YtghmgfkdnolcdaaTotals.lean).
  GIVEN WITH THE SEED: the statements are not yours to turn. If you find one false, say at which input.
  Laid BY PROGRAM, IN A SANDBOX (cutbox-rows.mjs): the forced cells as the released guide's own fill.sh prints them over the translation 074fea2dd93b4d8d… (all of the seat's roots in one cut). By AI agents, Wed Nov 11 2026. No macro, syntax, notation, axiom, sorry.
-/
import Derived.Test.YtghmgfkdnolcdaaChecked
import GoSem.Claim
import GoSem.ClaimJoined
import GoSem.ClaimMapViews
import Derived.JoinedTies
import Derived.KernelRfl
namespace Go.Proofs.Ytghmgfkdnolcdaa
/- THE CELL 'sum', in the pinned program and in every row, IS THE sha256 OF THE DUMP (.gsa) THAT YtghmgfkdnolcdaaProg.lean LOADS. Nothing in Lean hashes anything: it is a label: what it is worth is what the hold of that sum in a sandbox is worth. -/
noncomputable def Try.pinned : Pinned := { name := "ytghmgfkdnolcdaa", sum := "074fea2dd93b4d8d3225c8a4975eda4fd6ed271c5764c2ae5a600c724492b06d", checked := Try.checked }
namespace Rows
def none {H : Type} : Left H := { results := [], args := [] }

/-- 'topiarylaw06.DomLimits': WHATEVER THE INPUT: true; the input reads as it did. -/
def domLimitsSpec : ChangeSpec := { name := "domLimits", fn := fun _ => fun
  | [] => { results := [.lit (.bool true)], args := [] }
  | _ => none }
def domLimitsRow : OpenClaim := { program := "ytghmgfkdnolcdaa", sum := "074fea2dd93b4d8d3225c8a4975eda4fd6ed271c5764c2ae5a600c724492b06d", func := "topiary/topiarylaw06.DomLimits", spec := "domLimits", inPlace := ["slices.overlaps[int]", "internal/bytealg.abigen_runtime_cmpstring", "slices.overlaps[topiary/api.Attr]"], unfollowed := true, recurses := true, apart := false }
def DomLimitsSaid : Prop := domLimitsRow.holds Try.pinned (OpenSpec.ofChange domLimitsSpec)

/-- ITS FALSE NEIGHBOUR: 'it returns false'. Refute it at one input. -/
def domLimitsWrong : ChangeSpec := { name := "domLimits", fn := fun _ => fun
  | [] => { results := [.lit (.bool false)], args := [] }
  | _ => none }
def DomLimitsWrongFalsely : Prop := domLimitsRow.holds Try.pinned (OpenSpec.ofChange domLimitsWrong)

/-- 'topiarylaw06.DomEmpties': WHATEVER THE INPUT: true; the input reads as it did. -/
def domEmptiesSpec : ChangeSpec := { name := "domEmpties", fn := fun _ => fun
  | [d] => { results := [.lit (.bool true)], args := [d] }
  | _ => none }
def domEmptiesRow : OpenClaim := { program := "ytghmgfkdnolcdaa", sum := "074fea2dd93b4d8d3225c8a4975eda4fd6ed271c5764c2ae5a600c724492b06d", func := "topiary/topiarylaw06.DomEmpties", spec := "domEmpties", inPlace := ["slices.overlaps[int]"], unfollowed := true, recurses := true, apart := false }
def DomEmptiesSaid : Prop := domEmptiesRow.holds Try.pinned (OpenSpec.ofChange domEmptiesSpec)

/-- ITS FALSE NEIGHBOUR: 'it returns false'. Refute it at one input. -/
def domEmptiesWrong : ChangeSpec := { name := "domEmpties", fn := fun _ => fun
  | [d] => { results := [.lit (.bool false)], args := [d] }
  | _ => none }
def DomEmptiesWrongFalsely : Prop := domEmptiesRow.holds Try.pinned (OpenSpec.ofChange domEmptiesWrong)

/-- 'topiarylaw06.DomRounds': WHATEVER THE INPUT: true; the input reads as it did. -/
def domRoundsSpec : ChangeSpec := { name := "domRounds", fn := fun _ => fun
  | [d] => { results := [.lit (.bool true)], args := [d] }
  | _ => none }
def domRoundsRow : OpenClaim := { program := "ytghmgfkdnolcdaa", sum := "074fea2dd93b4d8d3225c8a4975eda4fd6ed271c5764c2ae5a600c724492b06d", func := "topiary/topiarylaw06.DomRounds", spec := "domRounds", inPlace := ["slices.overlaps[int]"], unfollowed := true, recurses := true, apart := false }
def DomRoundsSaid : Prop := domRoundsRow.holds Try.pinned (OpenSpec.ofChange domRoundsSpec)

/-- ITS FALSE NEIGHBOUR: 'it returns false'. Refute it at one input. -/
def domRoundsWrong : ChangeSpec := { name := "domRounds", fn := fun _ => fun
  | [d] => { results := [.lit (.bool false)], args := [d] }
  | _ => none }
def DomRoundsWrongFalsely : Prop := domRoundsRow.holds Try.pinned (OpenSpec.ofChange domRoundsWrong)

/-- 'topiarylaw06.DomRight': WHATEVER THE INPUT: true; the input reads as it did. -/
def domRightSpec : ChangeSpec := { name := "domRight", fn := fun _ => fun
  | [d1, d2] => { results := [.lit (.bool true)], args := [d1, d2] }
  | _ => none }
def domRightRow : OpenClaim := { program := "ytghmgfkdnolcdaa", sum := "074fea2dd93b4d8d3225c8a4975eda4fd6ed271c5764c2ae5a600c724492b06d", func := "topiary/topiarylaw06.DomRight", spec := "domRight", inPlace := ["slices.overlaps[int]", "internal/bytealg.abigen_runtime_cmpstring", "slices.overlaps[topiary/api.Attr]"], unfollowed := true, recurses := true, apart := false }
def DomRightSaid : Prop := domRightRow.holds Try.pinned (OpenSpec.ofChange domRightSpec)

/-- ITS FALSE NEIGHBOUR: 'it returns false'. Refute it at one input. -/
def domRightWrong : ChangeSpec := { name := "domRight", fn := fun _ => fun
  | [d1, d2] => { results := [.lit (.bool false)], args := [d1, d2] }
  | _ => none }
def DomRightWrongFalsely : Prop := domRightRow.holds Try.pinned (OpenSpec.ofChange domRightWrong)

/-- 'topiarylaw06.DomBack': WHATEVER THE INPUT: true; the input reads as it did. -/
def domBackSpec : ChangeSpec := { name := "domBack", fn := fun _ => fun
  | [d1, d2, d3, d4] => { results := [.lit (.bool true)], args := [d1, d2, d3, d4] }
  | _ => none }
def domBackRow : OpenClaim := { program := "ytghmgfkdnolcdaa", sum := "074fea2dd93b4d8d3225c8a4975eda4fd6ed271c5764c2ae5a600c724492b06d", func := "topiary/topiarylaw06.DomBack", spec := "domBack", inPlace := ["slices.overlaps[int]", "internal/bytealg.abigen_runtime_cmpstring", "slices.overlaps[topiary/api.Attr]"], unfollowed := true, recurses := true, apart := false }
def DomBackSaid : Prop := domBackRow.holds Try.pinned (OpenSpec.ofChange domBackSpec)

/-- ITS FALSE NEIGHBOUR: 'it returns false'. Refute it at one input. -/
def domBackWrong : ChangeSpec := { name := "domBack", fn := fun _ => fun
  | [d1, d2, d3, d4] => { results := [.lit (.bool false)], args := [d1, d2, d3, d4] }
  | _ => none }
def DomBackWrongFalsely : Prop := domBackRow.holds Try.pinned (OpenSpec.ofChange domBackWrong)

/-- 'topiarylaw23.ApplyRight': WHATEVER THE INPUT: true; the input reads as it did. -/
def applyRightSpec : ChangeSpec := { name := "applyRight", fn := fun _ => fun
  | [d1, d2] => { results := [.lit (.bool true)], args := [d1, d2] }
  | _ => none }
def applyRightRow : OpenClaim := { program := "ytghmgfkdnolcdaa", sum := "074fea2dd93b4d8d3225c8a4975eda4fd6ed271c5764c2ae5a600c724492b06d", func := "topiary/topiarylaw23.ApplyRight", spec := "applyRight", inPlace := ["slices.overlaps[int]", "internal/bytealg.abigen_runtime_cmpstring", "slices.overlaps[topiary/api.Attr]"], unfollowed := true, recurses := true, apart := false }
def ApplyRightSaid : Prop := applyRightRow.holds Try.pinned (OpenSpec.ofChange applyRightSpec)

/-- ITS FALSE NEIGHBOUR: 'it returns false'. Refute it at one input. -/
def applyRightWrong : ChangeSpec := { name := "applyRight", fn := fun _ => fun
  | [d1, d2] => { results := [.lit (.bool false)], args := [d1, d2] }
  | _ => none }
def ApplyRightWrongFalsely : Prop := applyRightRow.holds Try.pinned (OpenSpec.ofChange applyRightWrong)

/-- 'topiarylaw23.ApplyNone': WHATEVER THE INPUT: true; the input reads as it did. -/
def applyNoneSpec : ChangeSpec := { name := "applyNone", fn := fun _ => fun
  | [d] => { results := [.lit (.bool true)], args := [d] }
  | _ => none }
def applyNoneRow : OpenClaim := { program := "ytghmgfkdnolcdaa", sum := "074fea2dd93b4d8d3225c8a4975eda4fd6ed271c5764c2ae5a600c724492b06d", func := "topiary/topiarylaw23.ApplyNone", spec := "applyNone", inPlace := ["slices.overlaps[int]", "internal/bytealg.abigen_runtime_cmpstring", "slices.overlaps[topiary/api.Attr]"], unfollowed := true, recurses := true, loops := true, apart := false }
def ApplyNoneSaid : Prop := applyNoneRow.holds Try.pinned (OpenSpec.ofChange applyNoneSpec)

/-- ITS FALSE NEIGHBOUR: 'it returns false'. Refute it at one input. -/
def applyNoneWrong : ChangeSpec := { name := "applyNone", fn := fun _ => fun
  | [d] => { results := [.lit (.bool false)], args := [d] }
  | _ => none }
def ApplyNoneWrongFalsely : Prop := applyNoneRow.holds Try.pinned (OpenSpec.ofChange applyNoneWrong)

/-- 'topiarylaw23.ApplyInserts': WHATEVER THE INPUT: true; the input reads as it did. -/
def applyInsertsSpec : ChangeSpec := { name := "applyInserts", fn := fun _ => fun
  | [d1, d2] => { results := [.lit (.bool true)], args := [d1, d2] }
  | _ => none }
def applyInsertsRow : OpenClaim := { program := "ytghmgfkdnolcdaa", sum := "074fea2dd93b4d8d3225c8a4975eda4fd6ed271c5764c2ae5a600c724492b06d", func := "topiary/topiarylaw23.ApplyInserts", spec := "applyInserts", inPlace := ["slices.overlaps[int]", "internal/bytealg.abigen_runtime_cmpstring", "slices.overlaps[topiary/api.Attr]"], unfollowed := true, recurses := true, apart := false }
def ApplyInsertsSaid : Prop := applyInsertsRow.holds Try.pinned (OpenSpec.ofChange applyInsertsSpec)

/-- ITS FALSE NEIGHBOUR: 'it returns false'. Refute it at one input. -/
def applyInsertsWrong : ChangeSpec := { name := "applyInserts", fn := fun _ => fun
  | [d1, d2] => { results := [.lit (.bool false)], args := [d1, d2] }
  | _ => none }
def ApplyInsertsWrongFalsely : Prop := applyInsertsRow.holds Try.pinned (OpenSpec.ofChange applyInsertsWrong)

/-- 'topiarylaw23.ApplySets': WHATEVER THE INPUT: true; the input reads as it did. -/
def applySetsSpec : ChangeSpec := { name := "applySets", fn := fun _ => fun
  | [d] => { results := [.lit (.bool true)], args := [d] }
  | _ => none }
def applySetsRow : OpenClaim := { program := "ytghmgfkdnolcdaa", sum := "074fea2dd93b4d8d3225c8a4975eda4fd6ed271c5764c2ae5a600c724492b06d", func := "topiary/topiarylaw23.ApplySets", spec := "applySets", inPlace := ["slices.overlaps[int]", "internal/bytealg.abigen_runtime_cmpstring", "slices.overlaps[topiary/api.Attr]"], unfollowed := true, recurses := true, apart := false }
def ApplySetsSaid : Prop := applySetsRow.holds Try.pinned (OpenSpec.ofChange applySetsSpec)

/-- ITS FALSE NEIGHBOUR: 'it returns false'. Refute it at one input. -/
def applySetsWrong : ChangeSpec := { name := "applySets", fn := fun _ => fun
  | [d] => { results := [.lit (.bool false)], args := [d] }
  | _ => none }
def ApplySetsWrongFalsely : Prop := applySetsRow.holds Try.pinned (OpenSpec.ofChange applySetsWrong)

/-- 'topiarylaw23.ApplyParts': WHATEVER THE INPUT: true; the input reads as it did. -/
def applyPartsSpec : ChangeSpec := { name := "applyParts", fn := fun _ => fun
  | [d1, d2, d3] => { results := [.lit (.bool true)], args := [d1, d2, d3] }
  | _ => none }
def applyPartsRow : OpenClaim := { program := "ytghmgfkdnolcdaa", sum := "074fea2dd93b4d8d3225c8a4975eda4fd6ed271c5764c2ae5a600c724492b06d", func := "topiary/topiarylaw23.ApplyParts", spec := "applyParts", inPlace := ["slices.overlaps[int]", "internal/bytealg.abigen_runtime_cmpstring", "slices.overlaps[topiary/api.Attr]"], unfollowed := true, recurses := true, apart := false }
def ApplyPartsSaid : Prop := applyPartsRow.holds Try.pinned (OpenSpec.ofChange applyPartsSpec)

/-- ITS FALSE NEIGHBOUR: 'it returns false'. Refute it at one input. -/
def applyPartsWrong : ChangeSpec := { name := "applyParts", fn := fun _ => fun
  | [d1, d2, d3] => { results := [.lit (.bool false)], args := [d1, d2, d3] }
  | _ => none }
def ApplyPartsWrongFalsely : Prop := applyPartsRow.holds Try.pinned (OpenSpec.ofChange applyPartsWrong)

/- THE SECOND FORM. 'bulk': how many values and letters a reading holds, each counted each time it is reached (what is shared counts as often as it is met; a slice's spare places count too). A statement '..UptoSaid' is the law's where the arguments, and the package variables that the reading takes, are together of bulk at most 1048576: NARROWER than '..Said'. Prove '..Said' where nothing that the law and all that it calls make is longer than what came in: it says more and counts as full. Else prove '..UptoSaid'. A law counts once. -/
mutual
def uptoBulk {H : Type} : DataW H → Nat
  | .lit (.string bytes) => bytes.length + 1
  | .lit _ => 1
  | .nil => 1
  | .ptr d => uptoBulk d + 1
  | .slice elems spare => uptoBulkAll elems + uptoBulkAll spare + 1
  | .agg parts => uptoBulkAll parts + 1
  | .iface _ d => uptoBulk d + 1
  | .map entries => uptoBulkEntries entries + 1
  | .held _ => 1
def uptoBulkAll {H : Type} : List (DataW H) → Nat
  | [] => 0
  | d :: r => uptoBulk d + uptoBulkAll r
def uptoBulkEntries {H : Type} : List (Lit × DataW H) → Nat
  | [] => 0
  | x :: r => uptoBulkEntry x + uptoBulkEntries r
def uptoBulkEntry {H : Type} : Lit × DataW H → Nat
  | (.string bytes, d) => bytes.length + uptoBulk d + 1
  | (_, d) => uptoBulk d + 1
 end
def uptoSmall : (H : Type) → List (DataW H) → Bool := fun _ ds => decide (uptoBulkAll ds ≤ 1048576)
def OpenSpec.upto (s : _root_.Go.ChangeSpec) : _root_.Go.OpenSpec := { _root_.Go.OpenSpec.ofChange s with cond := some uptoSmall }

/-- 'topiarylaw06.DomLimits', WHERE WHAT IT READS IS OF BULK AT MOST 1048576: true; the input reads as it did. -/
def domLimitsUptoRow : OpenClaim := { program := "ytghmgfkdnolcdaa", sum := "074fea2dd93b4d8d3225c8a4975eda4fd6ed271c5764c2ae5a600c724492b06d", func := "topiary/topiarylaw06.DomLimits", spec := "domLimits", inPlace := ["slices.overlaps[int]", "internal/bytealg.abigen_runtime_cmpstring", "slices.overlaps[topiary/api.Attr]"], unfollowed := true, recurses := true, apart := false, narrowed := true }
def DomLimitsUptoSaid : Prop := domLimitsUptoRow.holds Try.pinned (OpenSpec.upto domLimitsSpec)

/-- 'topiarylaw06.DomEmpties', WHERE WHAT IT READS IS OF BULK AT MOST 1048576: true; the input reads as it did. -/
def domEmptiesUptoRow : OpenClaim := { program := "ytghmgfkdnolcdaa", sum := "074fea2dd93b4d8d3225c8a4975eda4fd6ed271c5764c2ae5a600c724492b06d", func := "topiary/topiarylaw06.DomEmpties", spec := "domEmpties", inPlace := ["slices.overlaps[int]"], unfollowed := true, recurses := true, apart := false, narrowed := true }
def DomEmptiesUptoSaid : Prop := domEmptiesUptoRow.holds Try.pinned (OpenSpec.upto domEmptiesSpec)

/-- 'topiarylaw06.DomRounds', WHERE WHAT IT READS IS OF BULK AT MOST 1048576: true; the input reads as it did. -/
def domRoundsUptoRow : OpenClaim := { program := "ytghmgfkdnolcdaa", sum := "074fea2dd93b4d8d3225c8a4975eda4fd6ed271c5764c2ae5a600c724492b06d", func := "topiary/topiarylaw06.DomRounds", spec := "domRounds", inPlace := ["slices.overlaps[int]"], unfollowed := true, recurses := true, apart := false, narrowed := true }
def DomRoundsUptoSaid : Prop := domRoundsUptoRow.holds Try.pinned (OpenSpec.upto domRoundsSpec)

/-- 'topiarylaw06.DomRight', WHERE WHAT IT READS IS OF BULK AT MOST 1048576: true; the input reads as it did. -/
def domRightUptoRow : OpenClaim := { program := "ytghmgfkdnolcdaa", sum := "074fea2dd93b4d8d3225c8a4975eda4fd6ed271c5764c2ae5a600c724492b06d", func := "topiary/topiarylaw06.DomRight", spec := "domRight", inPlace := ["slices.overlaps[int]", "internal/bytealg.abigen_runtime_cmpstring", "slices.overlaps[topiary/api.Attr]"], unfollowed := true, recurses := true, apart := false, narrowed := true }
def DomRightUptoSaid : Prop := domRightUptoRow.holds Try.pinned (OpenSpec.upto domRightSpec)

/-- 'topiarylaw06.DomBack', WHERE WHAT IT READS IS OF BULK AT MOST 1048576: true; the input reads as it did. -/
def domBackUptoRow : OpenClaim := { program := "ytghmgfkdnolcdaa", sum := "074fea2dd93b4d8d3225c8a4975eda4fd6ed271c5764c2ae5a600c724492b06d", func := "topiary/topiarylaw06.DomBack", spec := "domBack", inPlace := ["slices.overlaps[int]", "internal/bytealg.abigen_runtime_cmpstring", "slices.overlaps[topiary/api.Attr]"], unfollowed := true, recurses := true, apart := false, narrowed := true }
def DomBackUptoSaid : Prop := domBackUptoRow.holds Try.pinned (OpenSpec.upto domBackSpec)

/-- 'topiarylaw23.ApplyRight', WHERE WHAT IT READS IS OF BULK AT MOST 1048576: true; the input reads as it did. -/
def applyRightUptoRow : OpenClaim := { program := "ytghmgfkdnolcdaa", sum := "074fea2dd93b4d8d3225c8a4975eda4fd6ed271c5764c2ae5a600c724492b06d", func := "topiary/topiarylaw23.ApplyRight", spec := "applyRight", inPlace := ["slices.overlaps[int]", "internal/bytealg.abigen_runtime_cmpstring", "slices.overlaps[topiary/api.Attr]"], unfollowed := true, recurses := true, apart := false, narrowed := true }
def ApplyRightUptoSaid : Prop := applyRightUptoRow.holds Try.pinned (OpenSpec.upto applyRightSpec)

/-- 'topiarylaw23.ApplyNone', WHERE WHAT IT READS IS OF BULK AT MOST 1048576: true; the input reads as it did. -/
def applyNoneUptoRow : OpenClaim := { program := "ytghmgfkdnolcdaa", sum := "074fea2dd93b4d8d3225c8a4975eda4fd6ed271c5764c2ae5a600c724492b06d", func := "topiary/topiarylaw23.ApplyNone", spec := "applyNone", inPlace := ["slices.overlaps[int]", "internal/bytealg.abigen_runtime_cmpstring", "slices.overlaps[topiary/api.Attr]"], unfollowed := true, recurses := true, loops := true, apart := false, narrowed := true }
def ApplyNoneUptoSaid : Prop := applyNoneUptoRow.holds Try.pinned (OpenSpec.upto applyNoneSpec)

/-- 'topiarylaw23.ApplyInserts', WHERE WHAT IT READS IS OF BULK AT MOST 1048576: true; the input reads as it did. -/
def applyInsertsUptoRow : OpenClaim := { program := "ytghmgfkdnolcdaa", sum := "074fea2dd93b4d8d3225c8a4975eda4fd6ed271c5764c2ae5a600c724492b06d", func := "topiary/topiarylaw23.ApplyInserts", spec := "applyInserts", inPlace := ["slices.overlaps[int]", "internal/bytealg.abigen_runtime_cmpstring", "slices.overlaps[topiary/api.Attr]"], unfollowed := true, recurses := true, apart := false, narrowed := true }
def ApplyInsertsUptoSaid : Prop := applyInsertsUptoRow.holds Try.pinned (OpenSpec.upto applyInsertsSpec)

/-- 'topiarylaw23.ApplySets', WHERE WHAT IT READS IS OF BULK AT MOST 1048576: true; the input reads as it did. -/
def applySetsUptoRow : OpenClaim := { program := "ytghmgfkdnolcdaa", sum := "074fea2dd93b4d8d3225c8a4975eda4fd6ed271c5764c2ae5a600c724492b06d", func := "topiary/topiarylaw23.ApplySets", spec := "applySets", inPlace := ["slices.overlaps[int]", "internal/bytealg.abigen_runtime_cmpstring", "slices.overlaps[topiary/api.Attr]"], unfollowed := true, recurses := true, apart := false, narrowed := true }
def ApplySetsUptoSaid : Prop := applySetsUptoRow.holds Try.pinned (OpenSpec.upto applySetsSpec)

/-- 'topiarylaw23.ApplyParts', WHERE WHAT IT READS IS OF BULK AT MOST 1048576: true; the input reads as it did. -/
def applyPartsUptoRow : OpenClaim := { program := "ytghmgfkdnolcdaa", sum := "074fea2dd93b4d8d3225c8a4975eda4fd6ed271c5764c2ae5a600c724492b06d", func := "topiary/topiarylaw23.ApplyParts", spec := "applyParts", inPlace := ["slices.overlaps[int]", "internal/bytealg.abigen_runtime_cmpstring", "slices.overlaps[topiary/api.Attr]"], unfollowed := true, recurses := true, apart := false, narrowed := true }
def ApplyPartsUptoSaid : Prop := applyPartsUptoRow.holds Try.pinned (OpenSpec.upto applyPartsSpec)

end Rows
end Go.Proofs.Ytghmgfkdnolcdaa
