/-
  NARROWER THAN 'FOR EVERY INPUT', by the rows' own cells (each row's printed sentence says how): SlotsAll: loops.
  DERIVED. THE GIVEN ROWS OF THIS SEAT. 5 by the template 'for every input the law returns true; each argument reads behind the call as it read before'; 0 by the template 'total and deterministic' (their statements: YteohbfaechfliaaTotals.lean).
  GIVEN WITH THE SEED: the statements are not yours to turn. If you find one false, say at which input.
  Laid BY PROGRAM, IN A SANDBOX (cutbox-rows.mjs): the forced cells as the released guide's own fill.sh prints them over the translation cf284ba84c423a9d… (all of the seat's roots in one cut). By AI agents, Wed Nov 11 2026. No macro, syntax, notation, axiom, sorry.
-/
import Derived.Test.YteohbfaechfliaaChecked
import GoSem.Claim
import GoSem.ClaimJoined
import GoSem.ClaimMapViews
import Derived.JoinedTies
import Derived.KernelRfl
namespace Go.Proofs.Yteohbfaechfliaa
/- THE CELL 'sum', in the pinned program and in every row, IS THE sha256 OF THE DUMP (.gsa) THAT YteohbfaechfliaaProg.lean LOADS. Nothing in Lean hashes anything: it is a label: what it is worth is what the hold of that sum in a sandbox is worth. -/
noncomputable def Try.pinned : Pinned := { name := "yteohbfaechfliaa", sum := "cf284ba84c423a9dfa07c8ebe75b22e7b80edc8a3d3e677f456c401925e5ea9d", checked := Try.checked }
namespace Rows
def none {H : Type} : Left H := { results := [], args := [] }

/-- 'topiarylaw25.SlotsAttrs': WHATEVER THE INPUT: true; the input reads as it did. -/
def slotsAttrsSpec : ChangeSpec := { name := "slotsAttrs", fn := fun _ => fun
  | [d1, d2] => { results := [.lit (.bool true)], args := [d1, d2] }
  | _ => none }
def slotsAttrsRow : OpenClaim := { program := "yteohbfaechfliaa", sum := "cf284ba84c423a9dfa07c8ebe75b22e7b80edc8a3d3e677f456c401925e5ea9d", func := "topiary/topiarylaw25.SlotsAttrs", spec := "slotsAttrs", unfollowed := true, recurses := true, apart := false }
def SlotsAttrsSaid : Prop := slotsAttrsRow.holds Try.pinned (OpenSpec.ofChange slotsAttrsSpec)

/-- ITS FALSE NEIGHBOUR: 'it returns false'. Refute it at one input. -/
def slotsAttrsWrong : ChangeSpec := { name := "slotsAttrs", fn := fun _ => fun
  | [d1, d2] => { results := [.lit (.bool false)], args := [d1, d2] }
  | _ => none }
def SlotsAttrsWrongFalsely : Prop := slotsAttrsRow.holds Try.pinned (OpenSpec.ofChange slotsAttrsWrong)

/-- 'topiarylaw25.SlotsGone': WHATEVER THE INPUT: true; the input reads as it did. -/
def slotsGoneSpec : ChangeSpec := { name := "slotsGone", fn := fun _ => fun
  | [d] => { results := [.lit (.bool true)], args := [d] }
  | _ => none }
def slotsGoneRow : OpenClaim := { program := "yteohbfaechfliaa", sum := "cf284ba84c423a9dfa07c8ebe75b22e7b80edc8a3d3e677f456c401925e5ea9d", func := "topiary/topiarylaw25.SlotsGone", spec := "slotsGone", unfollowed := true, recurses := true, apart := false }
def SlotsGoneSaid : Prop := slotsGoneRow.holds Try.pinned (OpenSpec.ofChange slotsGoneSpec)

/-- ITS FALSE NEIGHBOUR: 'it returns false'. Refute it at one input. -/
def slotsGoneWrong : ChangeSpec := { name := "slotsGone", fn := fun _ => fun
  | [d] => { results := [.lit (.bool false)], args := [d] }
  | _ => none }
def SlotsGoneWrongFalsely : Prop := slotsGoneRow.holds Try.pinned (OpenSpec.ofChange slotsGoneWrong)

/-- 'topiarylaw25.SlotsAll': WHATEVER THE INPUT: true; the input reads as it did. -/
def slotsAllSpec : ChangeSpec := { name := "slotsAll", fn := fun _ => fun
  | [d1, d2, d3, d4] => { results := [.lit (.bool true)], args := [d1, d2, d3, d4] }
  | _ => none }
def slotsAllRow : OpenClaim := { program := "yteohbfaechfliaa", sum := "cf284ba84c423a9dfa07c8ebe75b22e7b80edc8a3d3e677f456c401925e5ea9d", func := "topiary/topiarylaw25.SlotsAll", spec := "slotsAll", unfollowed := true, recurses := true, loops := true, apart := false }
def SlotsAllSaid : Prop := slotsAllRow.holds Try.pinned (OpenSpec.ofChange slotsAllSpec)

/-- ITS FALSE NEIGHBOUR: 'it returns false'. Refute it at one input. -/
def slotsAllWrong : ChangeSpec := { name := "slotsAll", fn := fun _ => fun
  | [d1, d2, d3, d4] => { results := [.lit (.bool false)], args := [d1, d2, d3, d4] }
  | _ => none }
def SlotsAllWrongFalsely : Prop := slotsAllRow.holds Try.pinned (OpenSpec.ofChange slotsAllWrong)

/-- 'topiarylaw25.SlotsTurned': WHATEVER THE INPUT: true; the input reads as it did. -/
def slotsTurnedSpec : ChangeSpec := { name := "slotsTurned", fn := fun _ => fun
  | [d1, d2] => { results := [.lit (.bool true)], args := [d1, d2] }
  | _ => none }
def slotsTurnedRow : OpenClaim := { program := "yteohbfaechfliaa", sum := "cf284ba84c423a9dfa07c8ebe75b22e7b80edc8a3d3e677f456c401925e5ea9d", func := "topiary/topiarylaw25.SlotsTurned", spec := "slotsTurned", unfollowed := true, recurses := true, apart := false }
def SlotsTurnedSaid : Prop := slotsTurnedRow.holds Try.pinned (OpenSpec.ofChange slotsTurnedSpec)

/-- ITS FALSE NEIGHBOUR: 'it returns false'. Refute it at one input. -/
def slotsTurnedWrong : ChangeSpec := { name := "slotsTurned", fn := fun _ => fun
  | [d1, d2] => { results := [.lit (.bool false)], args := [d1, d2] }
  | _ => none }
def SlotsTurnedWrongFalsely : Prop := slotsTurnedRow.holds Try.pinned (OpenSpec.ofChange slotsTurnedWrong)

/-- 'topiarylaw25.SlotsNone': WHATEVER THE INPUT: true; the input reads as it did. -/
def slotsNoneSpec : ChangeSpec := { name := "slotsNone", fn := fun _ => fun
  | [d] => { results := [.lit (.bool true)], args := [d] }
  | _ => none }
def slotsNoneRow : OpenClaim := { program := "yteohbfaechfliaa", sum := "cf284ba84c423a9dfa07c8ebe75b22e7b80edc8a3d3e677f456c401925e5ea9d", func := "topiary/topiarylaw25.SlotsNone", spec := "slotsNone", unfollowed := true, recurses := true, apart := false }
def SlotsNoneSaid : Prop := slotsNoneRow.holds Try.pinned (OpenSpec.ofChange slotsNoneSpec)

/-- ITS FALSE NEIGHBOUR: 'it returns false'. Refute it at one input. -/
def slotsNoneWrong : ChangeSpec := { name := "slotsNone", fn := fun _ => fun
  | [d] => { results := [.lit (.bool false)], args := [d] }
  | _ => none }
def SlotsNoneWrongFalsely : Prop := slotsNoneRow.holds Try.pinned (OpenSpec.ofChange slotsNoneWrong)

/- THE SECOND FORM. 'bulk': how many values and letters a reading holds, each counted each time it is reached (what is shared counts as often as it is met; a slice's spare places count too). A statement '..UptoSaid' is the law's where the arguments, and the package variables that the reading takes, are together of bulk at most 1048576: NARROWER than '..Said'. Prove '..Said' where nothing that the law and all that it calls make is longer than what came in: it says more and counts as full. Else prove '..UptoSaid'. A law counts once. -/
mutual
def uptoBulk {H : Type} : DataW H → Nat
  | .lit (.string bytes) => bytes.length + 1
  | .lit _ => 1
  | .nil => 1
  | .ptr d => uptoBulk d + 1
  | .slice elems spare => uptoBulkAll elems + uptoBulkAll spare + 1
  | .agg parts => uptoBulkAll parts + 1
  | .iface _ d => uptoBulk d + 1
  | .map entries => uptoBulkEntries entries + 1
  | .held _ => 1
def uptoBulkAll {H : Type} : List (DataW H) → Nat
  | [] => 0
  | d :: r => uptoBulk d + uptoBulkAll r
def uptoBulkEntries {H : Type} : List (Lit × DataW H) → Nat
  | [] => 0
  | x :: r => uptoBulkEntry x + uptoBulkEntries r
def uptoBulkEntry {H : Type} : Lit × DataW H → Nat
  | (.string bytes, d) => bytes.length + uptoBulk d + 1
  | (_, d) => uptoBulk d + 1
 end
def uptoSmall : (H : Type) → List (DataW H) → Bool := fun _ ds => decide (uptoBulkAll ds ≤ 1048576)
def OpenSpec.upto (s : _root_.Go.ChangeSpec) : _root_.Go.OpenSpec := { _root_.Go.OpenSpec.ofChange s with cond := some uptoSmall }

/-- 'topiarylaw25.SlotsAttrs', WHERE WHAT IT READS IS OF BULK AT MOST 1048576: true; the input reads as it did. -/
def slotsAttrsUptoRow : OpenClaim := { program := "yteohbfaechfliaa", sum := "cf284ba84c423a9dfa07c8ebe75b22e7b80edc8a3d3e677f456c401925e5ea9d", func := "topiary/topiarylaw25.SlotsAttrs", spec := "slotsAttrs", unfollowed := true, recurses := true, apart := false, narrowed := true }
def SlotsAttrsUptoSaid : Prop := slotsAttrsUptoRow.holds Try.pinned (OpenSpec.upto slotsAttrsSpec)

/-- 'topiarylaw25.SlotsGone', WHERE WHAT IT READS IS OF BULK AT MOST 1048576: true; the input reads as it did. -/
def slotsGoneUptoRow : OpenClaim := { program := "yteohbfaechfliaa", sum := "cf284ba84c423a9dfa07c8ebe75b22e7b80edc8a3d3e677f456c401925e5ea9d", func := "topiary/topiarylaw25.SlotsGone", spec := "slotsGone", unfollowed := true, recurses := true, apart := false, narrowed := true }
def SlotsGoneUptoSaid : Prop := slotsGoneUptoRow.holds Try.pinned (OpenSpec.upto slotsGoneSpec)

/-- 'topiarylaw25.SlotsAll', WHERE WHAT IT READS IS OF BULK AT MOST 1048576: true; the input reads as it did. -/
def slotsAllUptoRow : OpenClaim := { program := "yteohbfaechfliaa", sum := "cf284ba84c423a9dfa07c8ebe75b22e7b80edc8a3d3e677f456c401925e5ea9d", func := "topiary/topiarylaw25.SlotsAll", spec := "slotsAll", unfollowed := true, recurses := true, loops := true, apart := false, narrowed := true }
def SlotsAllUptoSaid : Prop := slotsAllUptoRow.holds Try.pinned (OpenSpec.upto slotsAllSpec)

/-- 'topiarylaw25.SlotsTurned', WHERE WHAT IT READS IS OF BULK AT MOST 1048576: true; the input reads as it did. -/
def slotsTurnedUptoRow : OpenClaim := { program := "yteohbfaechfliaa", sum := "cf284ba84c423a9dfa07c8ebe75b22e7b80edc8a3d3e677f456c401925e5ea9d", func := "topiary/topiarylaw25.SlotsTurned", spec := "slotsTurned", unfollowed := true, recurses := true, apart := false, narrowed := true }
def SlotsTurnedUptoSaid : Prop := slotsTurnedUptoRow.holds Try.pinned (OpenSpec.upto slotsTurnedSpec)

/-- 'topiarylaw25.SlotsNone', WHERE WHAT IT READS IS OF BULK AT MOST 1048576: true; the input reads as it did. -/
def slotsNoneUptoRow : OpenClaim := { program := "yteohbfaechfliaa", sum := "cf284ba84c423a9dfa07c8ebe75b22e7b80edc8a3d3e677f456c401925e5ea9d", func := "topiary/topiarylaw25.SlotsNone", spec := "slotsNone", unfollowed := true, recurses := true, apart := false, narrowed := true }
def SlotsNoneUptoSaid : Prop := slotsNoneUptoRow.holds Try.pinned (OpenSpec.upto slotsNoneSpec)

end Rows
end Go.Proofs.Yteohbfaechfliaa
