/-
  DERIVED. GIVEN WITH THE SEED: THE CARDS: each row of YtnmpenfpajfoaaaDoorRows.lean that lists a variable, with what it lists TIED to the program's text (the seventh form; the later family's looks); each row that meets fmt, with fmt's text TOLD by the authors' own Lean function (tested against real Go, not proved from fmt's source: count such statements apart). THE CARD IS WHAT COUNTS. Prove the row's statement (the work); the ties are given (YtnmpenfpajfoaaaDoorTie.lean); close each card by the builder's one call (the guide's Derived/Test/ToyasCard.lean, 'card_holds'). Laid BY PROGRAM, IN A SANDBOX (cutbox-door.mjs). By AI agents, Wed Nov 11 2026. No macro, syntax, notation, axiom, sorry.
-/
import Derived.Test.YtnmpenfpajfoaaaDoorRows
import GoSem.ClaimSeven
namespace Go.Proofs.YtnmpenfpajfoaaaDoor
namespace Rows

/-- THE TIED CARD OF 'topiarylaw12.StackSorts'. -/
def stackSortsCard : Claim7 := { stood := { row := stackSortsRow, standIns := [], harness := (true, "45712f744b3bc84154d46459a39d7d0972ad3856a5725196a5cc3b5f5bd8ed5f"), looks := false }, kinds := [], alts := [], laidByText := true, laidKinds := [.listed, .data], laidTests := true, laidLooks := .later }
def StackSortsCardSaid : Prop := Claim7.holds Tryd.pinned (.plain (OpenSpec.ofChange stackSortsSpec)) stackSortsCard

/-- THE TIED CARD OF 'topiarylaw12.StackScopes'. -/
def stackScopesCard : Claim7 := { stood := { row := stackScopesRow, standIns := [], harness := (true, "45712f744b3bc84154d46459a39d7d0972ad3856a5725196a5cc3b5f5bd8ed5f"), looks := false }, kinds := [], alts := [], laidByText := true, laidKinds := [.listed, .data], laidTests := true, laidLooks := .later }
def StackScopesCardSaid : Prop := Claim7.holds Tryd.pinned (.plain (OpenSpec.ofChange stackScopesSpec)) stackScopesCard

/-- THE TIED CARD OF 'topiarylaw12.StackBorders'. -/
def stackBordersCard : Claim7 := { stood := { row := stackBordersRow, standIns := [], harness := (true, "45712f744b3bc84154d46459a39d7d0972ad3856a5725196a5cc3b5f5bd8ed5f"), looks := false }, kinds := [], alts := [], laidByText := true, laidKinds := [.listed, .data], laidTests := true, laidLooks := .later }
def StackBordersCardSaid : Prop := Claim7.holds Tryd.pinned (.plain (OpenSpec.ofChange stackBordersSpec)) stackBordersCard

/-- THE TIED CARD OF 'topiarylaw12.StackAll'. -/
def stackAllCard : Claim7 := { stood := { row := stackAllRow, standIns := [], harness := (true, "45712f744b3bc84154d46459a39d7d0972ad3856a5725196a5cc3b5f5bd8ed5f"), looks := false }, kinds := [], alts := [], laidByText := true, laidKinds := [.listed, .data], laidTests := true, laidLooks := .later }
def StackAllCardSaid : Prop := Claim7.holds Tryd.pinned (.plain (OpenSpec.ofChange stackAllSpec)) stackAllCard

/-- THE TIED CARD OF 'topiarylaw12.StackCounts'. -/
def stackCountsCard : Claim7 := { stood := { row := stackCountsRow, standIns := [], harness := (true, "45712f744b3bc84154d46459a39d7d0972ad3856a5725196a5cc3b5f5bd8ed5f"), looks := false }, kinds := [], alts := [], laidByText := true, laidKinds := [.listed, .data], laidTests := true, laidLooks := .later }
def StackCountsCardSaid : Prop := Claim7.holds Tryd.pinned (.plain (OpenSpec.ofChange stackCountsSpec)) stackCountsCard

/-- THE SECOND FORM's CARD OF 'topiarylaw12.StackSorts'. -/
def stackSortsUptoCard : Claim7 := { stood := { row := stackSortsUptoRow, standIns := [], harness := (true, "45712f744b3bc84154d46459a39d7d0972ad3856a5725196a5cc3b5f5bd8ed5f"), looks := false }, kinds := [], alts := [], laidByText := true, laidKinds := [.listed, .data], laidTests := true, laidLooks := .later }
def StackSortsUptoCardSaid : Prop := Claim7.holds Tryd.pinned (.plain (OpenSpec.upto stackSortsSpec)) stackSortsUptoCard

/-- THE SECOND FORM's CARD OF 'topiarylaw12.StackScopes'. -/
def stackScopesUptoCard : Claim7 := { stood := { row := stackScopesUptoRow, standIns := [], harness := (true, "45712f744b3bc84154d46459a39d7d0972ad3856a5725196a5cc3b5f5bd8ed5f"), looks := false }, kinds := [], alts := [], laidByText := true, laidKinds := [.listed, .data], laidTests := true, laidLooks := .later }
def StackScopesUptoCardSaid : Prop := Claim7.holds Tryd.pinned (.plain (OpenSpec.upto stackScopesSpec)) stackScopesUptoCard

/-- THE SECOND FORM's CARD OF 'topiarylaw12.StackBorders'. -/
def stackBordersUptoCard : Claim7 := { stood := { row := stackBordersUptoRow, standIns := [], harness := (true, "45712f744b3bc84154d46459a39d7d0972ad3856a5725196a5cc3b5f5bd8ed5f"), looks := false }, kinds := [], alts := [], laidByText := true, laidKinds := [.listed, .data], laidTests := true, laidLooks := .later }
def StackBordersUptoCardSaid : Prop := Claim7.holds Tryd.pinned (.plain (OpenSpec.upto stackBordersSpec)) stackBordersUptoCard

/-- THE SECOND FORM's CARD OF 'topiarylaw12.StackAll'. -/
def stackAllUptoCard : Claim7 := { stood := { row := stackAllUptoRow, standIns := [], harness := (true, "45712f744b3bc84154d46459a39d7d0972ad3856a5725196a5cc3b5f5bd8ed5f"), looks := false }, kinds := [], alts := [], laidByText := true, laidKinds := [.listed, .data], laidTests := true, laidLooks := .later }
def StackAllUptoCardSaid : Prop := Claim7.holds Tryd.pinned (.plain (OpenSpec.upto stackAllSpec)) stackAllUptoCard

/-- THE SECOND FORM's CARD OF 'topiarylaw12.StackCounts'. -/
def stackCountsUptoCard : Claim7 := { stood := { row := stackCountsUptoRow, standIns := [], harness := (true, "45712f744b3bc84154d46459a39d7d0972ad3856a5725196a5cc3b5f5bd8ed5f"), looks := false }, kinds := [], alts := [], laidByText := true, laidKinds := [.listed, .data], laidTests := true, laidLooks := .later }
def StackCountsUptoCardSaid : Prop := Claim7.holds Tryd.pinned (.plain (OpenSpec.upto stackCountsSpec)) stackCountsUptoCard
end Rows
end Go.Proofs.YtnmpenfpajfoaaaDoor
