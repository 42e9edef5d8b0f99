/-
  DERIVED. GIVEN WITH THE SEED: THE CARDS: each row of YtcploacnonngaaaDoorRows.lean that lists a variable, with what it lists TIED to the program's text (the seventh form; the later family's looks); each row that meets fmt, with fmt's text TOLD by the authors' own Lean function (tested against real Go, not proved from fmt's source: count such statements apart). THE CARD IS WHAT COUNTS. Prove the row's statement (the work); the ties are given (YtcploacnonngaaaDoorTie.lean); close each card by the builder's one call (the guide's Derived/Test/ToyasCard.lean, 'card_holds'). Laid BY PROGRAM, IN A SANDBOX (cutbox-door.mjs). By AI agents, Wed Nov 11 2026. No macro, syntax, notation, axiom, sorry.
-/
import Derived.Test.YtcploacnonngaaaDoorRows
import GoSem.ClaimSeven
namespace Go.Proofs.YtcploacnonngaaaDoor
namespace Rows

/-- THE TIED CARD OF 'topiarylaw13.FormatThree'. -/
def formatThreeCard : Claim7 := { stood := { row := formatThreeRow, standIns := [], harness := (true, "fd19eedf2c76b7a1e41d147537e28c5901178ce9bc75b44fad0b98acbc8cd8b4"), looks := false }, kinds := [], alts := [], laidByText := true, laidKinds := [.data, .data, .data], laidTests := true, laidLooks := .later }
def FormatThreeCardSaid : Prop := Claim7.holds Tryd.pinned (.plain (OpenSpec.ofChange formatThreeSpec)) formatThreeCard

/-- THE TIED CARD OF 'topiarylaw13.FormatClears'. -/
def formatClearsCard : Claim7 := { stood := { row := formatClearsRow, standIns := [], harness := (true, "fd19eedf2c76b7a1e41d147537e28c5901178ce9bc75b44fad0b98acbc8cd8b4"), looks := false }, kinds := [], alts := [], laidByText := true, laidKinds := [.data, .data, .data], laidTests := true, laidLooks := .later }
def FormatClearsCardSaid : Prop := Claim7.holds Tryd.pinned (.plain (OpenSpec.ofChange formatClearsSpec)) formatClearsCard

/-- THE TIED CARD OF 'topiarylaw13.FormatPuts'. -/
def formatPutsCard : Claim7 := { stood := { row := formatPutsRow, standIns := [], harness := (true, "fd19eedf2c76b7a1e41d147537e28c5901178ce9bc75b44fad0b98acbc8cd8b4"), looks := false }, kinds := [], alts := [], laidByText := true, laidKinds := [.data, .data, .data], laidTests := true, laidLooks := .later }
def FormatPutsCardSaid : Prop := Claim7.holds Tryd.pinned (.plain (OpenSpec.ofChange formatPutsSpec)) formatPutsCard

/-- THE SECOND FORM's CARD OF 'topiarylaw13.FormatThree'. -/
def formatThreeUptoCard : Claim7 := { stood := { row := formatThreeUptoRow, standIns := [], harness := (true, "fd19eedf2c76b7a1e41d147537e28c5901178ce9bc75b44fad0b98acbc8cd8b4"), looks := false }, kinds := [], alts := [], laidByText := true, laidKinds := [.data, .data, .data], laidTests := true, laidLooks := .later }
def FormatThreeUptoCardSaid : Prop := Claim7.holds Tryd.pinned (.plain (OpenSpec.upto formatThreeSpec)) formatThreeUptoCard

/-- THE SECOND FORM's CARD OF 'topiarylaw13.FormatClears'. -/
def formatClearsUptoCard : Claim7 := { stood := { row := formatClearsUptoRow, standIns := [], harness := (true, "fd19eedf2c76b7a1e41d147537e28c5901178ce9bc75b44fad0b98acbc8cd8b4"), looks := false }, kinds := [], alts := [], laidByText := true, laidKinds := [.data, .data, .data], laidTests := true, laidLooks := .later }
def FormatClearsUptoCardSaid : Prop := Claim7.holds Tryd.pinned (.plain (OpenSpec.upto formatClearsSpec)) formatClearsUptoCard

/-- THE SECOND FORM's CARD OF 'topiarylaw13.FormatPuts'. -/
def formatPutsUptoCard : Claim7 := { stood := { row := formatPutsUptoRow, standIns := [], harness := (true, "fd19eedf2c76b7a1e41d147537e28c5901178ce9bc75b44fad0b98acbc8cd8b4"), looks := false }, kinds := [], alts := [], laidByText := true, laidKinds := [.data, .data, .data], laidTests := true, laidLooks := .later }
def FormatPutsUptoCardSaid : Prop := Claim7.holds Tryd.pinned (.plain (OpenSpec.upto formatPutsSpec)) formatPutsUptoCard
end Rows
end Go.Proofs.YtcploacnonngaaaDoor
