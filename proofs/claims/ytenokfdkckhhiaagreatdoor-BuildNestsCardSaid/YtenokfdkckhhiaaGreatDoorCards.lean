/-
  DERIVED. GIVEN WITH THE SEED: THE CARDS: each row of YtenokfdkckhhiaaGreatDoorRows.lean that lists a variable, with what it lists TIED to the program's text (the seventh form; the later family's looks); each row that meets fmt, with fmt's text TOLD by the authors' own Lean function (tested against real Go, not proved from fmt's source: count such statements apart). THE CARD IS WHAT COUNTS. Prove the row's statement (the work); the ties are given (YtenokfdkckhhiaaGreatDoorTie.lean); close each card by the builder's one call (the guide's Derived/Test/ToyasCard.lean, 'card_holds'). Laid BY PROGRAM, IN A SANDBOX (cutbox-door.mjs). By AI agents, Wed Nov 11 2026. No macro, syntax, notation, axiom, sorry.
-/
import Derived.Test.YtenokfdkckhhiaaGreatDoorRows
import GoSem.ClaimSeven
namespace Go.Proofs.YtenokfdkckhhiaaGreatDoor
namespace Rows

/-- THE TIED CARD OF 'topiarylaw14.BuildFrames'. -/
def buildFramesCard : Claim7 := { stood := { row := buildFramesRow, standIns := [], harness := (true, "2411076c44e4b2aaa645f52493c229e9a6fe1ee2ff34eba0902f6c6a6260b388"), looks := false }, kinds := [], alts := [], laidByText := true, laidKinds := [.data, .data, .data, .listed, .data], laidTests := true, laidLooks := .later }
def BuildFramesCardSaid : Prop := Claim7.holds Tryz.pinned (.plain (OpenSpec.ofChange buildFramesSpec)) buildFramesCard

/-- THE TIED CARD OF 'topiarylaw14.BuildParagraphs'. -/
def buildParagraphsCard : Claim7 := { stood := { row := buildParagraphsRow, standIns := [], harness := (true, "2411076c44e4b2aaa645f52493c229e9a6fe1ee2ff34eba0902f6c6a6260b388"), looks := false }, kinds := [], alts := [], laidByText := true, laidKinds := [.data, .data, .data, .listed, .data], laidTests := true, laidLooks := .later }
def BuildParagraphsCardSaid : Prop := Claim7.holds Tryz.pinned (.plain (OpenSpec.ofChange buildParagraphsSpec)) buildParagraphsCard

/-- THE TIED CARD OF 'topiarylaw14.BuildFosters'. -/
def buildFostersCard : Claim7 := { stood := { row := buildFostersRow, standIns := [], harness := (true, "2411076c44e4b2aaa645f52493c229e9a6fe1ee2ff34eba0902f6c6a6260b388"), looks := false }, kinds := [], alts := [], laidByText := true, laidKinds := [.data, .data, .data, .listed, .data], laidTests := true, laidLooks := .later }
def BuildFostersCardSaid : Prop := Claim7.holds Tryz.pinned (.plain (OpenSpec.ofChange buildFostersSpec)) buildFostersCard

/-- THE TIED CARD OF 'topiarylaw14.BuildNests'. -/
def buildNestsCard : Claim7 := { stood := { row := buildNestsRow, standIns := [], harness := (true, "2411076c44e4b2aaa645f52493c229e9a6fe1ee2ff34eba0902f6c6a6260b388"), looks := false }, kinds := [], alts := [], laidByText := true, laidKinds := [.data, .data, .data, .listed, .data], laidTests := true, laidLooks := .later }
def BuildNestsCardSaid : Prop := Claim7.holds Tryz.pinned (.plain (OpenSpec.ofChange buildNestsSpec)) buildNestsCard

/-- THE TIED CARD OF 'topiarylaw14.BuildVoids'. -/
def buildVoidsCard : Claim7 := { stood := { row := buildVoidsRow, standIns := [], harness := (true, "2411076c44e4b2aaa645f52493c229e9a6fe1ee2ff34eba0902f6c6a6260b388"), looks := false }, kinds := [], alts := [], laidByText := true, laidKinds := [.data, .data, .data, .listed, .data], laidTests := true, laidLooks := .later }
def BuildVoidsCardSaid : Prop := Claim7.holds Tryz.pinned (.plain (OpenSpec.ofChange buildVoidsSpec)) buildVoidsCard

/-- THE TIED CARD OF 'topiarylaw14.BuildHeadings'. -/
def buildHeadingsCard : Claim7 := { stood := { row := buildHeadingsRow, standIns := [], harness := (true, "2411076c44e4b2aaa645f52493c229e9a6fe1ee2ff34eba0902f6c6a6260b388"), looks := false }, kinds := [], alts := [], laidByText := true, laidKinds := [.data, .data, .data, .listed, .data], laidTests := true, laidLooks := .later }
def BuildHeadingsCardSaid : Prop := Claim7.holds Tryz.pinned (.plain (OpenSpec.ofChange buildHeadingsSpec)) buildHeadingsCard

/-- THE SECOND FORM's CARD OF 'topiarylaw14.BuildFrames'. -/
def buildFramesUptoCard : Claim7 := { stood := { row := buildFramesUptoRow, standIns := [], harness := (true, "2411076c44e4b2aaa645f52493c229e9a6fe1ee2ff34eba0902f6c6a6260b388"), looks := false }, kinds := [], alts := [], laidByText := true, laidKinds := [.data, .data, .data, .listed, .data], laidTests := true, laidLooks := .later }
def BuildFramesUptoCardSaid : Prop := Claim7.holds Tryz.pinned (.plain (OpenSpec.upto buildFramesSpec)) buildFramesUptoCard

/-- THE SECOND FORM's CARD OF 'topiarylaw14.BuildParagraphs'. -/
def buildParagraphsUptoCard : Claim7 := { stood := { row := buildParagraphsUptoRow, standIns := [], harness := (true, "2411076c44e4b2aaa645f52493c229e9a6fe1ee2ff34eba0902f6c6a6260b388"), looks := false }, kinds := [], alts := [], laidByText := true, laidKinds := [.data, .data, .data, .listed, .data], laidTests := true, laidLooks := .later }
def BuildParagraphsUptoCardSaid : Prop := Claim7.holds Tryz.pinned (.plain (OpenSpec.upto buildParagraphsSpec)) buildParagraphsUptoCard

/-- THE SECOND FORM's CARD OF 'topiarylaw14.BuildFosters'. -/
def buildFostersUptoCard : Claim7 := { stood := { row := buildFostersUptoRow, standIns := [], harness := (true, "2411076c44e4b2aaa645f52493c229e9a6fe1ee2ff34eba0902f6c6a6260b388"), looks := false }, kinds := [], alts := [], laidByText := true, laidKinds := [.data, .data, .data, .listed, .data], laidTests := true, laidLooks := .later }
def BuildFostersUptoCardSaid : Prop := Claim7.holds Tryz.pinned (.plain (OpenSpec.upto buildFostersSpec)) buildFostersUptoCard

/-- THE SECOND FORM's CARD OF 'topiarylaw14.BuildNests'. -/
def buildNestsUptoCard : Claim7 := { stood := { row := buildNestsUptoRow, standIns := [], harness := (true, "2411076c44e4b2aaa645f52493c229e9a6fe1ee2ff34eba0902f6c6a6260b388"), looks := false }, kinds := [], alts := [], laidByText := true, laidKinds := [.data, .data, .data, .listed, .data], laidTests := true, laidLooks := .later }
def BuildNestsUptoCardSaid : Prop := Claim7.holds Tryz.pinned (.plain (OpenSpec.upto buildNestsSpec)) buildNestsUptoCard

/-- THE SECOND FORM's CARD OF 'topiarylaw14.BuildVoids'. -/
def buildVoidsUptoCard : Claim7 := { stood := { row := buildVoidsUptoRow, standIns := [], harness := (true, "2411076c44e4b2aaa645f52493c229e9a6fe1ee2ff34eba0902f6c6a6260b388"), looks := false }, kinds := [], alts := [], laidByText := true, laidKinds := [.data, .data, .data, .listed, .data], laidTests := true, laidLooks := .later }
def BuildVoidsUptoCardSaid : Prop := Claim7.holds Tryz.pinned (.plain (OpenSpec.upto buildVoidsSpec)) buildVoidsUptoCard

/-- THE SECOND FORM's CARD OF 'topiarylaw14.BuildHeadings'. -/
def buildHeadingsUptoCard : Claim7 := { stood := { row := buildHeadingsUptoRow, standIns := [], harness := (true, "2411076c44e4b2aaa645f52493c229e9a6fe1ee2ff34eba0902f6c6a6260b388"), looks := false }, kinds := [], alts := [], laidByText := true, laidKinds := [.data, .data, .data, .listed, .data], laidTests := true, laidLooks := .later }
def BuildHeadingsUptoCardSaid : Prop := Claim7.holds Tryz.pinned (.plain (OpenSpec.upto buildHeadingsSpec)) buildHeadingsUptoCard
end Rows
end Go.Proofs.YtenokfdkckhhiaaGreatDoor
