/-
  DERIVED. GIVEN WITH THE SEED: THE CARDS: each row of YtmmikhhklifjhaaGreatDoorRows.lean that lists a variable, with what it lists TIED to the program's text (the seventh form; the later family's looks); each row that meets fmt, with fmt's text TOLD by the authors' own Lean function (tested against real Go, not proved from fmt's source: count such statements apart). THE CARD IS WHAT COUNTS. Prove the row's statement (the work); the ties are given (YtmmikhhklifjhaaGreatDoorTie.lean); close each card by the builder's one call (the guide's Derived/Test/ToyasCard.lean, 'card_holds'). Laid BY PROGRAM, IN A SANDBOX (cutbox-door.mjs). By AI agents, Wed Nov 11 2026. No macro, syntax, notation, axiom, sorry.
-/
import Derived.Test.YtmmikhhklifjhaaGreatDoorRows
import GoSem.ClaimSeven
namespace Go.Proofs.YtmmikhhklifjhaaGreatDoor
namespace Rows

/-- THE TIED CARD OF 'topiarylaw14.BuildFrames'. -/
def buildFramesCard : Claim7 := { stood := { row := buildFramesRow, standIns := [], harness := (true, "5f594299fb116439829c8443c72d716ea152b1d264b2e2f417b05b503ff19a8b"), looks := false }, kinds := [], alts := [], laidByText := true, laidKinds := [.data, .data, .data, .listed, .data], laidTests := true, laidLooks := .later }
def BuildFramesCardSaid : Prop := Claim7.holds Tryz.pinned (.plain (OpenSpec.ofChange buildFramesSpec)) buildFramesCard

/-- THE TIED CARD OF 'topiarylaw14.BuildParagraphs'. -/
def buildParagraphsCard : Claim7 := { stood := { row := buildParagraphsRow, standIns := [], harness := (true, "5f594299fb116439829c8443c72d716ea152b1d264b2e2f417b05b503ff19a8b"), looks := false }, kinds := [], alts := [], laidByText := true, laidKinds := [.data, .data, .data, .listed, .data], laidTests := true, laidLooks := .later }
def BuildParagraphsCardSaid : Prop := Claim7.holds Tryz.pinned (.plain (OpenSpec.ofChange buildParagraphsSpec)) buildParagraphsCard

/-- THE TIED CARD OF 'topiarylaw14.BuildTables'. -/
def buildTablesCard : Claim7 := { stood := { row := buildTablesRow, standIns := [], harness := (true, "5f594299fb116439829c8443c72d716ea152b1d264b2e2f417b05b503ff19a8b"), looks := false }, kinds := [], alts := [], laidByText := true, laidKinds := [.data, .data, .data, .listed, .data], laidTests := true, laidLooks := .later }
def BuildTablesCardSaid : Prop := Claim7.holds Tryz.pinned (.plain (OpenSpec.ofChange buildTablesSpec)) buildTablesCard

/-- THE TIED CARD OF 'topiarylaw14.BuildFosters'. -/
def buildFostersCard : Claim7 := { stood := { row := buildFostersRow, standIns := [], harness := (true, "5f594299fb116439829c8443c72d716ea152b1d264b2e2f417b05b503ff19a8b"), looks := false }, kinds := [], alts := [], laidByText := true, laidKinds := [.data, .data, .data, .listed, .data], laidTests := true, laidLooks := .later }
def BuildFostersCardSaid : Prop := Claim7.holds Tryz.pinned (.plain (OpenSpec.ofChange buildFostersSpec)) buildFostersCard

/-- THE TIED CARD OF 'topiarylaw14.BuildAdopts'. -/
def buildAdoptsCard : Claim7 := { stood := { row := buildAdoptsRow, standIns := [], harness := (true, "5f594299fb116439829c8443c72d716ea152b1d264b2e2f417b05b503ff19a8b"), looks := false }, kinds := [], alts := [], laidByText := true, laidKinds := [.data, .data, .data, .listed, .data], laidTests := true, laidLooks := .later }
def BuildAdoptsCardSaid : Prop := Claim7.holds Tryz.pinned (.plain (OpenSpec.ofChange buildAdoptsSpec)) buildAdoptsCard

/-- THE TIED CARD OF 'topiarylaw14.BuildLists'. -/
def buildListsCard : Claim7 := { stood := { row := buildListsRow, standIns := [], harness := (true, "5f594299fb116439829c8443c72d716ea152b1d264b2e2f417b05b503ff19a8b"), looks := false }, kinds := [], alts := [], laidByText := true, laidKinds := [.data, .data, .data, .listed, .data], laidTests := true, laidLooks := .later }
def BuildListsCardSaid : Prop := Claim7.holds Tryz.pinned (.plain (OpenSpec.ofChange buildListsSpec)) buildListsCard

/-- THE TIED CARD OF 'topiarylaw14.BuildNests'. -/
def buildNestsCard : Claim7 := { stood := { row := buildNestsRow, standIns := [], harness := (true, "5f594299fb116439829c8443c72d716ea152b1d264b2e2f417b05b503ff19a8b"), looks := false }, kinds := [], alts := [], laidByText := true, laidKinds := [.data, .data, .data, .listed, .data], laidTests := true, laidLooks := .later }
def BuildNestsCardSaid : Prop := Claim7.holds Tryz.pinned (.plain (OpenSpec.ofChange buildNestsSpec)) buildNestsCard

/-- THE TIED CARD OF 'topiarylaw14.BuildVoids'. -/
def buildVoidsCard : Claim7 := { stood := { row := buildVoidsRow, standIns := [], harness := (true, "5f594299fb116439829c8443c72d716ea152b1d264b2e2f417b05b503ff19a8b"), looks := false }, kinds := [], alts := [], laidByText := true, laidKinds := [.data, .data, .data, .listed, .data], laidTests := true, laidLooks := .later }
def BuildVoidsCardSaid : Prop := Claim7.holds Tryz.pinned (.plain (OpenSpec.ofChange buildVoidsSpec)) buildVoidsCard

/-- THE TIED CARD OF 'topiarylaw14.BuildHeadings'. -/
def buildHeadingsCard : Claim7 := { stood := { row := buildHeadingsRow, standIns := [], harness := (true, "5f594299fb116439829c8443c72d716ea152b1d264b2e2f417b05b503ff19a8b"), looks := false }, kinds := [], alts := [], laidByText := true, laidKinds := [.data, .data, .data, .listed, .data], laidTests := true, laidLooks := .later }
def BuildHeadingsCardSaid : Prop := Claim7.holds Tryz.pinned (.plain (OpenSpec.ofChange buildHeadingsSpec)) buildHeadingsCard

/-- THE TIED CARD OF 'topiarylaw14.BuildHeads'. -/
def buildHeadsCard : Claim7 := { stood := { row := buildHeadsRow, standIns := [], harness := (true, "5f594299fb116439829c8443c72d716ea152b1d264b2e2f417b05b503ff19a8b"), looks := false }, kinds := [], alts := [], laidByText := true, laidKinds := [.data, .data, .data, .listed, .data], laidTests := true, laidLooks := .later }
def BuildHeadsCardSaid : Prop := Claim7.holds Tryz.pinned (.plain (OpenSpec.ofChange buildHeadsSpec)) buildHeadsCard

/-- THE TIED CARD OF 'topiarylaw14.BuildButtons'. -/
def buildButtonsCard : Claim7 := { stood := { row := buildButtonsRow, standIns := [], harness := (true, "5f594299fb116439829c8443c72d716ea152b1d264b2e2f417b05b503ff19a8b"), looks := false }, kinds := [], alts := [], laidByText := true, laidKinds := [.data, .data, .data, .listed, .data], laidTests := true, laidLooks := .later }
def BuildButtonsCardSaid : Prop := Claim7.holds Tryz.pinned (.plain (OpenSpec.ofChange buildButtonsSpec)) buildButtonsCard

/-- THE SECOND FORM's CARD OF 'topiarylaw14.BuildFrames'. -/
def buildFramesUptoCard : Claim7 := { stood := { row := buildFramesUptoRow, standIns := [], harness := (true, "5f594299fb116439829c8443c72d716ea152b1d264b2e2f417b05b503ff19a8b"), looks := false }, kinds := [], alts := [], laidByText := true, laidKinds := [.data, .data, .data, .listed, .data], laidTests := true, laidLooks := .later }
def BuildFramesUptoCardSaid : Prop := Claim7.holds Tryz.pinned (.plain (OpenSpec.upto buildFramesSpec)) buildFramesUptoCard

/-- THE SECOND FORM's CARD OF 'topiarylaw14.BuildParagraphs'. -/
def buildParagraphsUptoCard : Claim7 := { stood := { row := buildParagraphsUptoRow, standIns := [], harness := (true, "5f594299fb116439829c8443c72d716ea152b1d264b2e2f417b05b503ff19a8b"), looks := false }, kinds := [], alts := [], laidByText := true, laidKinds := [.data, .data, .data, .listed, .data], laidTests := true, laidLooks := .later }
def BuildParagraphsUptoCardSaid : Prop := Claim7.holds Tryz.pinned (.plain (OpenSpec.upto buildParagraphsSpec)) buildParagraphsUptoCard

/-- THE SECOND FORM's CARD OF 'topiarylaw14.BuildTables'. -/
def buildTablesUptoCard : Claim7 := { stood := { row := buildTablesUptoRow, standIns := [], harness := (true, "5f594299fb116439829c8443c72d716ea152b1d264b2e2f417b05b503ff19a8b"), looks := false }, kinds := [], alts := [], laidByText := true, laidKinds := [.data, .data, .data, .listed, .data], laidTests := true, laidLooks := .later }
def BuildTablesUptoCardSaid : Prop := Claim7.holds Tryz.pinned (.plain (OpenSpec.upto buildTablesSpec)) buildTablesUptoCard

/-- THE SECOND FORM's CARD OF 'topiarylaw14.BuildFosters'. -/
def buildFostersUptoCard : Claim7 := { stood := { row := buildFostersUptoRow, standIns := [], harness := (true, "5f594299fb116439829c8443c72d716ea152b1d264b2e2f417b05b503ff19a8b"), looks := false }, kinds := [], alts := [], laidByText := true, laidKinds := [.data, .data, .data, .listed, .data], laidTests := true, laidLooks := .later }
def BuildFostersUptoCardSaid : Prop := Claim7.holds Tryz.pinned (.plain (OpenSpec.upto buildFostersSpec)) buildFostersUptoCard

/-- THE SECOND FORM's CARD OF 'topiarylaw14.BuildAdopts'. -/
def buildAdoptsUptoCard : Claim7 := { stood := { row := buildAdoptsUptoRow, standIns := [], harness := (true, "5f594299fb116439829c8443c72d716ea152b1d264b2e2f417b05b503ff19a8b"), looks := false }, kinds := [], alts := [], laidByText := true, laidKinds := [.data, .data, .data, .listed, .data], laidTests := true, laidLooks := .later }
def BuildAdoptsUptoCardSaid : Prop := Claim7.holds Tryz.pinned (.plain (OpenSpec.upto buildAdoptsSpec)) buildAdoptsUptoCard

/-- THE SECOND FORM's CARD OF 'topiarylaw14.BuildLists'. -/
def buildListsUptoCard : Claim7 := { stood := { row := buildListsUptoRow, standIns := [], harness := (true, "5f594299fb116439829c8443c72d716ea152b1d264b2e2f417b05b503ff19a8b"), looks := false }, kinds := [], alts := [], laidByText := true, laidKinds := [.data, .data, .data, .listed, .data], laidTests := true, laidLooks := .later }
def BuildListsUptoCardSaid : Prop := Claim7.holds Tryz.pinned (.plain (OpenSpec.upto buildListsSpec)) buildListsUptoCard

/-- THE SECOND FORM's CARD OF 'topiarylaw14.BuildNests'. -/
def buildNestsUptoCard : Claim7 := { stood := { row := buildNestsUptoRow, standIns := [], harness := (true, "5f594299fb116439829c8443c72d716ea152b1d264b2e2f417b05b503ff19a8b"), looks := false }, kinds := [], alts := [], laidByText := true, laidKinds := [.data, .data, .data, .listed, .data], laidTests := true, laidLooks := .later }
def BuildNestsUptoCardSaid : Prop := Claim7.holds Tryz.pinned (.plain (OpenSpec.upto buildNestsSpec)) buildNestsUptoCard

/-- THE SECOND FORM's CARD OF 'topiarylaw14.BuildVoids'. -/
def buildVoidsUptoCard : Claim7 := { stood := { row := buildVoidsUptoRow, standIns := [], harness := (true, "5f594299fb116439829c8443c72d716ea152b1d264b2e2f417b05b503ff19a8b"), looks := false }, kinds := [], alts := [], laidByText := true, laidKinds := [.data, .data, .data, .listed, .data], laidTests := true, laidLooks := .later }
def BuildVoidsUptoCardSaid : Prop := Claim7.holds Tryz.pinned (.plain (OpenSpec.upto buildVoidsSpec)) buildVoidsUptoCard

/-- THE SECOND FORM's CARD OF 'topiarylaw14.BuildHeadings'. -/
def buildHeadingsUptoCard : Claim7 := { stood := { row := buildHeadingsUptoRow, standIns := [], harness := (true, "5f594299fb116439829c8443c72d716ea152b1d264b2e2f417b05b503ff19a8b"), looks := false }, kinds := [], alts := [], laidByText := true, laidKinds := [.data, .data, .data, .listed, .data], laidTests := true, laidLooks := .later }
def BuildHeadingsUptoCardSaid : Prop := Claim7.holds Tryz.pinned (.plain (OpenSpec.upto buildHeadingsSpec)) buildHeadingsUptoCard

/-- THE SECOND FORM's CARD OF 'topiarylaw14.BuildHeads'. -/
def buildHeadsUptoCard : Claim7 := { stood := { row := buildHeadsUptoRow, standIns := [], harness := (true, "5f594299fb116439829c8443c72d716ea152b1d264b2e2f417b05b503ff19a8b"), looks := false }, kinds := [], alts := [], laidByText := true, laidKinds := [.data, .data, .data, .listed, .data], laidTests := true, laidLooks := .later }
def BuildHeadsUptoCardSaid : Prop := Claim7.holds Tryz.pinned (.plain (OpenSpec.upto buildHeadsSpec)) buildHeadsUptoCard

/-- THE SECOND FORM's CARD OF 'topiarylaw14.BuildButtons'. -/
def buildButtonsUptoCard : Claim7 := { stood := { row := buildButtonsUptoRow, standIns := [], harness := (true, "5f594299fb116439829c8443c72d716ea152b1d264b2e2f417b05b503ff19a8b"), looks := false }, kinds := [], alts := [], laidByText := true, laidKinds := [.data, .data, .data, .listed, .data], laidTests := true, laidLooks := .later }
def BuildButtonsUptoCardSaid : Prop := Claim7.holds Tryz.pinned (.plain (OpenSpec.upto buildButtonsSpec)) buildButtonsUptoCard
end Rows
end Go.Proofs.YtmmikhhklifjhaaGreatDoor
