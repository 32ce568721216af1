/-
  DERIVED. GIVEN WITH THE SEED: THE CARDS: each row of YtjohcjkidoalkaaGreatDoorRows.lean that lists a variable, with what it lists TIED to the program's text (the seventh form; the later family's looks); each row that meets fmt, with fmt's text TOLD by the authors' own Lean function (tested against real Go, not proved from fmt's source: count such statements apart). THE CARD IS WHAT COUNTS. Prove the row's statement (the work); the ties are given (YtjohcjkidoalkaaGreatDoorTie.lean); close each card by the builder's one call (the guide's Derived/Test/ToyasCard.lean, 'card_holds'). Laid BY PROGRAM, IN A SANDBOX (cutbox-door.mjs). By AI agents, Wed Nov 11 2026. No macro, syntax, notation, axiom, sorry.
-/
import Derived.Test.YtjohcjkidoalkaaGreatDoorRows
import GoSem.ClaimSeven
namespace Go.Proofs.YtjohcjkidoalkaaGreatDoor
namespace Rows

/-- THE TIED CARD OF 'laws.FnExactReachedTrays'. -/
def fnExactReachedTraysCard : Claim7 := { stood := { row := fnExactReachedTraysRow, standIns := [], harness := (true, "cf7b0e41f916e4a641c3e0a935cb987e17fcc48cb0d7eda7c3c63c26678e2e2e"), looks := false }, kinds := [], alts := [], laidByText := true, laidKinds := [.data, .pinned], laidTests := true, laidLooks := .later }
def FnExactReachedTraysCardSaid : Prop := Claim7.holds Tryz.pinned (.plain (OpenSpec.ofChange fnExactReachedTraysSpec)) fnExactReachedTraysCard

/-- THE TIED CARD OF 'laws.FnExactCountCorner'. -/
def fnExactCountCornerCard : Claim7 := { stood := { row := fnExactCountCornerRow, standIns := [], harness := (true, "cf7b0e41f916e4a641c3e0a935cb987e17fcc48cb0d7eda7c3c63c26678e2e2e"), looks := false }, kinds := [], alts := [], laidByText := true, laidKinds := [.data, .pinned], laidTests := true, laidLooks := .later }
def FnExactCountCornerCardSaid : Prop := Claim7.holds Tryz.pinned (.plain (OpenSpec.ofChange fnExactCountCornerSpec)) fnExactCountCornerCard

/-- THE TIED CARD OF 'laws.FnExactIsReversible'. -/
def fnExactIsReversibleCard : Claim7 := { stood := { row := fnExactIsReversibleRow, standIns := [], harness := (true, "cf7b0e41f916e4a641c3e0a935cb987e17fcc48cb0d7eda7c3c63c26678e2e2e"), looks := false }, kinds := [], alts := [], laidByText := true, laidKinds := [.data, .pinned], laidTests := true, laidLooks := .later }
def FnExactIsReversibleCardSaid : Prop := Claim7.holds Tryz.pinned (.plain (OpenSpec.ofChange fnExactIsReversibleSpec)) fnExactIsReversibleCard

/-- THE TIED CARD OF 'laws.FnExactLastingTrays'. -/
def fnExactLastingTraysCard : Claim7 := { stood := { row := fnExactLastingTraysRow, standIns := [], harness := (true, "cf7b0e41f916e4a641c3e0a935cb987e17fcc48cb0d7eda7c3c63c26678e2e2e"), looks := false }, kinds := [], alts := [], laidByText := true, laidKinds := [.data, .pinned], laidTests := true, laidLooks := .later }
def FnExactLastingTraysCardSaid : Prop := Claim7.holds Tryz.pinned (.plain (OpenSpec.ofChange fnExactLastingTraysSpec)) fnExactLastingTraysCard

/-- THE TIED CARD OF 'laws.FnExactCellsOfBall'. -/
def fnExactCellsOfBallCard : Claim7 := { stood := { row := fnExactCellsOfBallRow, standIns := [], harness := (true, "cf7b0e41f916e4a641c3e0a935cb987e17fcc48cb0d7eda7c3c63c26678e2e2e"), looks := false }, kinds := [], alts := [], laidByText := true, laidKinds := [.data, .pinned], laidTests := true, laidLooks := .later }
def FnExactCellsOfBallCardSaid : Prop := Claim7.holds Tryz.pinned (.plain (OpenSpec.ofChange fnExactCellsOfBallSpec)) fnExactCellsOfBallCard

/-- THE TIED CARD OF 'laws.FnExactAllStill'. -/
def fnExactAllStillCard : Claim7 := { stood := { row := fnExactAllStillRow, standIns := [], harness := (true, "cf7b0e41f916e4a641c3e0a935cb987e17fcc48cb0d7eda7c3c63c26678e2e2e"), looks := false }, kinds := [], alts := [], laidByText := true, laidKinds := [.data, .pinned], laidTests := true, laidLooks := .later }
def FnExactAllStillCardSaid : Prop := Claim7.holds Tryz.pinned (.plain (OpenSpec.ofChange fnExactAllStillSpec)) fnExactAllStillCard

/-- THE TIED CARD OF 'laws.FnExactClassesReached'. -/
def fnExactClassesReachedCard : Claim7 := { stood := { row := fnExactClassesReachedRow, standIns := [], harness := (true, "cf7b0e41f916e4a641c3e0a935cb987e17fcc48cb0d7eda7c3c63c26678e2e2e"), looks := false }, kinds := [], alts := [], laidByText := true, laidKinds := [.data, .pinned], laidTests := true, laidLooks := .later }
def FnExactClassesReachedCardSaid : Prop := Claim7.holds Tryz.pinned (.plain (OpenSpec.ofChange fnExactClassesReachedSpec)) fnExactClassesReachedCard

/-- THE SECOND FORM's CARD OF 'laws.FnExactReachedTrays'. -/
def fnExactReachedTraysUptoCard : Claim7 := { stood := { row := fnExactReachedTraysUptoRow, standIns := [], harness := (true, "cf7b0e41f916e4a641c3e0a935cb987e17fcc48cb0d7eda7c3c63c26678e2e2e"), looks := false }, kinds := [], alts := [], laidByText := true, laidKinds := [.data, .pinned], laidTests := true, laidLooks := .later }
def FnExactReachedTraysUptoCardSaid : Prop := Claim7.holds Tryz.pinned (.plain (OpenSpec.upto fnExactReachedTraysSpec)) fnExactReachedTraysUptoCard

/-- THE SECOND FORM's CARD OF 'laws.FnExactCountCorner'. -/
def fnExactCountCornerUptoCard : Claim7 := { stood := { row := fnExactCountCornerUptoRow, standIns := [], harness := (true, "cf7b0e41f916e4a641c3e0a935cb987e17fcc48cb0d7eda7c3c63c26678e2e2e"), looks := false }, kinds := [], alts := [], laidByText := true, laidKinds := [.data, .pinned], laidTests := true, laidLooks := .later }
def FnExactCountCornerUptoCardSaid : Prop := Claim7.holds Tryz.pinned (.plain (OpenSpec.upto fnExactCountCornerSpec)) fnExactCountCornerUptoCard

/-- THE SECOND FORM's CARD OF 'laws.FnExactIsReversible'. -/
def fnExactIsReversibleUptoCard : Claim7 := { stood := { row := fnExactIsReversibleUptoRow, standIns := [], harness := (true, "cf7b0e41f916e4a641c3e0a935cb987e17fcc48cb0d7eda7c3c63c26678e2e2e"), looks := false }, kinds := [], alts := [], laidByText := true, laidKinds := [.data, .pinned], laidTests := true, laidLooks := .later }
def FnExactIsReversibleUptoCardSaid : Prop := Claim7.holds Tryz.pinned (.plain (OpenSpec.upto fnExactIsReversibleSpec)) fnExactIsReversibleUptoCard

/-- THE SECOND FORM's CARD OF 'laws.FnExactLastingTrays'. -/
def fnExactLastingTraysUptoCard : Claim7 := { stood := { row := fnExactLastingTraysUptoRow, standIns := [], harness := (true, "cf7b0e41f916e4a641c3e0a935cb987e17fcc48cb0d7eda7c3c63c26678e2e2e"), looks := false }, kinds := [], alts := [], laidByText := true, laidKinds := [.data, .pinned], laidTests := true, laidLooks := .later }
def FnExactLastingTraysUptoCardSaid : Prop := Claim7.holds Tryz.pinned (.plain (OpenSpec.upto fnExactLastingTraysSpec)) fnExactLastingTraysUptoCard

/-- THE SECOND FORM's CARD OF 'laws.FnExactCellsOfBall'. -/
def fnExactCellsOfBallUptoCard : Claim7 := { stood := { row := fnExactCellsOfBallUptoRow, standIns := [], harness := (true, "cf7b0e41f916e4a641c3e0a935cb987e17fcc48cb0d7eda7c3c63c26678e2e2e"), looks := false }, kinds := [], alts := [], laidByText := true, laidKinds := [.data, .pinned], laidTests := true, laidLooks := .later }
def FnExactCellsOfBallUptoCardSaid : Prop := Claim7.holds Tryz.pinned (.plain (OpenSpec.upto fnExactCellsOfBallSpec)) fnExactCellsOfBallUptoCard

/-- THE SECOND FORM's CARD OF 'laws.FnExactAllStill'. -/
def fnExactAllStillUptoCard : Claim7 := { stood := { row := fnExactAllStillUptoRow, standIns := [], harness := (true, "cf7b0e41f916e4a641c3e0a935cb987e17fcc48cb0d7eda7c3c63c26678e2e2e"), looks := false }, kinds := [], alts := [], laidByText := true, laidKinds := [.data, .pinned], laidTests := true, laidLooks := .later }
def FnExactAllStillUptoCardSaid : Prop := Claim7.holds Tryz.pinned (.plain (OpenSpec.upto fnExactAllStillSpec)) fnExactAllStillUptoCard

/-- THE SECOND FORM's CARD OF 'laws.FnExactClassesReached'. -/
def fnExactClassesReachedUptoCard : Claim7 := { stood := { row := fnExactClassesReachedUptoRow, standIns := [], harness := (true, "cf7b0e41f916e4a641c3e0a935cb987e17fcc48cb0d7eda7c3c63c26678e2e2e"), looks := false }, kinds := [], alts := [], laidByText := true, laidKinds := [.data, .pinned], laidTests := true, laidLooks := .later }
def FnExactClassesReachedUptoCardSaid : Prop := Claim7.holds Tryz.pinned (.plain (OpenSpec.upto fnExactClassesReachedSpec)) fnExactClassesReachedUptoCard
end Rows
end Go.Proofs.YtjohcjkidoalkaaGreatDoor
