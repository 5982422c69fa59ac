/-
  DERIVED. GIVEN WITH THE SEED: THE CARDS: each row of YtaopopnlnohnpaaGreatDoorRows.lean that lists a variable, with what it lists TIED to the program's text (the seventh form; the later family's looks); each row that meets fmt, with fmt's text TOLD by the authors' own Lean function (tested against real Go, not proved from fmt's source: count such statements apart). THE CARD IS WHAT COUNTS. Prove the row's statement (the work); the ties are given (YtaopopnlnohnpaaGreatDoorTie.lean); close each card by the builder's one call (the guide's Derived/Test/ToyasCard.lean, 'card_holds'). Laid BY PROGRAM, IN A SANDBOX (cutbox-door.mjs). By AI agents, Wed Nov 11 2026. No macro, syntax, notation, axiom, sorry.
-/
import Derived.Test.YtaopopnlnohnpaaGreatDoorRows
import GoSem.ClaimSeven
namespace Go.Proofs.YtaopopnlnohnpaaGreatDoor
namespace Rows

/-- THE TIED CARD OF 'broadsheetlaw21.ResponsePrints'. -/
def responsePrintsCard : Claim7 := { stood := { row := responsePrintsRow, standIns := [], harness := (true, "84fd1c898769570f08dca923e3b8e9574c384df5e7ad627b5aa6bddee508fb9f"), looks := true }, kinds := [], alts := [], laidByText := true, laidKinds := [.data, .data, .data, .data, .sentinel, .sentinel, .pinned], laidTests := true, laidLooks := .later }
def ResponsePrintsCardSaid : Prop := Claim7.holds Tryz.pinned (.plain (OpenSpec.ofChange responsePrintsSpec)) responsePrintsCard

/-- THE TIED CARD OF 'broadsheetlaw21.ResponseAll'. -/
def responseAllCard : Claim7 := { stood := { row := responseAllRow, standIns := [], harness := (true, "84fd1c898769570f08dca923e3b8e9574c384df5e7ad627b5aa6bddee508fb9f"), looks := true }, kinds := [], alts := [], laidByText := true, laidKinds := [.data, .data, .data, .data, .sentinel, .sentinel, .pinned], laidTests := true, laidLooks := .later }
def ResponseAllCardSaid : Prop := Claim7.holds Tryz.pinned (.plain (OpenSpec.ofChange responseAllSpec)) responseAllCard

/-- THE TIED CARD OF 'broadsheetlaw21.ResponseParses'. -/
def responseParsesCard : Claim7 := { stood := { row := responseParsesRow, standIns := [], harness := (true, "84fd1c898769570f08dca923e3b8e9574c384df5e7ad627b5aa6bddee508fb9f"), looks := true }, kinds := [], alts := [], laidByText := true, laidKinds := [.data, .data, .data, .data, .sentinel, .sentinel, .pinned], laidTests := true, laidLooks := .later }
def ResponseParsesCardSaid : Prop := Claim7.holds Tryz.pinned (.plain (OpenSpec.ofChange responseParsesSpec)) responseParsesCard

/-- THE TIED CARD OF 'broadsheetlaw21.ResponseSmall'. -/
def responseSmallCard : Claim7 := { stood := { row := responseSmallRow, standIns := [], harness := (true, "84fd1c898769570f08dca923e3b8e9574c384df5e7ad627b5aa6bddee508fb9f"), looks := true }, kinds := [], alts := [], laidByText := true, laidKinds := [.data, .data, .data, .data, .sentinel, .sentinel, .pinned], laidTests := true, laidLooks := .later }
def ResponseSmallCardSaid : Prop := Claim7.holds Tryz.pinned (.plain (OpenSpec.ofChange responseSmallSpec)) responseSmallCard

/-- THE SECOND FORM's CARD OF 'broadsheetlaw21.ResponsePrints'. -/
def responsePrintsUptoCard : Claim7 := { stood := { row := responsePrintsUptoRow, standIns := [], harness := (true, "84fd1c898769570f08dca923e3b8e9574c384df5e7ad627b5aa6bddee508fb9f"), looks := true }, kinds := [], alts := [], laidByText := true, laidKinds := [.data, .data, .data, .data, .sentinel, .sentinel, .pinned], laidTests := true, laidLooks := .later }
def ResponsePrintsUptoCardSaid : Prop := Claim7.holds Tryz.pinned (.plain (OpenSpec.upto responsePrintsSpec)) responsePrintsUptoCard

/-- THE SECOND FORM's CARD OF 'broadsheetlaw21.ResponseAll'. -/
def responseAllUptoCard : Claim7 := { stood := { row := responseAllUptoRow, standIns := [], harness := (true, "84fd1c898769570f08dca923e3b8e9574c384df5e7ad627b5aa6bddee508fb9f"), looks := true }, kinds := [], alts := [], laidByText := true, laidKinds := [.data, .data, .data, .data, .sentinel, .sentinel, .pinned], laidTests := true, laidLooks := .later }
def ResponseAllUptoCardSaid : Prop := Claim7.holds Tryz.pinned (.plain (OpenSpec.upto responseAllSpec)) responseAllUptoCard

/-- THE SECOND FORM's CARD OF 'broadsheetlaw21.ResponseParses'. -/
def responseParsesUptoCard : Claim7 := { stood := { row := responseParsesUptoRow, standIns := [], harness := (true, "84fd1c898769570f08dca923e3b8e9574c384df5e7ad627b5aa6bddee508fb9f"), looks := true }, kinds := [], alts := [], laidByText := true, laidKinds := [.data, .data, .data, .data, .sentinel, .sentinel, .pinned], laidTests := true, laidLooks := .later }
def ResponseParsesUptoCardSaid : Prop := Claim7.holds Tryz.pinned (.plain (OpenSpec.upto responseParsesSpec)) responseParsesUptoCard

/-- THE SECOND FORM's CARD OF 'broadsheetlaw21.ResponseSmall'. -/
def responseSmallUptoCard : Claim7 := { stood := { row := responseSmallUptoRow, standIns := [], harness := (true, "84fd1c898769570f08dca923e3b8e9574c384df5e7ad627b5aa6bddee508fb9f"), looks := true }, kinds := [], alts := [], laidByText := true, laidKinds := [.data, .data, .data, .data, .sentinel, .sentinel, .pinned], laidTests := true, laidLooks := .later }
def ResponseSmallUptoCardSaid : Prop := Claim7.holds Tryz.pinned (.plain (OpenSpec.upto responseSmallSpec)) responseSmallUptoCard
end Rows
end Go.Proofs.YtaopopnlnohnpaaGreatDoor
