/-
  DERIVED. GIVEN WITH THE SEED: THE CARDS: each row of YtaopopnlnohnpaaDoorRows.lean that lists a variable, with what it lists TIED to the program's text (the seventh form; the later family's looks); each row that meets fmt, with fmt's text TOLD by the authors' own Lean function (tested against real Go, not proved from fmt's source: count such statements apart). THE CARD IS WHAT COUNTS. Prove the row's statement (the work); the ties are given (YtaopopnlnohnpaaDoorTie.lean); close each card by the builder's one call (the guide's Derived/Test/ToyasCard.lean, 'card_holds'). Laid BY PROGRAM, IN A SANDBOX (cutbox-door.mjs). By AI agents, Wed Nov 11 2026. No macro, syntax, notation, axiom, sorry.
-/
import Derived.Test.YtaopopnlnohnpaaDoorRows
import GoSem.ClaimSeven
namespace Go.Proofs.YtaopopnlnohnpaaDoor
namespace Rows

/-- THE TIED CARD OF 'broadsheetlaw21.ResponseBack'. -/
def responseBackCard : Claim7 := { stood := { row := responseBackRow, standIns := [], harness := (true, "fd46c68f91bc4566fb938542b938e4b0a76a2278c099debf3e56074c5638ca6c"), looks := true }, kinds := [], alts := [], laidByText := true, laidKinds := [.data, .data, .data, .data, .sentinel, .sentinel, .pinned], laidTests := true, laidLooks := .later }
def ResponseBackCardSaid : Prop := Claim7.holds Tryd.pinned (.plain (OpenSpec.ofChange responseBackSpec)) responseBackCard

/-- THE TIED CARD OF 'broadsheetlaw21.ResponseAgain'. -/
def responseAgainCard : Claim7 := { stood := { row := responseAgainRow, standIns := [], harness := (true, "fd46c68f91bc4566fb938542b938e4b0a76a2278c099debf3e56074c5638ca6c"), looks := true }, kinds := [], alts := [], laidByText := true, laidKinds := [.data, .data, .data, .data, .sentinel, .sentinel, .pinned], laidTests := true, laidLooks := .later }
def ResponseAgainCardSaid : Prop := Claim7.holds Tryd.pinned (.plain (OpenSpec.ofChange responseAgainSpec)) responseAgainCard

/-- THE SECOND FORM's CARD OF 'broadsheetlaw21.ResponseBack'. -/
def responseBackUptoCard : Claim7 := { stood := { row := responseBackUptoRow, standIns := [], harness := (true, "fd46c68f91bc4566fb938542b938e4b0a76a2278c099debf3e56074c5638ca6c"), looks := true }, kinds := [], alts := [], laidByText := true, laidKinds := [.data, .data, .data, .data, .sentinel, .sentinel, .pinned], laidTests := true, laidLooks := .later }
def ResponseBackUptoCardSaid : Prop := Claim7.holds Tryd.pinned (.plain (OpenSpec.upto responseBackSpec)) responseBackUptoCard

/-- THE SECOND FORM's CARD OF 'broadsheetlaw21.ResponseAgain'. -/
def responseAgainUptoCard : Claim7 := { stood := { row := responseAgainUptoRow, standIns := [], harness := (true, "fd46c68f91bc4566fb938542b938e4b0a76a2278c099debf3e56074c5638ca6c"), looks := true }, kinds := [], alts := [], laidByText := true, laidKinds := [.data, .data, .data, .data, .sentinel, .sentinel, .pinned], laidTests := true, laidLooks := .later }
def ResponseAgainUptoCardSaid : Prop := Claim7.holds Tryd.pinned (.plain (OpenSpec.upto responseAgainSpec)) responseAgainUptoCard
end Rows
end Go.Proofs.YtaopopnlnohnpaaDoor
