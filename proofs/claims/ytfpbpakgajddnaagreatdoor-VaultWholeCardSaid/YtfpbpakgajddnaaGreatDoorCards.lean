/-
  DERIVED. GIVEN WITH THE SEED: THE CARDS: each row of YtfpbpakgajddnaaGreatDoorRows.lean that lists a variable, with what it lists TIED to the program's text (the seventh form; the later family's looks); each row that meets fmt, with fmt's text TOLD by the authors' own Lean function (tested against real Go, not proved from fmt's source: count such statements apart). THE CARD IS WHAT COUNTS. Prove the row's statement (the work); the ties are given (YtfpbpakgajddnaaGreatDoorTie.lean); close each card by the builder's one call (the guide's Derived/Test/ToyasCard.lean, 'card_holds'). Laid BY PROGRAM, IN A SANDBOX (cutbox-door.mjs). By AI agents, Wed Nov 11 2026. No macro, syntax, notation, axiom, sorry.
-/
import Derived.Test.YtfpbpakgajddnaaGreatDoorRows
import GoSem.ClaimSeven
namespace Go.Proofs.YtfpbpakgajddnaaGreatDoor
namespace Rows

/-- THE TIED CARD OF 'broadsheetlaw04.VaultOdd'. -/
def vaultOddCard : Claim7 := { stood := { row := vaultOddRow, standIns := [], harness := (true, "3beffe8413e5fc78da8a1ccc6eea4074989eea7b96e2b2e648f0bf2e73825eb7"), looks := true }, kinds := [], alts := [], laidByText := true, laidKinds := [.data, .data, .data, .data, .sentinel, .sentinel, .pinned], laidTests := true, laidLooks := .later }
def VaultOddCardSaid : Prop := Claim7.holds Tryz.pinned (.plain (OpenSpec.ofChange vaultOddSpec)) vaultOddCard

/-- THE TIED CARD OF 'broadsheetlaw04.VaultPlays'. -/
def vaultPlaysCard : Claim7 := { stood := { row := vaultPlaysRow, standIns := [], harness := (true, "3beffe8413e5fc78da8a1ccc6eea4074989eea7b96e2b2e648f0bf2e73825eb7"), looks := true }, kinds := [], alts := [], laidByText := true, laidKinds := [.data, .data, .data, .data, .sentinel, .sentinel, .pinned], laidTests := true, laidLooks := .later }
def VaultPlaysCardSaid : Prop := Claim7.holds Tryz.pinned (.plain (OpenSpec.ofChange vaultPlaysSpec)) vaultPlaysCard

/-- THE TIED CARD OF 'broadsheetlaw04.VaultSmall'. -/
def vaultSmallCard : Claim7 := { stood := { row := vaultSmallRow, standIns := [], harness := (true, "3beffe8413e5fc78da8a1ccc6eea4074989eea7b96e2b2e648f0bf2e73825eb7"), looks := true }, kinds := [], alts := [], laidByText := true, laidKinds := [.data, .data, .data, .data, .sentinel, .sentinel, .pinned], laidTests := true, laidLooks := .later }
def VaultSmallCardSaid : Prop := Claim7.holds Tryz.pinned (.plain (OpenSpec.ofChange vaultSmallSpec)) vaultSmallCard

/-- THE TIED CARD OF 'broadsheetlaw04.VaultWhole'. -/
def vaultWholeCard : Claim7 := { stood := { row := vaultWholeRow, standIns := [], harness := (true, "3beffe8413e5fc78da8a1ccc6eea4074989eea7b96e2b2e648f0bf2e73825eb7"), looks := true }, kinds := [], alts := [], laidByText := true, laidKinds := [.data, .data, .data, .data, .sentinel, .sentinel, .pinned], laidTests := true, laidLooks := .later }
def VaultWholeCardSaid : Prop := Claim7.holds Tryz.pinned (.plain (OpenSpec.ofChange vaultWholeSpec)) vaultWholeCard

/-- THE TIED CARD OF 'broadsheetlaw04.VaultAgain'. -/
def vaultAgainCard : Claim7 := { stood := { row := vaultAgainRow, standIns := [], harness := (true, "3beffe8413e5fc78da8a1ccc6eea4074989eea7b96e2b2e648f0bf2e73825eb7"), looks := true }, kinds := [], alts := [], laidByText := true, laidKinds := [.data, .data, .data, .data, .sentinel, .sentinel, .pinned], laidTests := true, laidLooks := .later }
def VaultAgainCardSaid : Prop := Claim7.holds Tryz.pinned (.plain (OpenSpec.ofChange vaultAgainSpec)) vaultAgainCard

/-- THE SECOND FORM's CARD OF 'broadsheetlaw04.VaultOdd'. -/
def vaultOddUptoCard : Claim7 := { stood := { row := vaultOddUptoRow, standIns := [], harness := (true, "3beffe8413e5fc78da8a1ccc6eea4074989eea7b96e2b2e648f0bf2e73825eb7"), looks := true }, kinds := [], alts := [], laidByText := true, laidKinds := [.data, .data, .data, .data, .sentinel, .sentinel, .pinned], laidTests := true, laidLooks := .later }
def VaultOddUptoCardSaid : Prop := Claim7.holds Tryz.pinned (.plain (OpenSpec.upto vaultOddSpec)) vaultOddUptoCard

/-- THE SECOND FORM's CARD OF 'broadsheetlaw04.VaultPlays'. -/
def vaultPlaysUptoCard : Claim7 := { stood := { row := vaultPlaysUptoRow, standIns := [], harness := (true, "3beffe8413e5fc78da8a1ccc6eea4074989eea7b96e2b2e648f0bf2e73825eb7"), looks := true }, kinds := [], alts := [], laidByText := true, laidKinds := [.data, .data, .data, .data, .sentinel, .sentinel, .pinned], laidTests := true, laidLooks := .later }
def VaultPlaysUptoCardSaid : Prop := Claim7.holds Tryz.pinned (.plain (OpenSpec.upto vaultPlaysSpec)) vaultPlaysUptoCard

/-- THE SECOND FORM's CARD OF 'broadsheetlaw04.VaultSmall'. -/
def vaultSmallUptoCard : Claim7 := { stood := { row := vaultSmallUptoRow, standIns := [], harness := (true, "3beffe8413e5fc78da8a1ccc6eea4074989eea7b96e2b2e648f0bf2e73825eb7"), looks := true }, kinds := [], alts := [], laidByText := true, laidKinds := [.data, .data, .data, .data, .sentinel, .sentinel, .pinned], laidTests := true, laidLooks := .later }
def VaultSmallUptoCardSaid : Prop := Claim7.holds Tryz.pinned (.plain (OpenSpec.upto vaultSmallSpec)) vaultSmallUptoCard

/-- THE SECOND FORM's CARD OF 'broadsheetlaw04.VaultWhole'. -/
def vaultWholeUptoCard : Claim7 := { stood := { row := vaultWholeUptoRow, standIns := [], harness := (true, "3beffe8413e5fc78da8a1ccc6eea4074989eea7b96e2b2e648f0bf2e73825eb7"), looks := true }, kinds := [], alts := [], laidByText := true, laidKinds := [.data, .data, .data, .data, .sentinel, .sentinel, .pinned], laidTests := true, laidLooks := .later }
def VaultWholeUptoCardSaid : Prop := Claim7.holds Tryz.pinned (.plain (OpenSpec.upto vaultWholeSpec)) vaultWholeUptoCard

/-- THE SECOND FORM's CARD OF 'broadsheetlaw04.VaultAgain'. -/
def vaultAgainUptoCard : Claim7 := { stood := { row := vaultAgainUptoRow, standIns := [], harness := (true, "3beffe8413e5fc78da8a1ccc6eea4074989eea7b96e2b2e648f0bf2e73825eb7"), looks := true }, kinds := [], alts := [], laidByText := true, laidKinds := [.data, .data, .data, .data, .sentinel, .sentinel, .pinned], laidTests := true, laidLooks := .later }
def VaultAgainUptoCardSaid : Prop := Claim7.holds Tryz.pinned (.plain (OpenSpec.upto vaultAgainSpec)) vaultAgainUptoCard
end Rows
end Go.Proofs.YtfpbpakgajddnaaGreatDoor
