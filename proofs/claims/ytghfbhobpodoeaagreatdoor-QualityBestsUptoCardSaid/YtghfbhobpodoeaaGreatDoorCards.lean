/-
  DERIVED. GIVEN WITH THE SEED: THE CARDS: each row of YtghfbhobpodoeaaGreatDoorRows.lean that lists a variable, with what it lists TIED to the program's text (the seventh form; the later family's looks); each row that meets fmt, with fmt's text TOLD by the authors' own Lean function (tested against real Go, not proved from fmt's source: count such statements apart). THE CARD IS WHAT COUNTS. Prove the row's statement (the work); the ties are given (YtghfbhobpodoeaaGreatDoorTie.lean); close each card by the builder's one call (the guide's Derived/Test/ToyasCard.lean, 'card_holds'). Laid BY PROGRAM, IN A SANDBOX (cutbox-door.mjs). By AI agents, Wed Nov 11 2026. No macro, syntax, notation, axiom, sorry.
-/
import Derived.Test.YtghfbhobpodoeaaGreatDoorRows
import GoSem.ClaimSeven
namespace Go.Proofs.YtghfbhobpodoeaaGreatDoor
namespace Rows

/-- THE TIED CARD OF 'broadsheetlaw14.QualityBests'. -/
def qualityBestsCard : Claim7 := { stood := { row := qualityBestsRow, standIns := [], harness := (true, "1a043d69f490f8a9108015ec3ee15bb6ff57c0492f79ca4521f7c09a9393d9b5"), looks := true }, kinds := [], alts := [], laidByText := true, laidKinds := [.data, .data, .data, .data, .sentinel, .sentinel, .pinned], laidTests := true, laidLooks := .later }
def QualityBestsCardSaid : Prop := Claim7.holds Tryz.pinned (.plain (OpenSpec.ofChange qualityBestsSpec)) qualityBestsCard

/-- THE TIED CARD OF 'broadsheetlaw14.QualitySmall'. -/
def qualitySmallCard : Claim7 := { stood := { row := qualitySmallRow, standIns := [], harness := (true, "1a043d69f490f8a9108015ec3ee15bb6ff57c0492f79ca4521f7c09a9393d9b5"), looks := true }, kinds := [], alts := [], laidByText := true, laidKinds := [.data, .data, .data, .data, .sentinel, .sentinel, .pinned], laidTests := true, laidLooks := .later }
def QualitySmallCardSaid : Prop := Claim7.holds Tryz.pinned (.plain (OpenSpec.ofChange qualitySmallSpec)) qualitySmallCard

/-- THE SECOND FORM's CARD OF 'broadsheetlaw14.QualityBests'. -/
def qualityBestsUptoCard : Claim7 := { stood := { row := qualityBestsUptoRow, standIns := [], harness := (true, "1a043d69f490f8a9108015ec3ee15bb6ff57c0492f79ca4521f7c09a9393d9b5"), looks := true }, kinds := [], alts := [], laidByText := true, laidKinds := [.data, .data, .data, .data, .sentinel, .sentinel, .pinned], laidTests := true, laidLooks := .later }
def QualityBestsUptoCardSaid : Prop := Claim7.holds Tryz.pinned (.plain (OpenSpec.upto qualityBestsSpec)) qualityBestsUptoCard

/-- THE SECOND FORM's CARD OF 'broadsheetlaw14.QualitySmall'. -/
def qualitySmallUptoCard : Claim7 := { stood := { row := qualitySmallUptoRow, standIns := [], harness := (true, "1a043d69f490f8a9108015ec3ee15bb6ff57c0492f79ca4521f7c09a9393d9b5"), looks := true }, kinds := [], alts := [], laidByText := true, laidKinds := [.data, .data, .data, .data, .sentinel, .sentinel, .pinned], laidTests := true, laidLooks := .later }
def QualitySmallUptoCardSaid : Prop := Claim7.holds Tryz.pinned (.plain (OpenSpec.upto qualitySmallSpec)) qualitySmallUptoCard
end Rows
end Go.Proofs.YtghfbhobpodoeaaGreatDoor
