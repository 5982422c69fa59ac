/-
  DERIVED. GIVEN WITH THE SEED: THE CARDS: each row of YtghfbhobpodoeaaDoorRows.lean that lists a variable, with what it lists TIED to the program's text (the seventh form; the later family's looks); each row that meets fmt, with fmt's text TOLD by the authors' own Lean function (tested against real Go, not proved from fmt's source: count such statements apart). THE CARD IS WHAT COUNTS. Prove the row's statement (the work); the ties are given (YtghfbhobpodoeaaDoorTie.lean); close each card by the builder's one call (the guide's Derived/Test/ToyasCard.lean, 'card_holds'). Laid BY PROGRAM, IN A SANDBOX (cutbox-door.mjs). By AI agents, Wed Nov 11 2026. No macro, syntax, notation, axiom, sorry.
-/
import Derived.Test.YtghfbhobpodoeaaDoorRows
import GoSem.ClaimSeven
namespace Go.Proofs.YtghfbhobpodoeaaDoor
namespace Rows

/-- THE TIED CARD OF 'broadsheetlaw14.QualitySplits'. -/
def qualitySplitsCard : Claim7 := { stood := { row := qualitySplitsRow, standIns := [], harness := (true, "31bae025743377abc2abaea8a9ea930f417f5f87cebb5abc5498e216f61d0582"), looks := true }, kinds := [], alts := [], laidByText := true, laidKinds := [.data, .data, .data, .data, .sentinel, .sentinel, .pinned], laidTests := true, laidLooks := .later }
def QualitySplitsCardSaid : Prop := Claim7.holds Tryd.pinned (.plain (OpenSpec.ofChange qualitySplitsSpec)) qualitySplitsCard

/-- THE TIED CARD OF 'broadsheetlaw14.QualityWhole'. -/
def qualityWholeCard : Claim7 := { stood := { row := qualityWholeRow, standIns := [], harness := (true, "31bae025743377abc2abaea8a9ea930f417f5f87cebb5abc5498e216f61d0582"), looks := true }, kinds := [], alts := [], laidByText := true, laidKinds := [.data, .data, .data, .data, .sentinel, .sentinel, .pinned], laidTests := true, laidLooks := .later }
def QualityWholeCardSaid : Prop := Claim7.holds Tryd.pinned (.plain (OpenSpec.ofChange qualityWholeSpec)) qualityWholeCard

/-- THE TIED CARD OF 'broadsheetlaw14.QualityMore'. -/
def qualityMoreCard : Claim7 := { stood := { row := qualityMoreRow, standIns := [], harness := (true, "31bae025743377abc2abaea8a9ea930f417f5f87cebb5abc5498e216f61d0582"), looks := true }, kinds := [], alts := [], laidByText := true, laidKinds := [.data, .data, .data, .data, .sentinel, .sentinel, .pinned], laidTests := true, laidLooks := .later }
def QualityMoreCardSaid : Prop := Claim7.holds Tryd.pinned (.plain (OpenSpec.ofChange qualityMoreSpec)) qualityMoreCard

/-- THE TIED CARD OF 'broadsheetlaw14.QualityWeights'. -/
def qualityWeightsCard : Claim7 := { stood := { row := qualityWeightsRow, standIns := [], harness := (true, "31bae025743377abc2abaea8a9ea930f417f5f87cebb5abc5498e216f61d0582"), looks := true }, kinds := [], alts := [], laidByText := true, laidKinds := [.data, .data, .data, .data, .sentinel, .sentinel, .pinned], laidTests := true, laidLooks := .later }
def QualityWeightsCardSaid : Prop := Claim7.holds Tryd.pinned (.plain (OpenSpec.ofChange qualityWeightsSpec)) qualityWeightsCard

/-- THE TIED CARD OF 'broadsheetlaw14.QualityOrder'. -/
def qualityOrderCard : Claim7 := { stood := { row := qualityOrderRow, standIns := [], harness := (true, "31bae025743377abc2abaea8a9ea930f417f5f87cebb5abc5498e216f61d0582"), looks := true }, kinds := [], alts := [], laidByText := true, laidKinds := [.data, .data, .data, .data, .sentinel, .sentinel, .pinned], laidTests := true, laidLooks := .later }
def QualityOrderCardSaid : Prop := Claim7.holds Tryd.pinned (.plain (OpenSpec.ofChange qualityOrderSpec)) qualityOrderCard

/-- THE SECOND FORM's CARD OF 'broadsheetlaw14.QualitySplits'. -/
def qualitySplitsUptoCard : Claim7 := { stood := { row := qualitySplitsUptoRow, standIns := [], harness := (true, "31bae025743377abc2abaea8a9ea930f417f5f87cebb5abc5498e216f61d0582"), looks := true }, kinds := [], alts := [], laidByText := true, laidKinds := [.data, .data, .data, .data, .sentinel, .sentinel, .pinned], laidTests := true, laidLooks := .later }
def QualitySplitsUptoCardSaid : Prop := Claim7.holds Tryd.pinned (.plain (OpenSpec.upto qualitySplitsSpec)) qualitySplitsUptoCard

/-- THE SECOND FORM's CARD OF 'broadsheetlaw14.QualityWhole'. -/
def qualityWholeUptoCard : Claim7 := { stood := { row := qualityWholeUptoRow, standIns := [], harness := (true, "31bae025743377abc2abaea8a9ea930f417f5f87cebb5abc5498e216f61d0582"), looks := true }, kinds := [], alts := [], laidByText := true, laidKinds := [.data, .data, .data, .data, .sentinel, .sentinel, .pinned], laidTests := true, laidLooks := .later }
def QualityWholeUptoCardSaid : Prop := Claim7.holds Tryd.pinned (.plain (OpenSpec.upto qualityWholeSpec)) qualityWholeUptoCard

/-- THE SECOND FORM's CARD OF 'broadsheetlaw14.QualityMore'. -/
def qualityMoreUptoCard : Claim7 := { stood := { row := qualityMoreUptoRow, standIns := [], harness := (true, "31bae025743377abc2abaea8a9ea930f417f5f87cebb5abc5498e216f61d0582"), looks := true }, kinds := [], alts := [], laidByText := true, laidKinds := [.data, .data, .data, .data, .sentinel, .sentinel, .pinned], laidTests := true, laidLooks := .later }
def QualityMoreUptoCardSaid : Prop := Claim7.holds Tryd.pinned (.plain (OpenSpec.upto qualityMoreSpec)) qualityMoreUptoCard

/-- THE SECOND FORM's CARD OF 'broadsheetlaw14.QualityWeights'. -/
def qualityWeightsUptoCard : Claim7 := { stood := { row := qualityWeightsUptoRow, standIns := [], harness := (true, "31bae025743377abc2abaea8a9ea930f417f5f87cebb5abc5498e216f61d0582"), looks := true }, kinds := [], alts := [], laidByText := true, laidKinds := [.data, .data, .data, .data, .sentinel, .sentinel, .pinned], laidTests := true, laidLooks := .later }
def QualityWeightsUptoCardSaid : Prop := Claim7.holds Tryd.pinned (.plain (OpenSpec.upto qualityWeightsSpec)) qualityWeightsUptoCard

/-- THE SECOND FORM's CARD OF 'broadsheetlaw14.QualityOrder'. -/
def qualityOrderUptoCard : Claim7 := { stood := { row := qualityOrderUptoRow, standIns := [], harness := (true, "31bae025743377abc2abaea8a9ea930f417f5f87cebb5abc5498e216f61d0582"), looks := true }, kinds := [], alts := [], laidByText := true, laidKinds := [.data, .data, .data, .data, .sentinel, .sentinel, .pinned], laidTests := true, laidLooks := .later }
def QualityOrderUptoCardSaid : Prop := Claim7.holds Tryd.pinned (.plain (OpenSpec.upto qualityOrderSpec)) qualityOrderUptoCard
end Rows
end Go.Proofs.YtghfbhobpodoeaaDoor
