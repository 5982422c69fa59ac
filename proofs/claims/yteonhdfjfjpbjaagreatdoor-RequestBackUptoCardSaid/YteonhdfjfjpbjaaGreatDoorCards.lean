/-
  DERIVED. GIVEN WITH THE SEED: THE CARDS: each row of YteonhdfjfjpbjaaGreatDoorRows.lean that lists a variable, with what it lists TIED to the program's text (the seventh form; the later family's looks); each row that meets fmt, with fmt's text TOLD by the authors' own Lean function (tested against real Go, not proved from fmt's source: count such statements apart). THE CARD IS WHAT COUNTS. Prove the row's statement (the work); the ties are given (YteonhdfjfjpbjaaGreatDoorTie.lean); close each card by the builder's one call (the guide's Derived/Test/ToyasCard.lean, 'card_holds'). Laid BY PROGRAM, IN A SANDBOX (cutbox-door.mjs). By AI agents, Wed Nov 11 2026. No macro, syntax, notation, axiom, sorry.
-/
import Derived.Test.YteonhdfjfjpbjaaGreatDoorRows
import GoSem.ClaimSeven
namespace Go.Proofs.YteonhdfjfjpbjaaGreatDoor
namespace Rows

/-- THE TIED CARD OF 'broadsheetlaw19.ChunkLong'. -/
def chunkLongCard : Claim7 := { stood := { row := chunkLongRow, standIns := [], harness := (true, "6e5efd347170d6880d29d1c486e5802892b5c862d1225aea73e8e519f71f4b8a"), looks := true }, kinds := [], alts := [], laidByText := true, laidKinds := [.data, .data, .data, .data, .sentinel, .sentinel, .pinned], laidTests := true, laidLooks := .later }
def ChunkLongCardSaid : Prop := Claim7.holds Tryz.pinned (.plain (OpenSpec.ofChange chunkLongSpec)) chunkLongCard

/-- THE TIED CARD OF 'broadsheetlaw19.ChunkSmall'. -/
def chunkSmallCard : Claim7 := { stood := { row := chunkSmallRow, standIns := [], harness := (true, "6e5efd347170d6880d29d1c486e5802892b5c862d1225aea73e8e519f71f4b8a"), looks := true }, kinds := [], alts := [], laidByText := true, laidKinds := [.data, .data, .data, .data, .sentinel, .sentinel, .pinned], laidTests := true, laidLooks := .later }
def ChunkSmallCardSaid : Prop := Claim7.holds Tryz.pinned (.plain (OpenSpec.ofChange chunkSmallSpec)) chunkSmallCard

/-- THE TIED CARD OF 'broadsheetlaw20.RequestParses'. -/
def requestParsesCard : Claim7 := { stood := { row := requestParsesRow, standIns := [], harness := (true, "6e5efd347170d6880d29d1c486e5802892b5c862d1225aea73e8e519f71f4b8a"), looks := true }, kinds := [], alts := [], laidByText := true, laidKinds := [.data, .data, .data, .data, .sentinel, .sentinel, .pinned], laidTests := true, laidLooks := .later }
def RequestParsesCardSaid : Prop := Claim7.holds Tryz.pinned (.plain (OpenSpec.ofChange requestParsesSpec)) requestParsesCard

/-- THE TIED CARD OF 'broadsheetlaw20.RequestSlugs'. -/
def requestSlugsCard : Claim7 := { stood := { row := requestSlugsRow, standIns := [], harness := (true, "6e5efd347170d6880d29d1c486e5802892b5c862d1225aea73e8e519f71f4b8a"), looks := true }, kinds := [], alts := [], laidByText := true, laidKinds := [.data, .data, .data, .data, .sentinel, .sentinel, .pinned], laidTests := true, laidLooks := .later }
def RequestSlugsCardSaid : Prop := Claim7.holds Tryz.pinned (.plain (OpenSpec.ofChange requestSlugsSpec)) requestSlugsCard

/-- THE TIED CARD OF 'broadsheetlaw20.RequestBack'. -/
def requestBackCard : Claim7 := { stood := { row := requestBackRow, standIns := [], harness := (true, "6e5efd347170d6880d29d1c486e5802892b5c862d1225aea73e8e519f71f4b8a"), looks := true }, kinds := [], alts := [], laidByText := true, laidKinds := [.data, .data, .data, .data, .sentinel, .sentinel, .pinned], laidTests := true, laidLooks := .later }
def RequestBackCardSaid : Prop := Claim7.holds Tryz.pinned (.plain (OpenSpec.ofChange requestBackSpec)) requestBackCard

/-- THE TIED CARD OF 'broadsheetlaw20.RequestSlug'. -/
def requestSlugCard : Claim7 := { stood := { row := requestSlugRow, standIns := [], harness := (true, "6e5efd347170d6880d29d1c486e5802892b5c862d1225aea73e8e519f71f4b8a"), looks := true }, kinds := [], alts := [], laidByText := true, laidKinds := [.data, .data, .data, .data, .sentinel, .sentinel, .pinned], laidTests := true, laidLooks := .later }
def RequestSlugCardSaid : Prop := Claim7.holds Tryz.pinned (.plain (OpenSpec.ofChange requestSlugSpec)) requestSlugCard

/-- THE TIED CARD OF 'broadsheetlaw20.RequestSmall'. -/
def requestSmallCard : Claim7 := { stood := { row := requestSmallRow, standIns := [], harness := (true, "6e5efd347170d6880d29d1c486e5802892b5c862d1225aea73e8e519f71f4b8a"), looks := true }, kinds := [], alts := [], laidByText := true, laidKinds := [.data, .data, .data, .data, .sentinel, .sentinel, .pinned], laidTests := true, laidLooks := .later }
def RequestSmallCardSaid : Prop := Claim7.holds Tryz.pinned (.plain (OpenSpec.ofChange requestSmallSpec)) requestSmallCard

/-- THE SECOND FORM's CARD OF 'broadsheetlaw19.ChunkLong'. -/
def chunkLongUptoCard : Claim7 := { stood := { row := chunkLongUptoRow, standIns := [], harness := (true, "6e5efd347170d6880d29d1c486e5802892b5c862d1225aea73e8e519f71f4b8a"), looks := true }, kinds := [], alts := [], laidByText := true, laidKinds := [.data, .data, .data, .data, .sentinel, .sentinel, .pinned], laidTests := true, laidLooks := .later }
def ChunkLongUptoCardSaid : Prop := Claim7.holds Tryz.pinned (.plain (OpenSpec.upto chunkLongSpec)) chunkLongUptoCard

/-- THE SECOND FORM's CARD OF 'broadsheetlaw19.ChunkSmall'. -/
def chunkSmallUptoCard : Claim7 := { stood := { row := chunkSmallUptoRow, standIns := [], harness := (true, "6e5efd347170d6880d29d1c486e5802892b5c862d1225aea73e8e519f71f4b8a"), looks := true }, kinds := [], alts := [], laidByText := true, laidKinds := [.data, .data, .data, .data, .sentinel, .sentinel, .pinned], laidTests := true, laidLooks := .later }
def ChunkSmallUptoCardSaid : Prop := Claim7.holds Tryz.pinned (.plain (OpenSpec.upto chunkSmallSpec)) chunkSmallUptoCard

/-- THE SECOND FORM's CARD OF 'broadsheetlaw20.RequestParses'. -/
def requestParsesUptoCard : Claim7 := { stood := { row := requestParsesUptoRow, standIns := [], harness := (true, "6e5efd347170d6880d29d1c486e5802892b5c862d1225aea73e8e519f71f4b8a"), looks := true }, kinds := [], alts := [], laidByText := true, laidKinds := [.data, .data, .data, .data, .sentinel, .sentinel, .pinned], laidTests := true, laidLooks := .later }
def RequestParsesUptoCardSaid : Prop := Claim7.holds Tryz.pinned (.plain (OpenSpec.upto requestParsesSpec)) requestParsesUptoCard

/-- THE SECOND FORM's CARD OF 'broadsheetlaw20.RequestSlugs'. -/
def requestSlugsUptoCard : Claim7 := { stood := { row := requestSlugsUptoRow, standIns := [], harness := (true, "6e5efd347170d6880d29d1c486e5802892b5c862d1225aea73e8e519f71f4b8a"), looks := true }, kinds := [], alts := [], laidByText := true, laidKinds := [.data, .data, .data, .data, .sentinel, .sentinel, .pinned], laidTests := true, laidLooks := .later }
def RequestSlugsUptoCardSaid : Prop := Claim7.holds Tryz.pinned (.plain (OpenSpec.upto requestSlugsSpec)) requestSlugsUptoCard

/-- THE SECOND FORM's CARD OF 'broadsheetlaw20.RequestBack'. -/
def requestBackUptoCard : Claim7 := { stood := { row := requestBackUptoRow, standIns := [], harness := (true, "6e5efd347170d6880d29d1c486e5802892b5c862d1225aea73e8e519f71f4b8a"), looks := true }, kinds := [], alts := [], laidByText := true, laidKinds := [.data, .data, .data, .data, .sentinel, .sentinel, .pinned], laidTests := true, laidLooks := .later }
def RequestBackUptoCardSaid : Prop := Claim7.holds Tryz.pinned (.plain (OpenSpec.upto requestBackSpec)) requestBackUptoCard

/-- THE SECOND FORM's CARD OF 'broadsheetlaw20.RequestSlug'. -/
def requestSlugUptoCard : Claim7 := { stood := { row := requestSlugUptoRow, standIns := [], harness := (true, "6e5efd347170d6880d29d1c486e5802892b5c862d1225aea73e8e519f71f4b8a"), looks := true }, kinds := [], alts := [], laidByText := true, laidKinds := [.data, .data, .data, .data, .sentinel, .sentinel, .pinned], laidTests := true, laidLooks := .later }
def RequestSlugUptoCardSaid : Prop := Claim7.holds Tryz.pinned (.plain (OpenSpec.upto requestSlugSpec)) requestSlugUptoCard

/-- THE SECOND FORM's CARD OF 'broadsheetlaw20.RequestSmall'. -/
def requestSmallUptoCard : Claim7 := { stood := { row := requestSmallUptoRow, standIns := [], harness := (true, "6e5efd347170d6880d29d1c486e5802892b5c862d1225aea73e8e519f71f4b8a"), looks := true }, kinds := [], alts := [], laidByText := true, laidKinds := [.data, .data, .data, .data, .sentinel, .sentinel, .pinned], laidTests := true, laidLooks := .later }
def RequestSmallUptoCardSaid : Prop := Claim7.holds Tryz.pinned (.plain (OpenSpec.upto requestSmallSpec)) requestSmallUptoCard
end Rows
end Go.Proofs.YteonhdfjfjpbjaaGreatDoor
