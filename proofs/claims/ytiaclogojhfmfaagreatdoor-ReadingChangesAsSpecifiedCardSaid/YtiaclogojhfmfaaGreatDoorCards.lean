/-
  DERIVED. GIVEN WITH THE SEED: THE CARDS: each row of YtiaclogojhfmfaaGreatDoorRows.lean that lists a variable, with what it lists TIED to the program's text (the seventh form; the later family's looks); each row that meets fmt, with fmt's text TOLD by the authors' own Lean function (tested against real Go, not proved from fmt's source: count such statements apart). THE CARD IS WHAT COUNTS. Prove the row's statement (the work); the ties are given (YtiaclogojhfmfaaGreatDoorTie.lean); close each card by the builder's one call (the guide's Derived/Test/ToyasCard.lean, 'card_holds'). Laid BY PROGRAM, IN A SANDBOX (cutbox-door.mjs). By AI agents, Wed Nov 11 2026. No macro, syntax, notation, axiom, sorry.
-/
import Derived.Test.YtiaclogojhfmfaaGreatDoorRows
import GoSem.ClaimSeven
namespace Go.Proofs.YtiaclogojhfmfaaGreatDoor
namespace Rows

/-- THE TIED CARD OF 'rivermarklaw15.ReadingBooksAsSpecified'. -/
def readingBooksAsSpecifiedCard : Claim7 := { stood := { row := readingBooksAsSpecifiedRow, standIns := [], harness := (true, "15717a6af89e0e675c5ab764917d3211ca73b7083c730a0e0a364eb354e6ae2e"), looks := false }, kinds := [], alts := [], laidByText := true, laidKinds := [.data, .pinned], laidTests := true, laidLooks := .later }
def ReadingBooksAsSpecifiedCardSaid : Prop := Claim7.holds Tryz.pinned (.plain (OpenSpec.ofChange readingBooksAsSpecifiedSpec)) readingBooksAsSpecifiedCard

/-- THE TIED CARD OF 'rivermarklaw15.ReadingSeriesAsSpecified'. -/
def readingSeriesAsSpecifiedCard : Claim7 := { stood := { row := readingSeriesAsSpecifiedRow, standIns := [], harness := (true, "15717a6af89e0e675c5ab764917d3211ca73b7083c730a0e0a364eb354e6ae2e"), looks := false }, kinds := [], alts := [], laidByText := true, laidKinds := [.data, .pinned], laidTests := true, laidLooks := .later }
def ReadingSeriesAsSpecifiedCardSaid : Prop := Claim7.holds Tryz.pinned (.plain (OpenSpec.ofChange readingSeriesAsSpecifiedSpec)) readingSeriesAsSpecifiedCard

/-- THE TIED CARD OF 'rivermarklaw15.ReadingChangesAsSpecified'. -/
def readingChangesAsSpecifiedCard : Claim7 := { stood := { row := readingChangesAsSpecifiedRow, standIns := [], harness := (true, "15717a6af89e0e675c5ab764917d3211ca73b7083c730a0e0a364eb354e6ae2e"), looks := false }, kinds := [], alts := [], laidByText := true, laidKinds := [.data, .pinned], laidTests := true, laidLooks := .later }
def ReadingChangesAsSpecifiedCardSaid : Prop := Claim7.holds Tryz.pinned (.plain (OpenSpec.ofChange readingChangesAsSpecifiedSpec)) readingChangesAsSpecifiedCard

/-- THE TIED CARD OF 'rivermarklaw15.ReadingsInAnyOrder'. -/
def readingsInAnyOrderCard : Claim7 := { stood := { row := readingsInAnyOrderRow, standIns := [], harness := (true, "15717a6af89e0e675c5ab764917d3211ca73b7083c730a0e0a364eb354e6ae2e"), looks := false }, kinds := [], alts := [], laidByText := true, laidKinds := [.data, .pinned], laidTests := true, laidLooks := .later }
def ReadingsInAnyOrderCardSaid : Prop := Claim7.holds Tryz.pinned (.plain (OpenSpec.ofChange readingsInAnyOrderSpec)) readingsInAnyOrderCard

/-- THE TIED CARD OF 'rivermarklaw15.ReadingMergesFreely'. -/
def readingMergesFreelyCard : Claim7 := { stood := { row := readingMergesFreelyRow, standIns := [], harness := (true, "15717a6af89e0e675c5ab764917d3211ca73b7083c730a0e0a364eb354e6ae2e"), looks := false }, kinds := [], alts := [], laidByText := true, laidKinds := [.data, .pinned], laidTests := true, laidLooks := .later }
def ReadingMergesFreelyCardSaid : Prop := Claim7.holds Tryz.pinned (.plain (OpenSpec.ofChange readingMergesFreelySpec)) readingMergesFreelyCard

/-- THE TIED CARD OF 'rivermarklaw15.ReadingSeriesAtTicks'. -/
def readingSeriesAtTicksCard : Claim7 := { stood := { row := readingSeriesAtTicksRow, standIns := [], harness := (true, "15717a6af89e0e675c5ab764917d3211ca73b7083c730a0e0a364eb354e6ae2e"), looks := false }, kinds := [], alts := [], laidByText := true, laidKinds := [.data, .pinned], laidTests := true, laidLooks := .later }
def ReadingSeriesAtTicksCardSaid : Prop := Claim7.holds Tryz.pinned (.plain (OpenSpec.ofChange readingSeriesAtTicksSpec)) readingSeriesAtTicksCard

/-- THE TIED CARD OF 'rivermarklaw15.ReadingsKnownLater'. -/
def readingsKnownLaterCard : Claim7 := { stood := { row := readingsKnownLaterRow, standIns := [], harness := (true, "15717a6af89e0e675c5ab764917d3211ca73b7083c730a0e0a364eb354e6ae2e"), looks := false }, kinds := [], alts := [], laidByText := true, laidKinds := [.data, .pinned], laidTests := true, laidLooks := .later }
def ReadingsKnownLaterCardSaid : Prop := Claim7.holds Tryz.pinned (.plain (OpenSpec.ofChange readingsKnownLaterSpec)) readingsKnownLaterCard

/-- THE TIED CARD OF 'rivermarklaw15.ReadingChangesExactly'. -/
def readingChangesExactlyCard : Claim7 := { stood := { row := readingChangesExactlyRow, standIns := [], harness := (true, "15717a6af89e0e675c5ab764917d3211ca73b7083c730a0e0a364eb354e6ae2e"), looks := false }, kinds := [], alts := [], laidByText := true, laidKinds := [.data, .pinned], laidTests := true, laidLooks := .later }
def ReadingChangesExactlyCardSaid : Prop := Claim7.holds Tryz.pinned (.plain (OpenSpec.ofChange readingChangesExactlySpec)) readingChangesExactlyCard

/-- THE SECOND FORM's CARD OF 'rivermarklaw15.ReadingBooksAsSpecified'. -/
def readingBooksAsSpecifiedUptoCard : Claim7 := { stood := { row := readingBooksAsSpecifiedUptoRow, standIns := [], harness := (true, "15717a6af89e0e675c5ab764917d3211ca73b7083c730a0e0a364eb354e6ae2e"), looks := false }, kinds := [], alts := [], laidByText := true, laidKinds := [.data, .pinned], laidTests := true, laidLooks := .later }
def ReadingBooksAsSpecifiedUptoCardSaid : Prop := Claim7.holds Tryz.pinned (.plain (OpenSpec.upto readingBooksAsSpecifiedSpec)) readingBooksAsSpecifiedUptoCard

/-- THE SECOND FORM's CARD OF 'rivermarklaw15.ReadingSeriesAsSpecified'. -/
def readingSeriesAsSpecifiedUptoCard : Claim7 := { stood := { row := readingSeriesAsSpecifiedUptoRow, standIns := [], harness := (true, "15717a6af89e0e675c5ab764917d3211ca73b7083c730a0e0a364eb354e6ae2e"), looks := false }, kinds := [], alts := [], laidByText := true, laidKinds := [.data, .pinned], laidTests := true, laidLooks := .later }
def ReadingSeriesAsSpecifiedUptoCardSaid : Prop := Claim7.holds Tryz.pinned (.plain (OpenSpec.upto readingSeriesAsSpecifiedSpec)) readingSeriesAsSpecifiedUptoCard

/-- THE SECOND FORM's CARD OF 'rivermarklaw15.ReadingChangesAsSpecified'. -/
def readingChangesAsSpecifiedUptoCard : Claim7 := { stood := { row := readingChangesAsSpecifiedUptoRow, standIns := [], harness := (true, "15717a6af89e0e675c5ab764917d3211ca73b7083c730a0e0a364eb354e6ae2e"), looks := false }, kinds := [], alts := [], laidByText := true, laidKinds := [.data, .pinned], laidTests := true, laidLooks := .later }
def ReadingChangesAsSpecifiedUptoCardSaid : Prop := Claim7.holds Tryz.pinned (.plain (OpenSpec.upto readingChangesAsSpecifiedSpec)) readingChangesAsSpecifiedUptoCard

/-- THE SECOND FORM's CARD OF 'rivermarklaw15.ReadingsInAnyOrder'. -/
def readingsInAnyOrderUptoCard : Claim7 := { stood := { row := readingsInAnyOrderUptoRow, standIns := [], harness := (true, "15717a6af89e0e675c5ab764917d3211ca73b7083c730a0e0a364eb354e6ae2e"), looks := false }, kinds := [], alts := [], laidByText := true, laidKinds := [.data, .pinned], laidTests := true, laidLooks := .later }
def ReadingsInAnyOrderUptoCardSaid : Prop := Claim7.holds Tryz.pinned (.plain (OpenSpec.upto readingsInAnyOrderSpec)) readingsInAnyOrderUptoCard

/-- THE SECOND FORM's CARD OF 'rivermarklaw15.ReadingMergesFreely'. -/
def readingMergesFreelyUptoCard : Claim7 := { stood := { row := readingMergesFreelyUptoRow, standIns := [], harness := (true, "15717a6af89e0e675c5ab764917d3211ca73b7083c730a0e0a364eb354e6ae2e"), looks := false }, kinds := [], alts := [], laidByText := true, laidKinds := [.data, .pinned], laidTests := true, laidLooks := .later }
def ReadingMergesFreelyUptoCardSaid : Prop := Claim7.holds Tryz.pinned (.plain (OpenSpec.upto readingMergesFreelySpec)) readingMergesFreelyUptoCard

/-- THE SECOND FORM's CARD OF 'rivermarklaw15.ReadingSeriesAtTicks'. -/
def readingSeriesAtTicksUptoCard : Claim7 := { stood := { row := readingSeriesAtTicksUptoRow, standIns := [], harness := (true, "15717a6af89e0e675c5ab764917d3211ca73b7083c730a0e0a364eb354e6ae2e"), looks := false }, kinds := [], alts := [], laidByText := true, laidKinds := [.data, .pinned], laidTests := true, laidLooks := .later }
def ReadingSeriesAtTicksUptoCardSaid : Prop := Claim7.holds Tryz.pinned (.plain (OpenSpec.upto readingSeriesAtTicksSpec)) readingSeriesAtTicksUptoCard

/-- THE SECOND FORM's CARD OF 'rivermarklaw15.ReadingsKnownLater'. -/
def readingsKnownLaterUptoCard : Claim7 := { stood := { row := readingsKnownLaterUptoRow, standIns := [], harness := (true, "15717a6af89e0e675c5ab764917d3211ca73b7083c730a0e0a364eb354e6ae2e"), looks := false }, kinds := [], alts := [], laidByText := true, laidKinds := [.data, .pinned], laidTests := true, laidLooks := .later }
def ReadingsKnownLaterUptoCardSaid : Prop := Claim7.holds Tryz.pinned (.plain (OpenSpec.upto readingsKnownLaterSpec)) readingsKnownLaterUptoCard

/-- THE SECOND FORM's CARD OF 'rivermarklaw15.ReadingChangesExactly'. -/
def readingChangesExactlyUptoCard : Claim7 := { stood := { row := readingChangesExactlyUptoRow, standIns := [], harness := (true, "15717a6af89e0e675c5ab764917d3211ca73b7083c730a0e0a364eb354e6ae2e"), looks := false }, kinds := [], alts := [], laidByText := true, laidKinds := [.data, .pinned], laidTests := true, laidLooks := .later }
def ReadingChangesExactlyUptoCardSaid : Prop := Claim7.holds Tryz.pinned (.plain (OpenSpec.upto readingChangesExactlySpec)) readingChangesExactlyUptoCard
end Rows
end Go.Proofs.YtiaclogojhfmfaaGreatDoor
