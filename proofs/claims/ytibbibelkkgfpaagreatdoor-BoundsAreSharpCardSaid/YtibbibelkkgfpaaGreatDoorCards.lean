/-
  DERIVED. GIVEN WITH THE SEED: THE CARDS: each row of YtibbibelkkgfpaaGreatDoorRows.lean that lists a variable, with what it lists TIED to the program's text (the seventh form; the later family's looks); each row that meets fmt, with fmt's text TOLD by the authors' own Lean function (tested against real Go, not proved from fmt's source: count such statements apart). THE CARD IS WHAT COUNTS. Prove the row's statement (the work); the ties are given (YtibbibelkkgfpaaGreatDoorTie.lean); close each card by the builder's one call (the guide's Derived/Test/ToyasCard.lean, 'card_holds'). Laid BY PROGRAM, IN A SANDBOX (cutbox-door.mjs). By AI agents, Wed Nov 11 2026. No macro, syntax, notation, axiom, sorry.
-/
import Derived.Test.YtibbibelkkgfpaaGreatDoorRows
import GoSem.ClaimSeven
namespace Go.Proofs.YtibbibelkkgfpaaGreatDoor
namespace Rows

/-- THE TIED CARD OF 'rivermarklaw19.BoundsAreAsSpecified'. -/
def boundsAreAsSpecifiedCard : Claim7 := { stood := { row := boundsAreAsSpecifiedRow, standIns := [], harness := (true, "3b5e8485d962a911a4c2621ae5d83209e08108756f8917358bfbe5857e988e43"), looks := false }, kinds := [], alts := [], laidByText := true, laidKinds := [.data, .pinned], laidTests := true, laidLooks := .later }
def BoundsAreAsSpecifiedCardSaid : Prop := Claim7.holds Tryz.pinned (.plain (OpenSpec.ofChange boundsAreAsSpecifiedSpec)) boundsAreAsSpecifiedCard

/-- THE TIED CARD OF 'rivermarklaw19.BoundsAreAttained'. -/
def boundsAreAttainedCard : Claim7 := { stood := { row := boundsAreAttainedRow, standIns := [], harness := (true, "3b5e8485d962a911a4c2621ae5d83209e08108756f8917358bfbe5857e988e43"), looks := false }, kinds := [], alts := [], laidByText := true, laidKinds := [.data, .pinned], laidTests := true, laidLooks := .later }
def BoundsAreAttainedCardSaid : Prop := Claim7.holds Tryz.pinned (.plain (OpenSpec.ofChange boundsAreAttainedSpec)) boundsAreAttainedCard

/-- THE TIED CARD OF 'rivermarklaw19.BoundsHold'. -/
def boundsHoldCard : Claim7 := { stood := { row := boundsHoldRow, standIns := [], harness := (true, "3b5e8485d962a911a4c2621ae5d83209e08108756f8917358bfbe5857e988e43"), looks := false }, kinds := [], alts := [], laidByText := true, laidKinds := [.data, .pinned], laidTests := true, laidLooks := .later }
def BoundsHoldCardSaid : Prop := Claim7.holds Tryz.pinned (.plain (OpenSpec.ofChange boundsHoldSpec)) boundsHoldCard

/-- THE TIED CARD OF 'rivermarklaw19.BoundsAreSharp'. -/
def boundsAreSharpCard : Claim7 := { stood := { row := boundsAreSharpRow, standIns := [], harness := (true, "3b5e8485d962a911a4c2621ae5d83209e08108756f8917358bfbe5857e988e43"), looks := false }, kinds := [], alts := [], laidByText := true, laidKinds := [.data, .pinned], laidTests := true, laidLooks := .later }
def BoundsAreSharpCardSaid : Prop := Claim7.holds Tryz.pinned (.plain (OpenSpec.ofChange boundsAreSharpSpec)) boundsAreSharpCard

/-- THE TIED CARD OF 'rivermarklaw19.BoundsAddUp'. -/
def boundsAddUpCard : Claim7 := { stood := { row := boundsAddUpRow, standIns := [], harness := (true, "3b5e8485d962a911a4c2621ae5d83209e08108756f8917358bfbe5857e988e43"), looks := false }, kinds := [], alts := [], laidByText := true, laidKinds := [.data, .pinned], laidTests := true, laidLooks := .later }
def BoundsAddUpCardSaid : Prop := Claim7.holds Tryz.pinned (.plain (OpenSpec.ofChange boundsAddUpSpec)) boundsAddUpCard

/-- THE TIED CARD OF 'rivermarklaw19.BoundsNest'. -/
def boundsNestCard : Claim7 := { stood := { row := boundsNestRow, standIns := [], harness := (true, "3b5e8485d962a911a4c2621ae5d83209e08108756f8917358bfbe5857e988e43"), looks := false }, kinds := [], alts := [], laidByText := true, laidKinds := [.data, .pinned], laidTests := true, laidLooks := .later }
def BoundsNestCardSaid : Prop := Claim7.holds Tryz.pinned (.plain (OpenSpec.ofChange boundsNestSpec)) boundsNestCard

/-- THE TIED CARD OF 'rivermarklaw19.BoundsOfSummaries'. -/
def boundsOfSummariesCard : Claim7 := { stood := { row := boundsOfSummariesRow, standIns := [], harness := (true, "3b5e8485d962a911a4c2621ae5d83209e08108756f8917358bfbe5857e988e43"), looks := false }, kinds := [], alts := [], laidByText := true, laidKinds := [.data, .pinned], laidTests := true, laidLooks := .later }
def BoundsOfSummariesCardSaid : Prop := Claim7.holds Tryz.pinned (.plain (OpenSpec.ofChange boundsOfSummariesSpec)) boundsOfSummariesCard

/-- THE SECOND FORM's CARD OF 'rivermarklaw19.BoundsAreAsSpecified'. -/
def boundsAreAsSpecifiedUptoCard : Claim7 := { stood := { row := boundsAreAsSpecifiedUptoRow, standIns := [], harness := (true, "3b5e8485d962a911a4c2621ae5d83209e08108756f8917358bfbe5857e988e43"), looks := false }, kinds := [], alts := [], laidByText := true, laidKinds := [.data, .pinned], laidTests := true, laidLooks := .later }
def BoundsAreAsSpecifiedUptoCardSaid : Prop := Claim7.holds Tryz.pinned (.plain (OpenSpec.upto boundsAreAsSpecifiedSpec)) boundsAreAsSpecifiedUptoCard

/-- THE SECOND FORM's CARD OF 'rivermarklaw19.BoundsAreAttained'. -/
def boundsAreAttainedUptoCard : Claim7 := { stood := { row := boundsAreAttainedUptoRow, standIns := [], harness := (true, "3b5e8485d962a911a4c2621ae5d83209e08108756f8917358bfbe5857e988e43"), looks := false }, kinds := [], alts := [], laidByText := true, laidKinds := [.data, .pinned], laidTests := true, laidLooks := .later }
def BoundsAreAttainedUptoCardSaid : Prop := Claim7.holds Tryz.pinned (.plain (OpenSpec.upto boundsAreAttainedSpec)) boundsAreAttainedUptoCard

/-- THE SECOND FORM's CARD OF 'rivermarklaw19.BoundsHold'. -/
def boundsHoldUptoCard : Claim7 := { stood := { row := boundsHoldUptoRow, standIns := [], harness := (true, "3b5e8485d962a911a4c2621ae5d83209e08108756f8917358bfbe5857e988e43"), looks := false }, kinds := [], alts := [], laidByText := true, laidKinds := [.data, .pinned], laidTests := true, laidLooks := .later }
def BoundsHoldUptoCardSaid : Prop := Claim7.holds Tryz.pinned (.plain (OpenSpec.upto boundsHoldSpec)) boundsHoldUptoCard

/-- THE SECOND FORM's CARD OF 'rivermarklaw19.BoundsAreSharp'. -/
def boundsAreSharpUptoCard : Claim7 := { stood := { row := boundsAreSharpUptoRow, standIns := [], harness := (true, "3b5e8485d962a911a4c2621ae5d83209e08108756f8917358bfbe5857e988e43"), looks := false }, kinds := [], alts := [], laidByText := true, laidKinds := [.data, .pinned], laidTests := true, laidLooks := .later }
def BoundsAreSharpUptoCardSaid : Prop := Claim7.holds Tryz.pinned (.plain (OpenSpec.upto boundsAreSharpSpec)) boundsAreSharpUptoCard

/-- THE SECOND FORM's CARD OF 'rivermarklaw19.BoundsAddUp'. -/
def boundsAddUpUptoCard : Claim7 := { stood := { row := boundsAddUpUptoRow, standIns := [], harness := (true, "3b5e8485d962a911a4c2621ae5d83209e08108756f8917358bfbe5857e988e43"), looks := false }, kinds := [], alts := [], laidByText := true, laidKinds := [.data, .pinned], laidTests := true, laidLooks := .later }
def BoundsAddUpUptoCardSaid : Prop := Claim7.holds Tryz.pinned (.plain (OpenSpec.upto boundsAddUpSpec)) boundsAddUpUptoCard

/-- THE SECOND FORM's CARD OF 'rivermarklaw19.BoundsNest'. -/
def boundsNestUptoCard : Claim7 := { stood := { row := boundsNestUptoRow, standIns := [], harness := (true, "3b5e8485d962a911a4c2621ae5d83209e08108756f8917358bfbe5857e988e43"), looks := false }, kinds := [], alts := [], laidByText := true, laidKinds := [.data, .pinned], laidTests := true, laidLooks := .later }
def BoundsNestUptoCardSaid : Prop := Claim7.holds Tryz.pinned (.plain (OpenSpec.upto boundsNestSpec)) boundsNestUptoCard

/-- THE SECOND FORM's CARD OF 'rivermarklaw19.BoundsOfSummaries'. -/
def boundsOfSummariesUptoCard : Claim7 := { stood := { row := boundsOfSummariesUptoRow, standIns := [], harness := (true, "3b5e8485d962a911a4c2621ae5d83209e08108756f8917358bfbe5857e988e43"), looks := false }, kinds := [], alts := [], laidByText := true, laidKinds := [.data, .pinned], laidTests := true, laidLooks := .later }
def BoundsOfSummariesUptoCardSaid : Prop := Claim7.holds Tryz.pinned (.plain (OpenSpec.upto boundsOfSummariesSpec)) boundsOfSummariesUptoCard
end Rows
end Go.Proofs.YtibbibelkkgfpaaGreatDoor
