/-
  DERIVED. GIVEN WITH THE SEED: THE CARDS: each row of YtomegmhiddbmbaaGreatDoorRows.lean that lists a variable, with what it lists TIED to the program's text (the seventh form; the later family's looks); each row that meets fmt, with fmt's text TOLD by the authors' own Lean function (tested against real Go, not proved from fmt's source: count such statements apart). THE CARD IS WHAT COUNTS. Prove the row's statement (the work); the ties are given (YtomegmhiddbmbaaGreatDoorTie.lean); close each card by the builder's one call (the guide's Derived/Test/ToyasCard.lean, 'card_holds'). Laid BY PROGRAM, IN A SANDBOX (cutbox-door.mjs). By AI agents, Wed Nov 11 2026. No macro, syntax, notation, axiom, sorry.
-/
import Derived.Test.YtomegmhiddbmbaaGreatDoorRows
import GoSem.ClaimSeven
namespace Go.Proofs.YtomegmhiddbmbaaGreatDoor
namespace Rows

/-- THE TIED CARD OF 'rivermarklaw18.LevelsAsSpecified'. -/
def levelsAsSpecifiedCard : Claim7 := { stood := { row := levelsAsSpecifiedRow, standIns := [], harness := (true, "a017091f1136c68ceb75c580ed2f780b126347c4c86813705b08c911f55800ed"), looks := false }, kinds := [], alts := [], laidByText := true, laidKinds := [.data, .pinned], laidTests := true, laidLooks := .later }
def LevelsAsSpecifiedCardSaid : Prop := Claim7.holds Tryz.pinned (.plain (OpenSpec.ofChange levelsAsSpecifiedSpec)) levelsAsSpecifiedCard

/-- THE TIED CARD OF 'rivermarklaw18.LevelTimesAsSpecified'. -/
def levelTimesAsSpecifiedCard : Claim7 := { stood := { row := levelTimesAsSpecifiedRow, standIns := [], harness := (true, "a017091f1136c68ceb75c580ed2f780b126347c4c86813705b08c911f55800ed"), looks := false }, kinds := [], alts := [], laidByText := true, laidKinds := [.data, .pinned], laidTests := true, laidLooks := .later }
def LevelTimesAsSpecifiedCardSaid : Prop := Claim7.holds Tryz.pinned (.plain (OpenSpec.ofChange levelTimesAsSpecifiedSpec)) levelTimesAsSpecifiedCard

/-- THE TIED CARD OF 'rivermarklaw18.LevelForgetsWhen'. -/
def levelForgetsWhenCard : Claim7 := { stood := { row := levelForgetsWhenRow, standIns := [], harness := (true, "a017091f1136c68ceb75c580ed2f780b126347c4c86813705b08c911f55800ed"), looks := false }, kinds := [], alts := [], laidByText := true, laidKinds := [.data, .pinned], laidTests := true, laidLooks := .later }
def LevelForgetsWhenCardSaid : Prop := Claim7.holds Tryz.pinned (.plain (OpenSpec.ofChange levelForgetsWhenSpec)) levelForgetsWhenCard

/-- THE TIED CARD OF 'rivermarklaw18.LevelsRise'. -/
def levelsRiseCard : Claim7 := { stood := { row := levelsRiseRow, standIns := [], harness := (true, "a017091f1136c68ceb75c580ed2f780b126347c4c86813705b08c911f55800ed"), looks := false }, kinds := [], alts := [], laidByText := true, laidKinds := [.data, .pinned], laidTests := true, laidLooks := .later }
def LevelsRiseCardSaid : Prop := Claim7.holds Tryz.pinned (.plain (OpenSpec.ofChange levelsRiseSpec)) levelsRiseCard

/-- THE TIED CARD OF 'rivermarklaw18.LevelBothIsBounded'. -/
def levelBothIsBoundedCard : Claim7 := { stood := { row := levelBothIsBoundedRow, standIns := [], harness := (true, "a017091f1136c68ceb75c580ed2f780b126347c4c86813705b08c911f55800ed"), looks := false }, kinds := [], alts := [], laidByText := true, laidKinds := [.data, .pinned], laidTests := true, laidLooks := .later }
def LevelBothIsBoundedCardSaid : Prop := Claim7.holds Tryz.pinned (.plain (OpenSpec.ofChange levelBothIsBoundedSpec)) levelBothIsBoundedCard

/-- THE TIED CARD OF 'rivermarklaw18.LevelsSplit'. -/
def levelsSplitCard : Claim7 := { stood := { row := levelsSplitRow, standIns := [], harness := (true, "a017091f1136c68ceb75c580ed2f780b126347c4c86813705b08c911f55800ed"), looks := false }, kinds := [], alts := [], laidByText := true, laidKinds := [.data, .pinned], laidTests := true, laidLooks := .later }
def LevelsSplitCardSaid : Prop := Claim7.holds Tryz.pinned (.plain (OpenSpec.ofChange levelsSplitSpec)) levelsSplitCard

/-- THE TIED CARD OF 'rivermarklaw18.LevelFitsTogether'. -/
def levelFitsTogetherCard : Claim7 := { stood := { row := levelFitsTogetherRow, standIns := [], harness := (true, "a017091f1136c68ceb75c580ed2f780b126347c4c86813705b08c911f55800ed"), looks := false }, kinds := [], alts := [], laidByText := true, laidKinds := [.data, .pinned], laidTests := true, laidLooks := .later }
def LevelFitsTogetherCardSaid : Prop := Claim7.holds Tryz.pinned (.plain (OpenSpec.ofChange levelFitsTogetherSpec)) levelFitsTogetherCard

/-- THE SECOND FORM's CARD OF 'rivermarklaw18.LevelsAsSpecified'. -/
def levelsAsSpecifiedUptoCard : Claim7 := { stood := { row := levelsAsSpecifiedUptoRow, standIns := [], harness := (true, "a017091f1136c68ceb75c580ed2f780b126347c4c86813705b08c911f55800ed"), looks := false }, kinds := [], alts := [], laidByText := true, laidKinds := [.data, .pinned], laidTests := true, laidLooks := .later }
def LevelsAsSpecifiedUptoCardSaid : Prop := Claim7.holds Tryz.pinned (.plain (OpenSpec.upto levelsAsSpecifiedSpec)) levelsAsSpecifiedUptoCard

/-- THE SECOND FORM's CARD OF 'rivermarklaw18.LevelTimesAsSpecified'. -/
def levelTimesAsSpecifiedUptoCard : Claim7 := { stood := { row := levelTimesAsSpecifiedUptoRow, standIns := [], harness := (true, "a017091f1136c68ceb75c580ed2f780b126347c4c86813705b08c911f55800ed"), looks := false }, kinds := [], alts := [], laidByText := true, laidKinds := [.data, .pinned], laidTests := true, laidLooks := .later }
def LevelTimesAsSpecifiedUptoCardSaid : Prop := Claim7.holds Tryz.pinned (.plain (OpenSpec.upto levelTimesAsSpecifiedSpec)) levelTimesAsSpecifiedUptoCard

/-- THE SECOND FORM's CARD OF 'rivermarklaw18.LevelForgetsWhen'. -/
def levelForgetsWhenUptoCard : Claim7 := { stood := { row := levelForgetsWhenUptoRow, standIns := [], harness := (true, "a017091f1136c68ceb75c580ed2f780b126347c4c86813705b08c911f55800ed"), looks := false }, kinds := [], alts := [], laidByText := true, laidKinds := [.data, .pinned], laidTests := true, laidLooks := .later }
def LevelForgetsWhenUptoCardSaid : Prop := Claim7.holds Tryz.pinned (.plain (OpenSpec.upto levelForgetsWhenSpec)) levelForgetsWhenUptoCard

/-- THE SECOND FORM's CARD OF 'rivermarklaw18.LevelsRise'. -/
def levelsRiseUptoCard : Claim7 := { stood := { row := levelsRiseUptoRow, standIns := [], harness := (true, "a017091f1136c68ceb75c580ed2f780b126347c4c86813705b08c911f55800ed"), looks := false }, kinds := [], alts := [], laidByText := true, laidKinds := [.data, .pinned], laidTests := true, laidLooks := .later }
def LevelsRiseUptoCardSaid : Prop := Claim7.holds Tryz.pinned (.plain (OpenSpec.upto levelsRiseSpec)) levelsRiseUptoCard

/-- THE SECOND FORM's CARD OF 'rivermarklaw18.LevelBothIsBounded'. -/
def levelBothIsBoundedUptoCard : Claim7 := { stood := { row := levelBothIsBoundedUptoRow, standIns := [], harness := (true, "a017091f1136c68ceb75c580ed2f780b126347c4c86813705b08c911f55800ed"), looks := false }, kinds := [], alts := [], laidByText := true, laidKinds := [.data, .pinned], laidTests := true, laidLooks := .later }
def LevelBothIsBoundedUptoCardSaid : Prop := Claim7.holds Tryz.pinned (.plain (OpenSpec.upto levelBothIsBoundedSpec)) levelBothIsBoundedUptoCard

/-- THE SECOND FORM's CARD OF 'rivermarklaw18.LevelsSplit'. -/
def levelsSplitUptoCard : Claim7 := { stood := { row := levelsSplitUptoRow, standIns := [], harness := (true, "a017091f1136c68ceb75c580ed2f780b126347c4c86813705b08c911f55800ed"), looks := false }, kinds := [], alts := [], laidByText := true, laidKinds := [.data, .pinned], laidTests := true, laidLooks := .later }
def LevelsSplitUptoCardSaid : Prop := Claim7.holds Tryz.pinned (.plain (OpenSpec.upto levelsSplitSpec)) levelsSplitUptoCard

/-- THE SECOND FORM's CARD OF 'rivermarklaw18.LevelFitsTogether'. -/
def levelFitsTogetherUptoCard : Claim7 := { stood := { row := levelFitsTogetherUptoRow, standIns := [], harness := (true, "a017091f1136c68ceb75c580ed2f780b126347c4c86813705b08c911f55800ed"), looks := false }, kinds := [], alts := [], laidByText := true, laidKinds := [.data, .pinned], laidTests := true, laidLooks := .later }
def LevelFitsTogetherUptoCardSaid : Prop := Claim7.holds Tryz.pinned (.plain (OpenSpec.upto levelFitsTogetherSpec)) levelFitsTogetherUptoCard
end Rows
end Go.Proofs.YtomegmhiddbmbaaGreatDoor
