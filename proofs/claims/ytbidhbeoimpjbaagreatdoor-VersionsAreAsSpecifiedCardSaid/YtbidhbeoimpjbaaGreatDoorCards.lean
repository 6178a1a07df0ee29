/-
  DERIVED. GIVEN WITH THE SEED: THE CARDS: each row of YtbidhbeoimpjbaaGreatDoorRows.lean that lists a variable, with what it lists TIED to the program's text (the seventh form; the later family's looks); each row that meets fmt, with fmt's text TOLD by the authors' own Lean function (tested against real Go, not proved from fmt's source: count such statements apart). THE CARD IS WHAT COUNTS. Prove the row's statement (the work); the ties are given (YtbidhbeoimpjbaaGreatDoorTie.lean); close each card by the builder's one call (the guide's Derived/Test/ToyasCard.lean, 'card_holds'). Laid BY PROGRAM, IN A SANDBOX (cutbox-door.mjs). By AI agents, Wed Nov 11 2026. No macro, syntax, notation, axiom, sorry.
-/
import Derived.Test.YtbidhbeoimpjbaaGreatDoorRows
import GoSem.ClaimSeven
namespace Go.Proofs.YtbidhbeoimpjbaaGreatDoor
namespace Rows

/-- THE TIED CARD OF 'rivermarklaw14.VersionsAreAsSpecified'. -/
def versionsAreAsSpecifiedCard : Claim7 := { stood := { row := versionsAreAsSpecifiedRow, standIns := [], harness := (true, "5c3a8e4aad9402fe2a1416279574259102a03501028b6bb8e09be3e52e9ee005"), looks := false }, kinds := [], alts := [], laidByText := true, laidKinds := [.data, .pinned], laidTests := true, laidLooks := .later }
def VersionsAreAsSpecifiedCardSaid : Prop := Claim7.holds Tryz.pinned (.plain (OpenSpec.ofChange versionsAreAsSpecifiedSpec)) versionsAreAsSpecifiedCard

/-- THE TIED CARD OF 'rivermarklaw14.VersionSpansAsSpecified'. -/
def versionSpansAsSpecifiedCard : Claim7 := { stood := { row := versionSpansAsSpecifiedRow, standIns := [], harness := (true, "5c3a8e4aad9402fe2a1416279574259102a03501028b6bb8e09be3e52e9ee005"), looks := false }, kinds := [], alts := [], laidByText := true, laidKinds := [.data, .pinned], laidTests := true, laidLooks := .later }
def VersionSpansAsSpecifiedCardSaid : Prop := Claim7.holds Tryz.pinned (.plain (OpenSpec.ofChange versionSpansAsSpecifiedSpec)) versionSpansAsSpecifiedCard

/-- THE TIED CARD OF 'rivermarklaw14.VersionsForgetOrder'. -/
def versionsForgetOrderCard : Claim7 := { stood := { row := versionsForgetOrderRow, standIns := [], harness := (true, "5c3a8e4aad9402fe2a1416279574259102a03501028b6bb8e09be3e52e9ee005"), looks := false }, kinds := [], alts := [], laidByText := true, laidKinds := [.data, .pinned], laidTests := true, laidLooks := .later }
def VersionsForgetOrderCardSaid : Prop := Claim7.holds Tryz.pinned (.plain (OpenSpec.ofChange versionsForgetOrderSpec)) versionsForgetOrderCard

/-- THE TIED CARD OF 'rivermarklaw14.VersionsKnowTwoTimes'. -/
def versionsKnowTwoTimesCard : Claim7 := { stood := { row := versionsKnowTwoTimesRow, standIns := [], harness := (true, "5c3a8e4aad9402fe2a1416279574259102a03501028b6bb8e09be3e52e9ee005"), looks := false }, kinds := [], alts := [], laidByText := true, laidKinds := [.data, .pinned], laidTests := true, laidLooks := .later }
def VersionsKnowTwoTimesCardSaid : Prop := Claim7.holds Tryz.pinned (.plain (OpenSpec.ofChange versionsKnowTwoTimesSpec)) versionsKnowTwoTimesCard

/-- THE TIED CARD OF 'rivermarklaw14.VersionSpansCover'. -/
def versionSpansCoverCard : Claim7 := { stood := { row := versionSpansCoverRow, standIns := [], harness := (true, "5c3a8e4aad9402fe2a1416279574259102a03501028b6bb8e09be3e52e9ee005"), looks := false }, kinds := [], alts := [], laidByText := true, laidKinds := [.data, .pinned], laidTests := true, laidLooks := .later }
def VersionSpansCoverCardSaid : Prop := Claim7.holds Tryz.pinned (.plain (OpenSpec.ofChange versionSpansCoverSpec)) versionSpansCoverCard

/-- THE TIED CARD OF 'rivermarklaw14.VersionChangesExactly'. -/
def versionChangesExactlyCard : Claim7 := { stood := { row := versionChangesExactlyRow, standIns := [], harness := (true, "5c3a8e4aad9402fe2a1416279574259102a03501028b6bb8e09be3e52e9ee005"), looks := false }, kinds := [], alts := [], laidByText := true, laidKinds := [.data, .pinned], laidTests := true, laidLooks := .later }
def VersionChangesExactlyCardSaid : Prop := Claim7.holds Tryz.pinned (.plain (OpenSpec.ofChange versionChangesExactlySpec)) versionChangesExactlyCard

/-- THE SECOND FORM's CARD OF 'rivermarklaw14.VersionsAreAsSpecified'. -/
def versionsAreAsSpecifiedUptoCard : Claim7 := { stood := { row := versionsAreAsSpecifiedUptoRow, standIns := [], harness := (true, "5c3a8e4aad9402fe2a1416279574259102a03501028b6bb8e09be3e52e9ee005"), looks := false }, kinds := [], alts := [], laidByText := true, laidKinds := [.data, .pinned], laidTests := true, laidLooks := .later }
def VersionsAreAsSpecifiedUptoCardSaid : Prop := Claim7.holds Tryz.pinned (.plain (OpenSpec.upto versionsAreAsSpecifiedSpec)) versionsAreAsSpecifiedUptoCard

/-- THE SECOND FORM's CARD OF 'rivermarklaw14.VersionSpansAsSpecified'. -/
def versionSpansAsSpecifiedUptoCard : Claim7 := { stood := { row := versionSpansAsSpecifiedUptoRow, standIns := [], harness := (true, "5c3a8e4aad9402fe2a1416279574259102a03501028b6bb8e09be3e52e9ee005"), looks := false }, kinds := [], alts := [], laidByText := true, laidKinds := [.data, .pinned], laidTests := true, laidLooks := .later }
def VersionSpansAsSpecifiedUptoCardSaid : Prop := Claim7.holds Tryz.pinned (.plain (OpenSpec.upto versionSpansAsSpecifiedSpec)) versionSpansAsSpecifiedUptoCard

/-- THE SECOND FORM's CARD OF 'rivermarklaw14.VersionsForgetOrder'. -/
def versionsForgetOrderUptoCard : Claim7 := { stood := { row := versionsForgetOrderUptoRow, standIns := [], harness := (true, "5c3a8e4aad9402fe2a1416279574259102a03501028b6bb8e09be3e52e9ee005"), looks := false }, kinds := [], alts := [], laidByText := true, laidKinds := [.data, .pinned], laidTests := true, laidLooks := .later }
def VersionsForgetOrderUptoCardSaid : Prop := Claim7.holds Tryz.pinned (.plain (OpenSpec.upto versionsForgetOrderSpec)) versionsForgetOrderUptoCard

/-- THE SECOND FORM's CARD OF 'rivermarklaw14.VersionsKnowTwoTimes'. -/
def versionsKnowTwoTimesUptoCard : Claim7 := { stood := { row := versionsKnowTwoTimesUptoRow, standIns := [], harness := (true, "5c3a8e4aad9402fe2a1416279574259102a03501028b6bb8e09be3e52e9ee005"), looks := false }, kinds := [], alts := [], laidByText := true, laidKinds := [.data, .pinned], laidTests := true, laidLooks := .later }
def VersionsKnowTwoTimesUptoCardSaid : Prop := Claim7.holds Tryz.pinned (.plain (OpenSpec.upto versionsKnowTwoTimesSpec)) versionsKnowTwoTimesUptoCard

/-- THE SECOND FORM's CARD OF 'rivermarklaw14.VersionSpansCover'. -/
def versionSpansCoverUptoCard : Claim7 := { stood := { row := versionSpansCoverUptoRow, standIns := [], harness := (true, "5c3a8e4aad9402fe2a1416279574259102a03501028b6bb8e09be3e52e9ee005"), looks := false }, kinds := [], alts := [], laidByText := true, laidKinds := [.data, .pinned], laidTests := true, laidLooks := .later }
def VersionSpansCoverUptoCardSaid : Prop := Claim7.holds Tryz.pinned (.plain (OpenSpec.upto versionSpansCoverSpec)) versionSpansCoverUptoCard

/-- THE SECOND FORM's CARD OF 'rivermarklaw14.VersionChangesExactly'. -/
def versionChangesExactlyUptoCard : Claim7 := { stood := { row := versionChangesExactlyUptoRow, standIns := [], harness := (true, "5c3a8e4aad9402fe2a1416279574259102a03501028b6bb8e09be3e52e9ee005"), looks := false }, kinds := [], alts := [], laidByText := true, laidKinds := [.data, .pinned], laidTests := true, laidLooks := .later }
def VersionChangesExactlyUptoCardSaid : Prop := Claim7.holds Tryz.pinned (.plain (OpenSpec.upto versionChangesExactlySpec)) versionChangesExactlyUptoCard
end Rows
end Go.Proofs.YtbidhbeoimpjbaaGreatDoor
