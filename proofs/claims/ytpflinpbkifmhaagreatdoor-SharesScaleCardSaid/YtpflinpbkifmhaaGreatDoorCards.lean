/-
  DERIVED. GIVEN WITH THE SEED: THE CARDS: each row of YtpflinpbkifmhaaGreatDoorRows.lean that lists a variable, with what it lists TIED to the program's text (the seventh form; the later family's looks); each row that meets fmt, with fmt's text TOLD by the authors' own Lean function (tested against real Go, not proved from fmt's source: count such statements apart). THE CARD IS WHAT COUNTS. Prove the row's statement (the work); the ties are given (YtpflinpbkifmhaaGreatDoorTie.lean); close each card by the builder's one call (the guide's Derived/Test/ToyasCard.lean, 'card_holds'). Laid BY PROGRAM, IN A SANDBOX (cutbox-door.mjs). By AI agents, Wed Nov 11 2026. No macro, syntax, notation, axiom, sorry.
-/
import Derived.Test.YtpflinpbkifmhaaGreatDoorRows
import GoSem.ClaimSeven
namespace Go.Proofs.YtpflinpbkifmhaaGreatDoor
namespace Rows

/-- THE TIED CARD OF 'rivermarklaw40.SharesAreAsSpecified'. -/
def sharesAreAsSpecifiedCard : Claim7 := { stood := { row := sharesAreAsSpecifiedRow, standIns := [], harness := (true, "b6298957575fe1e11e3dbef9ffd9e3a2b5bdda64c222ed20783b5db8f84ebd30"), looks := false }, kinds := [], alts := [], laidByText := true, laidKinds := [.data, .pinned], laidTests := true, laidLooks := .later }
def SharesAreAsSpecifiedCardSaid : Prop := Claim7.holds Tryz.pinned (.plain (OpenSpec.ofChange sharesAreAsSpecifiedSpec)) sharesAreAsSpecifiedCard

/-- THE TIED CARD OF 'rivermarklaw40.SharesAddUp'. -/
def sharesAddUpCard : Claim7 := { stood := { row := sharesAddUpRow, standIns := [], harness := (true, "b6298957575fe1e11e3dbef9ffd9e3a2b5bdda64c222ed20783b5db8f84ebd30"), looks := false }, kinds := [], alts := [], laidByText := true, laidKinds := [.data, .pinned], laidTests := true, laidLooks := .later }
def SharesAddUpCardSaid : Prop := Claim7.holds Tryz.pinned (.plain (OpenSpec.ofChange sharesAddUpSpec)) sharesAddUpCard

/-- THE TIED CARD OF 'rivermarklaw40.SharesAreUnique'. -/
def sharesAreUniqueCard : Claim7 := { stood := { row := sharesAreUniqueRow, standIns := [], harness := (true, "b6298957575fe1e11e3dbef9ffd9e3a2b5bdda64c222ed20783b5db8f84ebd30"), looks := false }, kinds := [], alts := [], laidByText := true, laidKinds := [.data, .pinned], laidTests := true, laidLooks := .later }
def SharesAreUniqueCardSaid : Prop := Claim7.holds Tryz.pinned (.plain (OpenSpec.ofChange sharesAreUniqueSpec)) sharesAreUniqueCard

/-- THE TIED CARD OF 'rivermarklaw40.SharesScale'. -/
def sharesScaleCard : Claim7 := { stood := { row := sharesScaleRow, standIns := [], harness := (true, "b6298957575fe1e11e3dbef9ffd9e3a2b5bdda64c222ed20783b5db8f84ebd30"), looks := false }, kinds := [], alts := [], laidByText := true, laidKinds := [.data, .pinned], laidTests := true, laidLooks := .later }
def SharesScaleCardSaid : Prop := Claim7.holds Tryz.pinned (.plain (OpenSpec.ofChange sharesScaleSpec)) sharesScaleCard

/-- THE TIED CARD OF 'rivermarklaw40.SharesAreConsistent'. -/
def sharesAreConsistentCard : Claim7 := { stood := { row := sharesAreConsistentRow, standIns := [], harness := (true, "b6298957575fe1e11e3dbef9ffd9e3a2b5bdda64c222ed20783b5db8f84ebd30"), looks := false }, kinds := [], alts := [], laidByText := true, laidKinds := [.data, .pinned], laidTests := true, laidLooks := .later }
def SharesAreConsistentCardSaid : Prop := Claim7.holds Tryz.pinned (.plain (OpenSpec.ofChange sharesAreConsistentSpec)) sharesAreConsistentCard

/-- THE SECOND FORM's CARD OF 'rivermarklaw40.SharesAreAsSpecified'. -/
def sharesAreAsSpecifiedUptoCard : Claim7 := { stood := { row := sharesAreAsSpecifiedUptoRow, standIns := [], harness := (true, "b6298957575fe1e11e3dbef9ffd9e3a2b5bdda64c222ed20783b5db8f84ebd30"), looks := false }, kinds := [], alts := [], laidByText := true, laidKinds := [.data, .pinned], laidTests := true, laidLooks := .later }
def SharesAreAsSpecifiedUptoCardSaid : Prop := Claim7.holds Tryz.pinned (.plain (OpenSpec.upto sharesAreAsSpecifiedSpec)) sharesAreAsSpecifiedUptoCard

/-- THE SECOND FORM's CARD OF 'rivermarklaw40.SharesAddUp'. -/
def sharesAddUpUptoCard : Claim7 := { stood := { row := sharesAddUpUptoRow, standIns := [], harness := (true, "b6298957575fe1e11e3dbef9ffd9e3a2b5bdda64c222ed20783b5db8f84ebd30"), looks := false }, kinds := [], alts := [], laidByText := true, laidKinds := [.data, .pinned], laidTests := true, laidLooks := .later }
def SharesAddUpUptoCardSaid : Prop := Claim7.holds Tryz.pinned (.plain (OpenSpec.upto sharesAddUpSpec)) sharesAddUpUptoCard

/-- THE SECOND FORM's CARD OF 'rivermarklaw40.SharesAreUnique'. -/
def sharesAreUniqueUptoCard : Claim7 := { stood := { row := sharesAreUniqueUptoRow, standIns := [], harness := (true, "b6298957575fe1e11e3dbef9ffd9e3a2b5bdda64c222ed20783b5db8f84ebd30"), looks := false }, kinds := [], alts := [], laidByText := true, laidKinds := [.data, .pinned], laidTests := true, laidLooks := .later }
def SharesAreUniqueUptoCardSaid : Prop := Claim7.holds Tryz.pinned (.plain (OpenSpec.upto sharesAreUniqueSpec)) sharesAreUniqueUptoCard

/-- THE SECOND FORM's CARD OF 'rivermarklaw40.SharesScale'. -/
def sharesScaleUptoCard : Claim7 := { stood := { row := sharesScaleUptoRow, standIns := [], harness := (true, "b6298957575fe1e11e3dbef9ffd9e3a2b5bdda64c222ed20783b5db8f84ebd30"), looks := false }, kinds := [], alts := [], laidByText := true, laidKinds := [.data, .pinned], laidTests := true, laidLooks := .later }
def SharesScaleUptoCardSaid : Prop := Claim7.holds Tryz.pinned (.plain (OpenSpec.upto sharesScaleSpec)) sharesScaleUptoCard

/-- THE SECOND FORM's CARD OF 'rivermarklaw40.SharesAreConsistent'. -/
def sharesAreConsistentUptoCard : Claim7 := { stood := { row := sharesAreConsistentUptoRow, standIns := [], harness := (true, "b6298957575fe1e11e3dbef9ffd9e3a2b5bdda64c222ed20783b5db8f84ebd30"), looks := false }, kinds := [], alts := [], laidByText := true, laidKinds := [.data, .pinned], laidTests := true, laidLooks := .later }
def SharesAreConsistentUptoCardSaid : Prop := Claim7.holds Tryz.pinned (.plain (OpenSpec.upto sharesAreConsistentSpec)) sharesAreConsistentUptoCard
end Rows
end Go.Proofs.YtpflinpbkifmhaaGreatDoor
