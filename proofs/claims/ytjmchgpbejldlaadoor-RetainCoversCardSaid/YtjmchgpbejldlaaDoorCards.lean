/-
  DERIVED. GIVEN WITH THE SEED: THE CARDS: each row of YtjmchgpbejldlaaDoorRows.lean that lists a variable, with what it lists TIED to the program's text (the seventh form; the later family's looks); each row that meets fmt, with fmt's text TOLD by the authors' own Lean function (tested against real Go, not proved from fmt's source: count such statements apart). THE CARD IS WHAT COUNTS. Prove the row's statement (the work); the ties are given (YtjmchgpbejldlaaDoorTie.lean); close each card by the builder's one call (the guide's Derived/Test/ToyasCard.lean, 'card_holds'). Laid BY PROGRAM, IN A SANDBOX (cutbox-door.mjs). By AI agents, Wed Nov 11 2026. No macro, syntax, notation, axiom, sorry.
-/
import Derived.Test.YtjmchgpbejldlaaDoorRows
import GoSem.ClaimSeven
namespace Go.Proofs.YtjmchgpbejldlaaDoor
namespace Rows

/-- THE TIED CARD OF 'rivermarklaw25.RetainIsAsSpecified'. -/
def retainIsAsSpecifiedCard : Claim7 := { stood := { row := retainIsAsSpecifiedRow, standIns := [], harness := (true, "fd272e74fc51095d07a1b3d76c22a6e2c455e1da203023d9e5945329b7d336e4"), looks := false }, kinds := [], alts := [], laidByText := true, laidKinds := [.data], laidTests := true, laidLooks := .later }
def RetainIsAsSpecifiedCardSaid : Prop := Claim7.holds Tryd.pinned (.plain (OpenSpec.ofChange retainIsAsSpecifiedSpec)) retainIsAsSpecifiedCard

/-- THE TIED CARD OF 'rivermarklaw25.RetainCovers'. -/
def retainCoversCard : Claim7 := { stood := { row := retainCoversRow, standIns := [], harness := (true, "fd272e74fc51095d07a1b3d76c22a6e2c455e1da203023d9e5945329b7d336e4"), looks := false }, kinds := [], alts := [], laidByText := true, laidKinds := [.data], laidTests := true, laidLooks := .later }
def RetainCoversCardSaid : Prop := Claim7.holds Tryd.pinned (.plain (OpenSpec.ofChange retainCoversSpec)) retainCoversCard

/-- THE SECOND FORM's CARD OF 'rivermarklaw25.RetainIsAsSpecified'. -/
def retainIsAsSpecifiedUptoCard : Claim7 := { stood := { row := retainIsAsSpecifiedUptoRow, standIns := [], harness := (true, "fd272e74fc51095d07a1b3d76c22a6e2c455e1da203023d9e5945329b7d336e4"), looks := false }, kinds := [], alts := [], laidByText := true, laidKinds := [.data], laidTests := true, laidLooks := .later }
def RetainIsAsSpecifiedUptoCardSaid : Prop := Claim7.holds Tryd.pinned (.plain (OpenSpec.upto retainIsAsSpecifiedSpec)) retainIsAsSpecifiedUptoCard

/-- THE SECOND FORM's CARD OF 'rivermarklaw25.RetainCovers'. -/
def retainCoversUptoCard : Claim7 := { stood := { row := retainCoversUptoRow, standIns := [], harness := (true, "fd272e74fc51095d07a1b3d76c22a6e2c455e1da203023d9e5945329b7d336e4"), looks := false }, kinds := [], alts := [], laidByText := true, laidKinds := [.data], laidTests := true, laidLooks := .later }
def RetainCoversUptoCardSaid : Prop := Claim7.holds Tryd.pinned (.plain (OpenSpec.upto retainCoversSpec)) retainCoversUptoCard
end Rows
end Go.Proofs.YtjmchgpbejldlaaDoor
