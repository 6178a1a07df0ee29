/-
  DERIVED. GIVEN WITH THE SEED: THE CARDS: each row of YtjlgleghnenojaaDoorRows.lean that lists a variable, with what it lists TIED to the program's text (the seventh form; the later family's looks); each row that meets fmt, with fmt's text TOLD by the authors' own Lean function (tested against real Go, not proved from fmt's source: count such statements apart). THE CARD IS WHAT COUNTS. Prove the row's statement (the work); the ties are given (YtjlgleghnenojaaDoorTie.lean); close each card by the builder's one call (the guide's Derived/Test/ToyasCard.lean, 'card_holds'). Laid BY PROGRAM, IN A SANDBOX (cutbox-door.mjs). By AI agents, Wed Nov 11 2026. No macro, syntax, notation, axiom, sorry.
-/
import Derived.Test.YtjlgleghnenojaaDoorRows
import GoSem.ClaimSeven
namespace Go.Proofs.YtjlgleghnenojaaDoor
namespace Rows

/-- THE TIED CARD OF 'rivermarklaw25.RetainByStages'. -/
def retainByStagesCard : Claim7 := { stood := { row := retainByStagesRow, standIns := [], harness := (true, "78f0d714be765af7f0ee803db760b49a3c3d3669df46d045db6b89659edfeb81"), looks := false }, kinds := [], alts := [], laidByText := true, laidKinds := [.data], laidTests := true, laidLooks := .later }
def RetainByStagesCardSaid : Prop := Claim7.holds Tryd.pinned (.plain (OpenSpec.ofChange retainByStagesSpec)) retainByStagesCard

/-- THE SECOND FORM's CARD OF 'rivermarklaw25.RetainByStages'. -/
def retainByStagesUptoCard : Claim7 := { stood := { row := retainByStagesUptoRow, standIns := [], harness := (true, "78f0d714be765af7f0ee803db760b49a3c3d3669df46d045db6b89659edfeb81"), looks := false }, kinds := [], alts := [], laidByText := true, laidKinds := [.data], laidTests := true, laidLooks := .later }
def RetainByStagesUptoCardSaid : Prop := Claim7.holds Tryd.pinned (.plain (OpenSpec.upto retainByStagesSpec)) retainByStagesUptoCard
end Rows
end Go.Proofs.YtjlgleghnenojaaDoor
