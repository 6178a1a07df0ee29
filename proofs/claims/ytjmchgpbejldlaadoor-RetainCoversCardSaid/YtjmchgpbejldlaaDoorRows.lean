/-
  NARROWER THAN 'FOR EVERY INPUT', by the rows' own cells (each row's printed sentence says how): RetainIsAsSpecified: laid · RetainCovers: laid.
  DERIVED. THE GIVEN ROWS OF THIS SEAT. 2 by the template 'for every input the law returns true; each argument reads behind the call as it read before'; 0 by the template 'total and deterministic' (their statements: YtjmchgpbejldlaaDoorTotals.lean).
  GIVEN WITH THE SEED: the statements are not yours to turn. If you find one false, say at which input.
  Laid BY PROGRAM, IN A SANDBOX (cutbox-rows.mjs): the forced cells as the released guide's own fill.sh prints them over the translation f3449f6b6bb66794… (all of the seat's roots in one cut). By AI agents, Wed Nov 11 2026. No macro, syntax, notation, axiom, sorry.
-/
import Derived.Test.YtjmchgpbejldlaaDoorChecked
import GoSem.Claim
import GoSem.ClaimJoined
import GoSem.ClaimMapViews
import Derived.JoinedTies
import Derived.KernelRfl
namespace Go.Proofs.YtjmchgpbejldlaaDoor
/- THE CELL 'sum', in the pinned program and in every row, IS THE sha256 OF THE DUMP (.gsa) THAT YtjmchgpbejldlaaDoorProg.lean LOADS. Nothing in Lean hashes anything: it is a label: what it is worth is what the hold of that sum in a sandbox is worth. -/
noncomputable def Tryd.pinned : Pinned := { name := "ytjmchgpbejldlaadoor", sum := "f3449f6b6bb6679444c6dfa5ecace0e2c4d49039dab6cf24650dd3f599ac35f6", checked := Tryd.checked }
namespace Rows
def none {H : Type} : Left H := { results := [], args := [] }

/- WHAT THE LISTED PACKAGE-LEVEL VARIABLES READ AS WHEN THE CALL BEGINS. Each datum BY PROGRAM (the guide's laid-datum.mjs) off the statement by which the dump's own 'gosem.cut.vars' lays the variable. In a bare row this is a premise. The card (YtjmchgpbejldlaaDoorCards.lean) ties it to the program's text. -/
def laid_rivermark_calendar_lengths {H : Type} : DataW H := .agg [.lit (.int .i64 31), .lit (.int .i64 28), .lit (.int .i64 31), .lit (.int .i64 30), .lit (.int .i64 31), .lit (.int .i64 30), .lit (.int .i64 31), .lit (.int .i64 31), .lit (.int .i64 30), .lit (.int .i64 31), .lit (.int .i64 30), .lit (.int .i64 31)]

/-- 'rivermarklaw25.RetainIsAsSpecified': WHATEVER THE INPUT: true; the input reads as it did. -/
def retainIsAsSpecifiedSpec : ChangeSpec := { name := "retainIsAsSpecified", fn := fun _ => fun
  | [d1, d2, d3] => { results := [.lit (.bool true)], args := [d1, d2, d3] }
  | _ => none }
def retainIsAsSpecifiedRow : OpenClaim := { program := "ytjmchgpbejldlaadoor", sum := "f3449f6b6bb6679444c6dfa5ecace0e2c4d49039dab6cf24650dd3f599ac35f6", func := "rivermark/rivermarklaw25.RetainIsAsSpecified", spec := "retainIsAsSpecified", unfollowed := true, recurses := true, named := ["rivermark/calendar.lengths"], apart := false, laid := [("rivermark/calendar.lengths", laid_rivermark_calendar_lengths)] }
def RetainIsAsSpecifiedSaid : Prop := retainIsAsSpecifiedRow.holds Tryd.pinned (OpenSpec.ofChange retainIsAsSpecifiedSpec)

/-- ITS FALSE NEIGHBOUR: 'it returns false'. Refute it at one input. -/
def retainIsAsSpecifiedWrong : ChangeSpec := { name := "retainIsAsSpecified", fn := fun _ => fun
  | [d1, d2, d3] => { results := [.lit (.bool false)], args := [d1, d2, d3] }
  | _ => none }
def RetainIsAsSpecifiedWrongFalsely : Prop := retainIsAsSpecifiedRow.holds Tryd.pinned (OpenSpec.ofChange retainIsAsSpecifiedWrong)

/-- 'rivermarklaw25.RetainCovers': WHATEVER THE INPUT: true; the input reads as it did. -/
def retainCoversSpec : ChangeSpec := { name := "retainCovers", fn := fun _ => fun
  | [d1, d2, d3] => { results := [.lit (.bool true)], args := [d1, d2, d3] }
  | _ => none }
def retainCoversRow : OpenClaim := { program := "ytjmchgpbejldlaadoor", sum := "f3449f6b6bb6679444c6dfa5ecace0e2c4d49039dab6cf24650dd3f599ac35f6", func := "rivermark/rivermarklaw25.RetainCovers", spec := "retainCovers", unfollowed := true, recurses := true, named := ["rivermark/calendar.lengths"], apart := false, laid := [("rivermark/calendar.lengths", laid_rivermark_calendar_lengths)] }
def RetainCoversSaid : Prop := retainCoversRow.holds Tryd.pinned (OpenSpec.ofChange retainCoversSpec)

/-- ITS FALSE NEIGHBOUR: 'it returns false'. Refute it at one input. -/
def retainCoversWrong : ChangeSpec := { name := "retainCovers", fn := fun _ => fun
  | [d1, d2, d3] => { results := [.lit (.bool false)], args := [d1, d2, d3] }
  | _ => none }
def RetainCoversWrongFalsely : Prop := retainCoversRow.holds Tryd.pinned (OpenSpec.ofChange retainCoversWrong)

/- THE SECOND FORM. 'bulk': how many values and letters a reading holds, each counted each time it is reached (what is shared counts as often as it is met; a slice's spare places count too). A statement '..UptoSaid' is the law's where the arguments, and the package variables that the reading takes, are together of bulk at most 1048576: NARROWER than '..Said'. Prove '..Said' where nothing that the law and all that it calls make is longer than what came in: it says more and counts as full. Else prove '..UptoSaid'. A law counts once. -/
mutual
def uptoBulk {H : Type} : DataW H → Nat
  | .lit (.string bytes) => bytes.length + 1
  | .lit _ => 1
  | .nil => 1
  | .ptr d => uptoBulk d + 1
  | .slice elems spare => uptoBulkAll elems + uptoBulkAll spare + 1
  | .agg parts => uptoBulkAll parts + 1
  | .iface _ d => uptoBulk d + 1
  | .map entries => uptoBulkEntries entries + 1
  | .held _ => 1
def uptoBulkAll {H : Type} : List (DataW H) → Nat
  | [] => 0
  | d :: r => uptoBulk d + uptoBulkAll r
def uptoBulkEntries {H : Type} : List (Lit × DataW H) → Nat
  | [] => 0
  | x :: r => uptoBulkEntry x + uptoBulkEntries r
def uptoBulkEntry {H : Type} : Lit × DataW H → Nat
  | (.string bytes, d) => bytes.length + uptoBulk d + 1
  | (_, d) => uptoBulk d + 1
 end
def uptoSmall : (H : Type) → List (DataW H) → Bool := fun _ ds => decide (uptoBulkAll ds ≤ 1048576)
def OpenSpec.upto (s : _root_.Go.ChangeSpec) : _root_.Go.OpenSpec := { _root_.Go.OpenSpec.ofChange s with cond := some uptoSmall }

/-- 'rivermarklaw25.RetainIsAsSpecified', WHERE WHAT IT READS IS OF BULK AT MOST 1048576: true; the input reads as it did. -/
def retainIsAsSpecifiedUptoRow : OpenClaim := { program := "ytjmchgpbejldlaadoor", sum := "f3449f6b6bb6679444c6dfa5ecace0e2c4d49039dab6cf24650dd3f599ac35f6", func := "rivermark/rivermarklaw25.RetainIsAsSpecified", spec := "retainIsAsSpecified", unfollowed := true, recurses := true, named := ["rivermark/calendar.lengths"], apart := false, laid := [("rivermark/calendar.lengths", laid_rivermark_calendar_lengths)], narrowed := true }
def RetainIsAsSpecifiedUptoSaid : Prop := retainIsAsSpecifiedUptoRow.holds Tryd.pinned (OpenSpec.upto retainIsAsSpecifiedSpec)

/-- 'rivermarklaw25.RetainCovers', WHERE WHAT IT READS IS OF BULK AT MOST 1048576: true; the input reads as it did. -/
def retainCoversUptoRow : OpenClaim := { program := "ytjmchgpbejldlaadoor", sum := "f3449f6b6bb6679444c6dfa5ecace0e2c4d49039dab6cf24650dd3f599ac35f6", func := "rivermark/rivermarklaw25.RetainCovers", spec := "retainCovers", unfollowed := true, recurses := true, named := ["rivermark/calendar.lengths"], apart := false, laid := [("rivermark/calendar.lengths", laid_rivermark_calendar_lengths)], narrowed := true }
def RetainCoversUptoSaid : Prop := retainCoversUptoRow.holds Tryd.pinned (OpenSpec.upto retainCoversSpec)

end Rows
end Go.Proofs.YtjmchgpbejldlaaDoor
