/-
  NARROWER THAN 'FOR EVERY INPUT', by the rows' own cells (each row's printed sentence says how): VersionsAreAsSpecified: laid · VersionSpansAsSpecified: laid · VersionsForgetOrder: laid · VersionsKnowTwoTimes: laid · VersionSpansCover: laid · VersionChangesExactly: laid.
  DERIVED. THE GIVEN ROWS OF THIS SEAT. 6 by the template 'for every input the law returns true; each argument reads behind the call as it read before'; 0 by the template 'total and deterministic' (their statements: YtbidhbeoimpjbaaGreatDoorTotals.lean).
  GIVEN WITH THE SEED: the statements are not yours to turn. If you find one false, say at which input.
  Laid BY PROGRAM, IN A SANDBOX (cutbox-rows.mjs): the forced cells as the released guide's own fill.sh prints them over the translation a65647b2e009566a… (all of the seat's roots in one cut). By AI agents, Wed Nov 11 2026. No macro, syntax, notation, axiom, sorry.
-/
import Derived.Test.YtbidhbeoimpjbaaGreatDoorChecked
import GoSem.PinnedTables
import GoSem.Claim
import GoSem.ClaimJoined
import GoSem.ClaimMapViews
import Derived.JoinedTies
import Derived.KernelRfl
namespace Go.Proofs.YtbidhbeoimpjbaaGreatDoor
/- THE CELL 'sum', in the pinned program and in every row, IS THE sha256 OF THE DUMP (.gsa) THAT YtbidhbeoimpjbaaGreatDoorProg.lean LOADS. Nothing in Lean hashes anything: it is a label: what it is worth is what the hold of that sum in a sandbox is worth. -/
noncomputable def Tryz.pinned : Pinned := { name := "ytbidhbeoimpjbaagreatdoor", sum := "a65647b2e009566aa4365e2c47adde510bab51e6892d8444966db015cad9271d", checked := Tryz.checked }
namespace Rows
def none {H : Type} : Left H := { results := [], args := [] }

/- WHAT THE LISTED PACKAGE-LEVEL VARIABLES READ AS WHEN THE CALL BEGINS. Each datum BY PROGRAM (the guide's laid-datum.mjs) off the statement by which the dump's own 'gosem.cut.vars' lays the variable. In a bare row this is a premise. The card (YtbidhbeoimpjbaaGreatDoorCards.lean) ties it to the program's text. -/
def laid_unicode_utf8_acceptRanges {H : Type} : DataW H := .agg [.agg [.lit (.int .u8 128), .lit (.int .u8 191)], .agg [.lit (.int .u8 160), .lit (.int .u8 191)], .agg [.lit (.int .u8 128), .lit (.int .u8 159)], .agg [.lit (.int .u8 144), .lit (.int .u8 191)], .agg [.lit (.int .u8 128), .lit (.int .u8 143)], .agg [.lit (.int .u8 0), .lit (.int .u8 0)], .agg [.lit (.int .u8 0), .lit (.int .u8 0)], .agg [.lit (.int .u8 0), .lit (.int .u8 0)], .agg [.lit (.int .u8 0), .lit (.int .u8 0)], .agg [.lit (.int .u8 0), .lit (.int .u8 0)], .agg [.lit (.int .u8 0), .lit (.int .u8 0)], .agg [.lit (.int .u8 0), .lit (.int .u8 0)], .agg [.lit (.int .u8 0), .lit (.int .u8 0)], .agg [.lit (.int .u8 0), .lit (.int .u8 0)], .agg [.lit (.int .u8 0), .lit (.int .u8 0)], .agg [.lit (.int .u8 0), .lit (.int .u8 0)]]
/-- One of Go's own tables, pinned by name: the form's constant. -/
def laid_unicode_utf8_first : DataW Unit := Go.Pinned.utf8First

/-- 'rivermarklaw14.VersionsAreAsSpecified': WHATEVER THE INPUT: true; the input reads as it did. -/
def versionsAreAsSpecifiedSpec : ChangeSpec := { name := "versionsAreAsSpecified", fn := fun _ => fun
  | [d1, d2, d3, d4] => { results := [.lit (.bool true)], args := [d1, d2, d3, d4] }
  | _ => none }
def versionsAreAsSpecifiedRow : OpenClaim := { program := "ytbidhbeoimpjbaagreatdoor", sum := "a65647b2e009566aa4365e2c47adde510bab51e6892d8444966db015cad9271d", func := "rivermark/rivermarklaw14.VersionsAreAsSpecified", spec := "versionsAreAsSpecified", inPlace := ["internal/bytealg.IndexByteString", "internal/bytealg.IndexString", "slices.overlaps[rivermark/api.Version]"], unfollowed := true, recurses := true, named := ["unicode/utf8.first", "unicode/utf8.acceptRanges", "internal/bytealg.MaxLen"], apart := false, laid := [("unicode/utf8.acceptRanges", laid_unicode_utf8_acceptRanges), ("unicode/utf8.first", laid_unicode_utf8_first)] }
def VersionsAreAsSpecifiedSaid : Prop := versionsAreAsSpecifiedRow.holds Tryz.pinned (OpenSpec.ofChange versionsAreAsSpecifiedSpec)

/-- ITS FALSE NEIGHBOUR: 'it returns false'. Refute it at one input. -/
def versionsAreAsSpecifiedWrong : ChangeSpec := { name := "versionsAreAsSpecified", fn := fun _ => fun
  | [d1, d2, d3, d4] => { results := [.lit (.bool false)], args := [d1, d2, d3, d4] }
  | _ => none }
def VersionsAreAsSpecifiedWrongFalsely : Prop := versionsAreAsSpecifiedRow.holds Tryz.pinned (OpenSpec.ofChange versionsAreAsSpecifiedWrong)

/-- 'rivermarklaw14.VersionSpansAsSpecified': WHATEVER THE INPUT: true; the input reads as it did. -/
def versionSpansAsSpecifiedSpec : ChangeSpec := { name := "versionSpansAsSpecified", fn := fun _ => fun
  | [d1, d2, d3] => { results := [.lit (.bool true)], args := [d1, d2, d3] }
  | _ => none }
def versionSpansAsSpecifiedRow : OpenClaim := { program := "ytbidhbeoimpjbaagreatdoor", sum := "a65647b2e009566aa4365e2c47adde510bab51e6892d8444966db015cad9271d", func := "rivermark/rivermarklaw14.VersionSpansAsSpecified", spec := "versionSpansAsSpecified", inPlace := ["internal/bytealg.IndexByteString", "internal/bytealg.IndexString", "slices.overlaps[rivermark/api.Version]"], unfollowed := true, recurses := true, named := ["unicode/utf8.first", "unicode/utf8.acceptRanges", "internal/bytealg.MaxLen"], apart := false, laid := [("unicode/utf8.acceptRanges", laid_unicode_utf8_acceptRanges), ("unicode/utf8.first", laid_unicode_utf8_first)] }
def VersionSpansAsSpecifiedSaid : Prop := versionSpansAsSpecifiedRow.holds Tryz.pinned (OpenSpec.ofChange versionSpansAsSpecifiedSpec)

/-- ITS FALSE NEIGHBOUR: 'it returns false'. Refute it at one input. -/
def versionSpansAsSpecifiedWrong : ChangeSpec := { name := "versionSpansAsSpecified", fn := fun _ => fun
  | [d1, d2, d3] => { results := [.lit (.bool false)], args := [d1, d2, d3] }
  | _ => none }
def VersionSpansAsSpecifiedWrongFalsely : Prop := versionSpansAsSpecifiedRow.holds Tryz.pinned (OpenSpec.ofChange versionSpansAsSpecifiedWrong)

/-- 'rivermarklaw14.VersionsForgetOrder': WHATEVER THE INPUT: true; the input reads as it did. -/
def versionsForgetOrderSpec : ChangeSpec := { name := "versionsForgetOrder", fn := fun _ => fun
  | [d1, d2] => { results := [.lit (.bool true)], args := [d1, d2] }
  | _ => none }
def versionsForgetOrderRow : OpenClaim := { program := "ytbidhbeoimpjbaagreatdoor", sum := "a65647b2e009566aa4365e2c47adde510bab51e6892d8444966db015cad9271d", func := "rivermark/rivermarklaw14.VersionsForgetOrder", spec := "versionsForgetOrder", inPlace := ["internal/bytealg.IndexByteString", "internal/bytealg.IndexString", "slices.overlaps[rivermark/api.Version]"], unfollowed := true, recurses := true, named := ["unicode/utf8.first", "unicode/utf8.acceptRanges", "internal/bytealg.MaxLen"], apart := false, laid := [("unicode/utf8.acceptRanges", laid_unicode_utf8_acceptRanges), ("unicode/utf8.first", laid_unicode_utf8_first)] }
def VersionsForgetOrderSaid : Prop := versionsForgetOrderRow.holds Tryz.pinned (OpenSpec.ofChange versionsForgetOrderSpec)

/-- ITS FALSE NEIGHBOUR: 'it returns false'. Refute it at one input. -/
def versionsForgetOrderWrong : ChangeSpec := { name := "versionsForgetOrder", fn := fun _ => fun
  | [d1, d2] => { results := [.lit (.bool false)], args := [d1, d2] }
  | _ => none }
def VersionsForgetOrderWrongFalsely : Prop := versionsForgetOrderRow.holds Tryz.pinned (OpenSpec.ofChange versionsForgetOrderWrong)

/-- 'rivermarklaw14.VersionsKnowTwoTimes': WHATEVER THE INPUT: true; the input reads as it did. -/
def versionsKnowTwoTimesSpec : ChangeSpec := { name := "versionsKnowTwoTimes", fn := fun _ => fun
  | [d1, d2] => { results := [.lit (.bool true)], args := [d1, d2] }
  | _ => none }
def versionsKnowTwoTimesRow : OpenClaim := { program := "ytbidhbeoimpjbaagreatdoor", sum := "a65647b2e009566aa4365e2c47adde510bab51e6892d8444966db015cad9271d", func := "rivermark/rivermarklaw14.VersionsKnowTwoTimes", spec := "versionsKnowTwoTimes", inPlace := ["internal/bytealg.IndexByteString", "internal/bytealg.IndexString", "slices.overlaps[rivermark/api.Version]"], unfollowed := true, recurses := true, named := ["unicode/utf8.first", "unicode/utf8.acceptRanges", "internal/bytealg.MaxLen"], apart := false, laid := [("unicode/utf8.acceptRanges", laid_unicode_utf8_acceptRanges), ("unicode/utf8.first", laid_unicode_utf8_first)] }
def VersionsKnowTwoTimesSaid : Prop := versionsKnowTwoTimesRow.holds Tryz.pinned (OpenSpec.ofChange versionsKnowTwoTimesSpec)

/-- ITS FALSE NEIGHBOUR: 'it returns false'. Refute it at one input. -/
def versionsKnowTwoTimesWrong : ChangeSpec := { name := "versionsKnowTwoTimes", fn := fun _ => fun
  | [d1, d2] => { results := [.lit (.bool false)], args := [d1, d2] }
  | _ => none }
def VersionsKnowTwoTimesWrongFalsely : Prop := versionsKnowTwoTimesRow.holds Tryz.pinned (OpenSpec.ofChange versionsKnowTwoTimesWrong)

/-- 'rivermarklaw14.VersionSpansCover': WHATEVER THE INPUT: true; the input reads as it did. -/
def versionSpansCoverSpec : ChangeSpec := { name := "versionSpansCover", fn := fun _ => fun
  | [d1, d2, d3] => { results := [.lit (.bool true)], args := [d1, d2, d3] }
  | _ => none }
def versionSpansCoverRow : OpenClaim := { program := "ytbidhbeoimpjbaagreatdoor", sum := "a65647b2e009566aa4365e2c47adde510bab51e6892d8444966db015cad9271d", func := "rivermark/rivermarklaw14.VersionSpansCover", spec := "versionSpansCover", inPlace := ["internal/bytealg.IndexByteString", "internal/bytealg.IndexString", "slices.overlaps[rivermark/api.Version]"], unfollowed := true, recurses := true, named := ["unicode/utf8.first", "unicode/utf8.acceptRanges", "internal/bytealg.MaxLen"], apart := false, laid := [("unicode/utf8.acceptRanges", laid_unicode_utf8_acceptRanges), ("unicode/utf8.first", laid_unicode_utf8_first)] }
def VersionSpansCoverSaid : Prop := versionSpansCoverRow.holds Tryz.pinned (OpenSpec.ofChange versionSpansCoverSpec)

/-- ITS FALSE NEIGHBOUR: 'it returns false'. Refute it at one input. -/
def versionSpansCoverWrong : ChangeSpec := { name := "versionSpansCover", fn := fun _ => fun
  | [d1, d2, d3] => { results := [.lit (.bool false)], args := [d1, d2, d3] }
  | _ => none }
def VersionSpansCoverWrongFalsely : Prop := versionSpansCoverRow.holds Tryz.pinned (OpenSpec.ofChange versionSpansCoverWrong)

/-- 'rivermarklaw14.VersionChangesExactly': WHATEVER THE INPUT: true; the input reads as it did. -/
def versionChangesExactlySpec : ChangeSpec := { name := "versionChangesExactly", fn := fun _ => fun
  | [d1, d2, d3] => { results := [.lit (.bool true)], args := [d1, d2, d3] }
  | _ => none }
def versionChangesExactlyRow : OpenClaim := { program := "ytbidhbeoimpjbaagreatdoor", sum := "a65647b2e009566aa4365e2c47adde510bab51e6892d8444966db015cad9271d", func := "rivermark/rivermarklaw14.VersionChangesExactly", spec := "versionChangesExactly", inPlace := ["internal/bytealg.IndexByteString", "internal/bytealg.IndexString", "slices.overlaps[rivermark/api.Version]"], unfollowed := true, recurses := true, named := ["unicode/utf8.first", "unicode/utf8.acceptRanges", "internal/bytealg.MaxLen"], apart := false, laid := [("unicode/utf8.acceptRanges", laid_unicode_utf8_acceptRanges), ("unicode/utf8.first", laid_unicode_utf8_first)] }
def VersionChangesExactlySaid : Prop := versionChangesExactlyRow.holds Tryz.pinned (OpenSpec.ofChange versionChangesExactlySpec)

/-- ITS FALSE NEIGHBOUR: 'it returns false'. Refute it at one input. -/
def versionChangesExactlyWrong : ChangeSpec := { name := "versionChangesExactly", fn := fun _ => fun
  | [d1, d2, d3] => { results := [.lit (.bool false)], args := [d1, d2, d3] }
  | _ => none }
def VersionChangesExactlyWrongFalsely : Prop := versionChangesExactlyRow.holds Tryz.pinned (OpenSpec.ofChange versionChangesExactlyWrong)

/- THE SECOND FORM. 'bulk': how many values and letters a reading holds, each counted each time it is reached (what is shared counts as often as it is met; a slice's spare places count too). A statement '..UptoSaid' is the law's where the arguments, and the package variables that the reading takes, are together of bulk at most 1048576: NARROWER than '..Said'. Prove '..Said' where nothing that the law and all that it calls make is longer than what came in: it says more and counts as full. Else prove '..UptoSaid'. A law counts once. -/
mutual
def uptoBulk {H : Type} : DataW H → Nat
  | .lit (.string bytes) => bytes.length + 1
  | .lit _ => 1
  | .nil => 1
  | .ptr d => uptoBulk d + 1
  | .slice elems spare => uptoBulkAll elems + uptoBulkAll spare + 1
  | .agg parts => uptoBulkAll parts + 1
  | .iface _ d => uptoBulk d + 1
  | .map entries => uptoBulkEntries entries + 1
  | .held _ => 1
def uptoBulkAll {H : Type} : List (DataW H) → Nat
  | [] => 0
  | d :: r => uptoBulk d + uptoBulkAll r
def uptoBulkEntries {H : Type} : List (Lit × DataW H) → Nat
  | [] => 0
  | x :: r => uptoBulkEntry x + uptoBulkEntries r
def uptoBulkEntry {H : Type} : Lit × DataW H → Nat
  | (.string bytes, d) => bytes.length + uptoBulk d + 1
  | (_, d) => uptoBulk d + 1
 end
def uptoSmall : (H : Type) → List (DataW H) → Bool := fun _ ds => decide (uptoBulkAll ds ≤ 1048576)
def OpenSpec.upto (s : _root_.Go.ChangeSpec) : _root_.Go.OpenSpec := { _root_.Go.OpenSpec.ofChange s with cond := some uptoSmall }

/-- 'rivermarklaw14.VersionsAreAsSpecified', WHERE WHAT IT READS IS OF BULK AT MOST 1048576: true; the input reads as it did. -/
def versionsAreAsSpecifiedUptoRow : OpenClaim := { program := "ytbidhbeoimpjbaagreatdoor", sum := "a65647b2e009566aa4365e2c47adde510bab51e6892d8444966db015cad9271d", func := "rivermark/rivermarklaw14.VersionsAreAsSpecified", spec := "versionsAreAsSpecified", inPlace := ["internal/bytealg.IndexByteString", "internal/bytealg.IndexString", "slices.overlaps[rivermark/api.Version]"], unfollowed := true, recurses := true, named := ["unicode/utf8.first", "unicode/utf8.acceptRanges", "internal/bytealg.MaxLen"], apart := false, laid := [("unicode/utf8.acceptRanges", laid_unicode_utf8_acceptRanges), ("unicode/utf8.first", laid_unicode_utf8_first)], narrowed := true }
def VersionsAreAsSpecifiedUptoSaid : Prop := versionsAreAsSpecifiedUptoRow.holds Tryz.pinned (OpenSpec.upto versionsAreAsSpecifiedSpec)

/-- 'rivermarklaw14.VersionSpansAsSpecified', WHERE WHAT IT READS IS OF BULK AT MOST 1048576: true; the input reads as it did. -/
def versionSpansAsSpecifiedUptoRow : OpenClaim := { program := "ytbidhbeoimpjbaagreatdoor", sum := "a65647b2e009566aa4365e2c47adde510bab51e6892d8444966db015cad9271d", func := "rivermark/rivermarklaw14.VersionSpansAsSpecified", spec := "versionSpansAsSpecified", inPlace := ["internal/bytealg.IndexByteString", "internal/bytealg.IndexString", "slices.overlaps[rivermark/api.Version]"], unfollowed := true, recurses := true, named := ["unicode/utf8.first", "unicode/utf8.acceptRanges", "internal/bytealg.MaxLen"], apart := false, laid := [("unicode/utf8.acceptRanges", laid_unicode_utf8_acceptRanges), ("unicode/utf8.first", laid_unicode_utf8_first)], narrowed := true }
def VersionSpansAsSpecifiedUptoSaid : Prop := versionSpansAsSpecifiedUptoRow.holds Tryz.pinned (OpenSpec.upto versionSpansAsSpecifiedSpec)

/-- 'rivermarklaw14.VersionsForgetOrder', WHERE WHAT IT READS IS OF BULK AT MOST 1048576: true; the input reads as it did. -/
def versionsForgetOrderUptoRow : OpenClaim := { program := "ytbidhbeoimpjbaagreatdoor", sum := "a65647b2e009566aa4365e2c47adde510bab51e6892d8444966db015cad9271d", func := "rivermark/rivermarklaw14.VersionsForgetOrder", spec := "versionsForgetOrder", inPlace := ["internal/bytealg.IndexByteString", "internal/bytealg.IndexString", "slices.overlaps[rivermark/api.Version]"], unfollowed := true, recurses := true, named := ["unicode/utf8.first", "unicode/utf8.acceptRanges", "internal/bytealg.MaxLen"], apart := false, laid := [("unicode/utf8.acceptRanges", laid_unicode_utf8_acceptRanges), ("unicode/utf8.first", laid_unicode_utf8_first)], narrowed := true }
def VersionsForgetOrderUptoSaid : Prop := versionsForgetOrderUptoRow.holds Tryz.pinned (OpenSpec.upto versionsForgetOrderSpec)

/-- 'rivermarklaw14.VersionsKnowTwoTimes', WHERE WHAT IT READS IS OF BULK AT MOST 1048576: true; the input reads as it did. -/
def versionsKnowTwoTimesUptoRow : OpenClaim := { program := "ytbidhbeoimpjbaagreatdoor", sum := "a65647b2e009566aa4365e2c47adde510bab51e6892d8444966db015cad9271d", func := "rivermark/rivermarklaw14.VersionsKnowTwoTimes", spec := "versionsKnowTwoTimes", inPlace := ["internal/bytealg.IndexByteString", "internal/bytealg.IndexString", "slices.overlaps[rivermark/api.Version]"], unfollowed := true, recurses := true, named := ["unicode/utf8.first", "unicode/utf8.acceptRanges", "internal/bytealg.MaxLen"], apart := false, laid := [("unicode/utf8.acceptRanges", laid_unicode_utf8_acceptRanges), ("unicode/utf8.first", laid_unicode_utf8_first)], narrowed := true }
def VersionsKnowTwoTimesUptoSaid : Prop := versionsKnowTwoTimesUptoRow.holds Tryz.pinned (OpenSpec.upto versionsKnowTwoTimesSpec)

/-- 'rivermarklaw14.VersionSpansCover', WHERE WHAT IT READS IS OF BULK AT MOST 1048576: true; the input reads as it did. -/
def versionSpansCoverUptoRow : OpenClaim := { program := "ytbidhbeoimpjbaagreatdoor", sum := "a65647b2e009566aa4365e2c47adde510bab51e6892d8444966db015cad9271d", func := "rivermark/rivermarklaw14.VersionSpansCover", spec := "versionSpansCover", inPlace := ["internal/bytealg.IndexByteString", "internal/bytealg.IndexString", "slices.overlaps[rivermark/api.Version]"], unfollowed := true, recurses := true, named := ["unicode/utf8.first", "unicode/utf8.acceptRanges", "internal/bytealg.MaxLen"], apart := false, laid := [("unicode/utf8.acceptRanges", laid_unicode_utf8_acceptRanges), ("unicode/utf8.first", laid_unicode_utf8_first)], narrowed := true }
def VersionSpansCoverUptoSaid : Prop := versionSpansCoverUptoRow.holds Tryz.pinned (OpenSpec.upto versionSpansCoverSpec)

/-- 'rivermarklaw14.VersionChangesExactly', WHERE WHAT IT READS IS OF BULK AT MOST 1048576: true; the input reads as it did. -/
def versionChangesExactlyUptoRow : OpenClaim := { program := "ytbidhbeoimpjbaagreatdoor", sum := "a65647b2e009566aa4365e2c47adde510bab51e6892d8444966db015cad9271d", func := "rivermark/rivermarklaw14.VersionChangesExactly", spec := "versionChangesExactly", inPlace := ["internal/bytealg.IndexByteString", "internal/bytealg.IndexString", "slices.overlaps[rivermark/api.Version]"], unfollowed := true, recurses := true, named := ["unicode/utf8.first", "unicode/utf8.acceptRanges", "internal/bytealg.MaxLen"], apart := false, laid := [("unicode/utf8.acceptRanges", laid_unicode_utf8_acceptRanges), ("unicode/utf8.first", laid_unicode_utf8_first)], narrowed := true }
def VersionChangesExactlyUptoSaid : Prop := versionChangesExactlyUptoRow.holds Tryz.pinned (OpenSpec.upto versionChangesExactlySpec)

end Rows
end Go.Proofs.YtbidhbeoimpjbaaGreatDoor
