/-
  NARROWER THAN 'FOR EVERY INPUT', by the rows' own cells (each row's printed sentence says how): ReadingBooksAsSpecified: laid · ReadingSeriesAsSpecified: laid · ReadingChangesAsSpecified: laid · ReadingsInAnyOrder: laid · ReadingMergesFreely: laid · ReadingSeriesAtTicks: laid · ReadingsKnownLater: laid · ReadingChangesExactly: laid.
  DERIVED. THE GIVEN ROWS OF THIS SEAT. 8 by the template 'for every input the law returns true; each argument reads behind the call as it read before'; 0 by the template 'total and deterministic' (their statements: YtiaclogojhfmfaaGreatDoorTotals.lean).
  GIVEN WITH THE SEED: the statements are not yours to turn. If you find one false, say at which input.
  Laid BY PROGRAM, IN A SANDBOX (cutbox-rows.mjs): the forced cells as the released guide's own fill.sh prints them over the translation ae51396851ac2ab8… (all of the seat's roots in one cut). By AI agents, Wed Nov 11 2026. No macro, syntax, notation, axiom, sorry.
-/
import Derived.Test.YtiaclogojhfmfaaGreatDoorChecked
import GoSem.PinnedTables
import GoSem.Claim
import GoSem.ClaimJoined
import GoSem.ClaimMapViews
import Derived.JoinedTies
import Derived.KernelRfl
namespace Go.Proofs.YtiaclogojhfmfaaGreatDoor
/- THE CELL 'sum', in the pinned program and in every row, IS THE sha256 OF THE DUMP (.gsa) THAT YtiaclogojhfmfaaGreatDoorProg.lean LOADS. Nothing in Lean hashes anything: it is a label: what it is worth is what the hold of that sum in a sandbox is worth. -/
noncomputable def Tryz.pinned : Pinned := { name := "ytiaclogojhfmfaagreatdoor", sum := "ae51396851ac2ab8c999230a9f44b845ba2b0a4205ffa6043dd5c0c0dbd75c75", checked := Tryz.checked }
namespace Rows
def none {H : Type} : Left H := { results := [], args := [] }

/- WHAT THE LISTED PACKAGE-LEVEL VARIABLES READ AS WHEN THE CALL BEGINS. Each datum BY PROGRAM (the guide's laid-datum.mjs) off the statement by which the dump's own 'gosem.cut.vars' lays the variable. In a bare row this is a premise. The card (YtiaclogojhfmfaaGreatDoorCards.lean) ties it to the program's text. -/
def laid_unicode_utf8_acceptRanges {H : Type} : DataW H := .agg [.agg [.lit (.int .u8 128), .lit (.int .u8 191)], .agg [.lit (.int .u8 160), .lit (.int .u8 191)], .agg [.lit (.int .u8 128), .lit (.int .u8 159)], .agg [.lit (.int .u8 144), .lit (.int .u8 191)], .agg [.lit (.int .u8 128), .lit (.int .u8 143)], .agg [.lit (.int .u8 0), .lit (.int .u8 0)], .agg [.lit (.int .u8 0), .lit (.int .u8 0)], .agg [.lit (.int .u8 0), .lit (.int .u8 0)], .agg [.lit (.int .u8 0), .lit (.int .u8 0)], .agg [.lit (.int .u8 0), .lit (.int .u8 0)], .agg [.lit (.int .u8 0), .lit (.int .u8 0)], .agg [.lit (.int .u8 0), .lit (.int .u8 0)], .agg [.lit (.int .u8 0), .lit (.int .u8 0)], .agg [.lit (.int .u8 0), .lit (.int .u8 0)], .agg [.lit (.int .u8 0), .lit (.int .u8 0)], .agg [.lit (.int .u8 0), .lit (.int .u8 0)]]
/-- One of Go's own tables, pinned by name: the form's constant. -/
def laid_unicode_utf8_first : DataW Unit := Go.Pinned.utf8First

/-- 'rivermarklaw15.ReadingBooksAsSpecified': WHATEVER THE INPUT: true; the input reads as it did. -/
def readingBooksAsSpecifiedSpec : ChangeSpec := { name := "readingBooksAsSpecified", fn := fun _ => fun
  | [d1, d2, d3] => { results := [.lit (.bool true)], args := [d1, d2, d3] }
  | _ => none }
def readingBooksAsSpecifiedRow : OpenClaim := { program := "ytiaclogojhfmfaagreatdoor", sum := "ae51396851ac2ab8c999230a9f44b845ba2b0a4205ffa6043dd5c0c0dbd75c75", func := "rivermark/rivermarklaw15.ReadingBooksAsSpecified", spec := "readingBooksAsSpecified", inPlace := ["internal/bytealg.IndexByteString", "internal/bytealg.IndexString", "slices.overlaps[rivermark/api.Reading]", "slices.overlaps[rivermark/api.Version]"], unfollowed := true, recurses := true, named := ["unicode/utf8.first", "unicode/utf8.acceptRanges", "internal/bytealg.MaxLen"], apart := false, laid := [("unicode/utf8.acceptRanges", laid_unicode_utf8_acceptRanges), ("unicode/utf8.first", laid_unicode_utf8_first)] }
def ReadingBooksAsSpecifiedSaid : Prop := readingBooksAsSpecifiedRow.holds Tryz.pinned (OpenSpec.ofChange readingBooksAsSpecifiedSpec)

/-- ITS FALSE NEIGHBOUR: 'it returns false'. Refute it at one input. -/
def readingBooksAsSpecifiedWrong : ChangeSpec := { name := "readingBooksAsSpecified", fn := fun _ => fun
  | [d1, d2, d3] => { results := [.lit (.bool false)], args := [d1, d2, d3] }
  | _ => none }
def ReadingBooksAsSpecifiedWrongFalsely : Prop := readingBooksAsSpecifiedRow.holds Tryz.pinned (OpenSpec.ofChange readingBooksAsSpecifiedWrong)

/-- 'rivermarklaw15.ReadingSeriesAsSpecified': WHATEVER THE INPUT: true; the input reads as it did. -/
def readingSeriesAsSpecifiedSpec : ChangeSpec := { name := "readingSeriesAsSpecified", fn := fun _ => fun
  | [d1, d2, d3] => { results := [.lit (.bool true)], args := [d1, d2, d3] }
  | _ => none }
def readingSeriesAsSpecifiedRow : OpenClaim := { program := "ytiaclogojhfmfaagreatdoor", sum := "ae51396851ac2ab8c999230a9f44b845ba2b0a4205ffa6043dd5c0c0dbd75c75", func := "rivermark/rivermarklaw15.ReadingSeriesAsSpecified", spec := "readingSeriesAsSpecified", inPlace := ["internal/bytealg.IndexByteString", "internal/bytealg.IndexString", "slices.overlaps[rivermark/api.Reading]", "slices.overlaps[rivermark/api.Version]"], unfollowed := true, recurses := true, named := ["unicode/utf8.first", "unicode/utf8.acceptRanges", "internal/bytealg.MaxLen"], apart := false, laid := [("unicode/utf8.acceptRanges", laid_unicode_utf8_acceptRanges), ("unicode/utf8.first", laid_unicode_utf8_first)] }
def ReadingSeriesAsSpecifiedSaid : Prop := readingSeriesAsSpecifiedRow.holds Tryz.pinned (OpenSpec.ofChange readingSeriesAsSpecifiedSpec)

/-- ITS FALSE NEIGHBOUR: 'it returns false'. Refute it at one input. -/
def readingSeriesAsSpecifiedWrong : ChangeSpec := { name := "readingSeriesAsSpecified", fn := fun _ => fun
  | [d1, d2, d3] => { results := [.lit (.bool false)], args := [d1, d2, d3] }
  | _ => none }
def ReadingSeriesAsSpecifiedWrongFalsely : Prop := readingSeriesAsSpecifiedRow.holds Tryz.pinned (OpenSpec.ofChange readingSeriesAsSpecifiedWrong)

/-- 'rivermarklaw15.ReadingChangesAsSpecified': WHATEVER THE INPUT: true; the input reads as it did. -/
def readingChangesAsSpecifiedSpec : ChangeSpec := { name := "readingChangesAsSpecified", fn := fun _ => fun
  | [d1, d2, d3] => { results := [.lit (.bool true)], args := [d1, d2, d3] }
  | _ => none }
def readingChangesAsSpecifiedRow : OpenClaim := { program := "ytiaclogojhfmfaagreatdoor", sum := "ae51396851ac2ab8c999230a9f44b845ba2b0a4205ffa6043dd5c0c0dbd75c75", func := "rivermark/rivermarklaw15.ReadingChangesAsSpecified", spec := "readingChangesAsSpecified", inPlace := ["internal/bytealg.IndexByteString", "internal/bytealg.IndexString", "slices.overlaps[rivermark/api.Reading]", "slices.overlaps[rivermark/api.Version]"], unfollowed := true, recurses := true, named := ["unicode/utf8.first", "unicode/utf8.acceptRanges", "internal/bytealg.MaxLen"], apart := false, laid := [("unicode/utf8.acceptRanges", laid_unicode_utf8_acceptRanges), ("unicode/utf8.first", laid_unicode_utf8_first)] }
def ReadingChangesAsSpecifiedSaid : Prop := readingChangesAsSpecifiedRow.holds Tryz.pinned (OpenSpec.ofChange readingChangesAsSpecifiedSpec)

/-- ITS FALSE NEIGHBOUR: 'it returns false'. Refute it at one input. -/
def readingChangesAsSpecifiedWrong : ChangeSpec := { name := "readingChangesAsSpecified", fn := fun _ => fun
  | [d1, d2, d3] => { results := [.lit (.bool false)], args := [d1, d2, d3] }
  | _ => none }
def ReadingChangesAsSpecifiedWrongFalsely : Prop := readingChangesAsSpecifiedRow.holds Tryz.pinned (OpenSpec.ofChange readingChangesAsSpecifiedWrong)

/-- 'rivermarklaw15.ReadingsInAnyOrder': WHATEVER THE INPUT: true; the input reads as it did. -/
def readingsInAnyOrderSpec : ChangeSpec := { name := "readingsInAnyOrder", fn := fun _ => fun
  | [d1, d2, d3] => { results := [.lit (.bool true)], args := [d1, d2, d3] }
  | _ => none }
def readingsInAnyOrderRow : OpenClaim := { program := "ytiaclogojhfmfaagreatdoor", sum := "ae51396851ac2ab8c999230a9f44b845ba2b0a4205ffa6043dd5c0c0dbd75c75", func := "rivermark/rivermarklaw15.ReadingsInAnyOrder", spec := "readingsInAnyOrder", inPlace := ["internal/bytealg.IndexByteString", "internal/bytealg.IndexString", "slices.overlaps[rivermark/api.Reading]", "slices.overlaps[rivermark/api.Version]"], unfollowed := true, recurses := true, named := ["unicode/utf8.first", "unicode/utf8.acceptRanges", "internal/bytealg.MaxLen"], apart := false, laid := [("unicode/utf8.acceptRanges", laid_unicode_utf8_acceptRanges), ("unicode/utf8.first", laid_unicode_utf8_first)] }
def ReadingsInAnyOrderSaid : Prop := readingsInAnyOrderRow.holds Tryz.pinned (OpenSpec.ofChange readingsInAnyOrderSpec)

/-- ITS FALSE NEIGHBOUR: 'it returns false'. Refute it at one input. -/
def readingsInAnyOrderWrong : ChangeSpec := { name := "readingsInAnyOrder", fn := fun _ => fun
  | [d1, d2, d3] => { results := [.lit (.bool false)], args := [d1, d2, d3] }
  | _ => none }
def ReadingsInAnyOrderWrongFalsely : Prop := readingsInAnyOrderRow.holds Tryz.pinned (OpenSpec.ofChange readingsInAnyOrderWrong)

/-- 'rivermarklaw15.ReadingMergesFreely': WHATEVER THE INPUT: true; the input reads as it did. -/
def readingMergesFreelySpec : ChangeSpec := { name := "readingMergesFreely", fn := fun _ => fun
  | [d] => { results := [.lit (.bool true)], args := [d] }
  | _ => none }
def readingMergesFreelyRow : OpenClaim := { program := "ytiaclogojhfmfaagreatdoor", sum := "ae51396851ac2ab8c999230a9f44b845ba2b0a4205ffa6043dd5c0c0dbd75c75", func := "rivermark/rivermarklaw15.ReadingMergesFreely", spec := "readingMergesFreely", inPlace := ["internal/bytealg.IndexByteString", "internal/bytealg.IndexString", "slices.overlaps[rivermark/api.Reading]", "slices.overlaps[rivermark/api.Version]"], unfollowed := true, recurses := true, named := ["unicode/utf8.first", "unicode/utf8.acceptRanges", "internal/bytealg.MaxLen"], apart := false, laid := [("unicode/utf8.acceptRanges", laid_unicode_utf8_acceptRanges), ("unicode/utf8.first", laid_unicode_utf8_first)] }
def ReadingMergesFreelySaid : Prop := readingMergesFreelyRow.holds Tryz.pinned (OpenSpec.ofChange readingMergesFreelySpec)

/-- ITS FALSE NEIGHBOUR: 'it returns false'. Refute it at one input. -/
def readingMergesFreelyWrong : ChangeSpec := { name := "readingMergesFreely", fn := fun _ => fun
  | [d] => { results := [.lit (.bool false)], args := [d] }
  | _ => none }
def ReadingMergesFreelyWrongFalsely : Prop := readingMergesFreelyRow.holds Tryz.pinned (OpenSpec.ofChange readingMergesFreelyWrong)

/-- 'rivermarklaw15.ReadingSeriesAtTicks': WHATEVER THE INPUT: true; the input reads as it did. -/
def readingSeriesAtTicksSpec : ChangeSpec := { name := "readingSeriesAtTicks", fn := fun _ => fun
  | [d1, d2, d3] => { results := [.lit (.bool true)], args := [d1, d2, d3] }
  | _ => none }
def readingSeriesAtTicksRow : OpenClaim := { program := "ytiaclogojhfmfaagreatdoor", sum := "ae51396851ac2ab8c999230a9f44b845ba2b0a4205ffa6043dd5c0c0dbd75c75", func := "rivermark/rivermarklaw15.ReadingSeriesAtTicks", spec := "readingSeriesAtTicks", inPlace := ["internal/bytealg.IndexByteString", "internal/bytealg.IndexString", "slices.overlaps[rivermark/api.Reading]", "slices.overlaps[rivermark/api.Version]"], unfollowed := true, recurses := true, named := ["unicode/utf8.first", "unicode/utf8.acceptRanges", "internal/bytealg.MaxLen"], apart := false, laid := [("unicode/utf8.acceptRanges", laid_unicode_utf8_acceptRanges), ("unicode/utf8.first", laid_unicode_utf8_first)] }
def ReadingSeriesAtTicksSaid : Prop := readingSeriesAtTicksRow.holds Tryz.pinned (OpenSpec.ofChange readingSeriesAtTicksSpec)

/-- ITS FALSE NEIGHBOUR: 'it returns false'. Refute it at one input. -/
def readingSeriesAtTicksWrong : ChangeSpec := { name := "readingSeriesAtTicks", fn := fun _ => fun
  | [d1, d2, d3] => { results := [.lit (.bool false)], args := [d1, d2, d3] }
  | _ => none }
def ReadingSeriesAtTicksWrongFalsely : Prop := readingSeriesAtTicksRow.holds Tryz.pinned (OpenSpec.ofChange readingSeriesAtTicksWrong)

/-- 'rivermarklaw15.ReadingsKnownLater': WHATEVER THE INPUT: true; the input reads as it did. -/
def readingsKnownLaterSpec : ChangeSpec := { name := "readingsKnownLater", fn := fun _ => fun
  | [d1, d2, d3] => { results := [.lit (.bool true)], args := [d1, d2, d3] }
  | _ => none }
def readingsKnownLaterRow : OpenClaim := { program := "ytiaclogojhfmfaagreatdoor", sum := "ae51396851ac2ab8c999230a9f44b845ba2b0a4205ffa6043dd5c0c0dbd75c75", func := "rivermark/rivermarklaw15.ReadingsKnownLater", spec := "readingsKnownLater", inPlace := ["internal/bytealg.IndexByteString", "internal/bytealg.IndexString", "slices.overlaps[rivermark/api.Reading]", "slices.overlaps[rivermark/api.Version]"], unfollowed := true, recurses := true, named := ["unicode/utf8.first", "unicode/utf8.acceptRanges", "internal/bytealg.MaxLen"], apart := false, laid := [("unicode/utf8.acceptRanges", laid_unicode_utf8_acceptRanges), ("unicode/utf8.first", laid_unicode_utf8_first)] }
def ReadingsKnownLaterSaid : Prop := readingsKnownLaterRow.holds Tryz.pinned (OpenSpec.ofChange readingsKnownLaterSpec)

/-- ITS FALSE NEIGHBOUR: 'it returns false'. Refute it at one input. -/
def readingsKnownLaterWrong : ChangeSpec := { name := "readingsKnownLater", fn := fun _ => fun
  | [d1, d2, d3] => { results := [.lit (.bool false)], args := [d1, d2, d3] }
  | _ => none }
def ReadingsKnownLaterWrongFalsely : Prop := readingsKnownLaterRow.holds Tryz.pinned (OpenSpec.ofChange readingsKnownLaterWrong)

/-- 'rivermarklaw15.ReadingChangesExactly': WHATEVER THE INPUT: true; the input reads as it did. -/
def readingChangesExactlySpec : ChangeSpec := { name := "readingChangesExactly", fn := fun _ => fun
  | [d1, d2, d3] => { results := [.lit (.bool true)], args := [d1, d2, d3] }
  | _ => none }
def readingChangesExactlyRow : OpenClaim := { program := "ytiaclogojhfmfaagreatdoor", sum := "ae51396851ac2ab8c999230a9f44b845ba2b0a4205ffa6043dd5c0c0dbd75c75", func := "rivermark/rivermarklaw15.ReadingChangesExactly", spec := "readingChangesExactly", inPlace := ["internal/bytealg.IndexByteString", "internal/bytealg.IndexString", "slices.overlaps[rivermark/api.Reading]", "slices.overlaps[rivermark/api.Version]"], unfollowed := true, recurses := true, named := ["unicode/utf8.first", "unicode/utf8.acceptRanges", "internal/bytealg.MaxLen"], apart := false, laid := [("unicode/utf8.acceptRanges", laid_unicode_utf8_acceptRanges), ("unicode/utf8.first", laid_unicode_utf8_first)] }
def ReadingChangesExactlySaid : Prop := readingChangesExactlyRow.holds Tryz.pinned (OpenSpec.ofChange readingChangesExactlySpec)

/-- ITS FALSE NEIGHBOUR: 'it returns false'. Refute it at one input. -/
def readingChangesExactlyWrong : ChangeSpec := { name := "readingChangesExactly", fn := fun _ => fun
  | [d1, d2, d3] => { results := [.lit (.bool false)], args := [d1, d2, d3] }
  | _ => none }
def ReadingChangesExactlyWrongFalsely : Prop := readingChangesExactlyRow.holds Tryz.pinned (OpenSpec.ofChange readingChangesExactlyWrong)

/- THE SECOND FORM. 'bulk': how many values and letters a reading holds, each counted each time it is reached (what is shared counts as often as it is met; a slice's spare places count too). A statement '..UptoSaid' is the law's where the arguments, and the package variables that the reading takes, are together of bulk at most 1048576: NARROWER than '..Said'. Prove '..Said' where nothing that the law and all that it calls make is longer than what came in: it says more and counts as full. Else prove '..UptoSaid'. A law counts once. -/
mutual
def uptoBulk {H : Type} : DataW H → Nat
  | .lit (.string bytes) => bytes.length + 1
  | .lit _ => 1
  | .nil => 1
  | .ptr d => uptoBulk d + 1
  | .slice elems spare => uptoBulkAll elems + uptoBulkAll spare + 1
  | .agg parts => uptoBulkAll parts + 1
  | .iface _ d => uptoBulk d + 1
  | .map entries => uptoBulkEntries entries + 1
  | .held _ => 1
def uptoBulkAll {H : Type} : List (DataW H) → Nat
  | [] => 0
  | d :: r => uptoBulk d + uptoBulkAll r
def uptoBulkEntries {H : Type} : List (Lit × DataW H) → Nat
  | [] => 0
  | x :: r => uptoBulkEntry x + uptoBulkEntries r
def uptoBulkEntry {H : Type} : Lit × DataW H → Nat
  | (.string bytes, d) => bytes.length + uptoBulk d + 1
  | (_, d) => uptoBulk d + 1
 end
def uptoSmall : (H : Type) → List (DataW H) → Bool := fun _ ds => decide (uptoBulkAll ds ≤ 1048576)
def OpenSpec.upto (s : _root_.Go.ChangeSpec) : _root_.Go.OpenSpec := { _root_.Go.OpenSpec.ofChange s with cond := some uptoSmall }

/-- 'rivermarklaw15.ReadingBooksAsSpecified', WHERE WHAT IT READS IS OF BULK AT MOST 1048576: true; the input reads as it did. -/
def readingBooksAsSpecifiedUptoRow : OpenClaim := { program := "ytiaclogojhfmfaagreatdoor", sum := "ae51396851ac2ab8c999230a9f44b845ba2b0a4205ffa6043dd5c0c0dbd75c75", func := "rivermark/rivermarklaw15.ReadingBooksAsSpecified", spec := "readingBooksAsSpecified", inPlace := ["internal/bytealg.IndexByteString", "internal/bytealg.IndexString", "slices.overlaps[rivermark/api.Reading]", "slices.overlaps[rivermark/api.Version]"], unfollowed := true, recurses := true, named := ["unicode/utf8.first", "unicode/utf8.acceptRanges", "internal/bytealg.MaxLen"], apart := false, laid := [("unicode/utf8.acceptRanges", laid_unicode_utf8_acceptRanges), ("unicode/utf8.first", laid_unicode_utf8_first)], narrowed := true }
def ReadingBooksAsSpecifiedUptoSaid : Prop := readingBooksAsSpecifiedUptoRow.holds Tryz.pinned (OpenSpec.upto readingBooksAsSpecifiedSpec)

/-- 'rivermarklaw15.ReadingSeriesAsSpecified', WHERE WHAT IT READS IS OF BULK AT MOST 1048576: true; the input reads as it did. -/
def readingSeriesAsSpecifiedUptoRow : OpenClaim := { program := "ytiaclogojhfmfaagreatdoor", sum := "ae51396851ac2ab8c999230a9f44b845ba2b0a4205ffa6043dd5c0c0dbd75c75", func := "rivermark/rivermarklaw15.ReadingSeriesAsSpecified", spec := "readingSeriesAsSpecified", inPlace := ["internal/bytealg.IndexByteString", "internal/bytealg.IndexString", "slices.overlaps[rivermark/api.Reading]", "slices.overlaps[rivermark/api.Version]"], unfollowed := true, recurses := true, named := ["unicode/utf8.first", "unicode/utf8.acceptRanges", "internal/bytealg.MaxLen"], apart := false, laid := [("unicode/utf8.acceptRanges", laid_unicode_utf8_acceptRanges), ("unicode/utf8.first", laid_unicode_utf8_first)], narrowed := true }
def ReadingSeriesAsSpecifiedUptoSaid : Prop := readingSeriesAsSpecifiedUptoRow.holds Tryz.pinned (OpenSpec.upto readingSeriesAsSpecifiedSpec)

/-- 'rivermarklaw15.ReadingChangesAsSpecified', WHERE WHAT IT READS IS OF BULK AT MOST 1048576: true; the input reads as it did. -/
def readingChangesAsSpecifiedUptoRow : OpenClaim := { program := "ytiaclogojhfmfaagreatdoor", sum := "ae51396851ac2ab8c999230a9f44b845ba2b0a4205ffa6043dd5c0c0dbd75c75", func := "rivermark/rivermarklaw15.ReadingChangesAsSpecified", spec := "readingChangesAsSpecified", inPlace := ["internal/bytealg.IndexByteString", "internal/bytealg.IndexString", "slices.overlaps[rivermark/api.Reading]", "slices.overlaps[rivermark/api.Version]"], unfollowed := true, recurses := true, named := ["unicode/utf8.first", "unicode/utf8.acceptRanges", "internal/bytealg.MaxLen"], apart := false, laid := [("unicode/utf8.acceptRanges", laid_unicode_utf8_acceptRanges), ("unicode/utf8.first", laid_unicode_utf8_first)], narrowed := true }
def ReadingChangesAsSpecifiedUptoSaid : Prop := readingChangesAsSpecifiedUptoRow.holds Tryz.pinned (OpenSpec.upto readingChangesAsSpecifiedSpec)

/-- 'rivermarklaw15.ReadingsInAnyOrder', WHERE WHAT IT READS IS OF BULK AT MOST 1048576: true; the input reads as it did. -/
def readingsInAnyOrderUptoRow : OpenClaim := { program := "ytiaclogojhfmfaagreatdoor", sum := "ae51396851ac2ab8c999230a9f44b845ba2b0a4205ffa6043dd5c0c0dbd75c75", func := "rivermark/rivermarklaw15.ReadingsInAnyOrder", spec := "readingsInAnyOrder", inPlace := ["internal/bytealg.IndexByteString", "internal/bytealg.IndexString", "slices.overlaps[rivermark/api.Reading]", "slices.overlaps[rivermark/api.Version]"], unfollowed := true, recurses := true, named := ["unicode/utf8.first", "unicode/utf8.acceptRanges", "internal/bytealg.MaxLen"], apart := false, laid := [("unicode/utf8.acceptRanges", laid_unicode_utf8_acceptRanges), ("unicode/utf8.first", laid_unicode_utf8_first)], narrowed := true }
def ReadingsInAnyOrderUptoSaid : Prop := readingsInAnyOrderUptoRow.holds Tryz.pinned (OpenSpec.upto readingsInAnyOrderSpec)

/-- 'rivermarklaw15.ReadingMergesFreely', WHERE WHAT IT READS IS OF BULK AT MOST 1048576: true; the input reads as it did. -/
def readingMergesFreelyUptoRow : OpenClaim := { program := "ytiaclogojhfmfaagreatdoor", sum := "ae51396851ac2ab8c999230a9f44b845ba2b0a4205ffa6043dd5c0c0dbd75c75", func := "rivermark/rivermarklaw15.ReadingMergesFreely", spec := "readingMergesFreely", inPlace := ["internal/bytealg.IndexByteString", "internal/bytealg.IndexString", "slices.overlaps[rivermark/api.Reading]", "slices.overlaps[rivermark/api.Version]"], unfollowed := true, recurses := true, named := ["unicode/utf8.first", "unicode/utf8.acceptRanges", "internal/bytealg.MaxLen"], apart := false, laid := [("unicode/utf8.acceptRanges", laid_unicode_utf8_acceptRanges), ("unicode/utf8.first", laid_unicode_utf8_first)], narrowed := true }
def ReadingMergesFreelyUptoSaid : Prop := readingMergesFreelyUptoRow.holds Tryz.pinned (OpenSpec.upto readingMergesFreelySpec)

/-- 'rivermarklaw15.ReadingSeriesAtTicks', WHERE WHAT IT READS IS OF BULK AT MOST 1048576: true; the input reads as it did. -/
def readingSeriesAtTicksUptoRow : OpenClaim := { program := "ytiaclogojhfmfaagreatdoor", sum := "ae51396851ac2ab8c999230a9f44b845ba2b0a4205ffa6043dd5c0c0dbd75c75", func := "rivermark/rivermarklaw15.ReadingSeriesAtTicks", spec := "readingSeriesAtTicks", inPlace := ["internal/bytealg.IndexByteString", "internal/bytealg.IndexString", "slices.overlaps[rivermark/api.Reading]", "slices.overlaps[rivermark/api.Version]"], unfollowed := true, recurses := true, named := ["unicode/utf8.first", "unicode/utf8.acceptRanges", "internal/bytealg.MaxLen"], apart := false, laid := [("unicode/utf8.acceptRanges", laid_unicode_utf8_acceptRanges), ("unicode/utf8.first", laid_unicode_utf8_first)], narrowed := true }
def ReadingSeriesAtTicksUptoSaid : Prop := readingSeriesAtTicksUptoRow.holds Tryz.pinned (OpenSpec.upto readingSeriesAtTicksSpec)

/-- 'rivermarklaw15.ReadingsKnownLater', WHERE WHAT IT READS IS OF BULK AT MOST 1048576: true; the input reads as it did. -/
def readingsKnownLaterUptoRow : OpenClaim := { program := "ytiaclogojhfmfaagreatdoor", sum := "ae51396851ac2ab8c999230a9f44b845ba2b0a4205ffa6043dd5c0c0dbd75c75", func := "rivermark/rivermarklaw15.ReadingsKnownLater", spec := "readingsKnownLater", inPlace := ["internal/bytealg.IndexByteString", "internal/bytealg.IndexString", "slices.overlaps[rivermark/api.Reading]", "slices.overlaps[rivermark/api.Version]"], unfollowed := true, recurses := true, named := ["unicode/utf8.first", "unicode/utf8.acceptRanges", "internal/bytealg.MaxLen"], apart := false, laid := [("unicode/utf8.acceptRanges", laid_unicode_utf8_acceptRanges), ("unicode/utf8.first", laid_unicode_utf8_first)], narrowed := true }
def ReadingsKnownLaterUptoSaid : Prop := readingsKnownLaterUptoRow.holds Tryz.pinned (OpenSpec.upto readingsKnownLaterSpec)

/-- 'rivermarklaw15.ReadingChangesExactly', WHERE WHAT IT READS IS OF BULK AT MOST 1048576: true; the input reads as it did. -/
def readingChangesExactlyUptoRow : OpenClaim := { program := "ytiaclogojhfmfaagreatdoor", sum := "ae51396851ac2ab8c999230a9f44b845ba2b0a4205ffa6043dd5c0c0dbd75c75", func := "rivermark/rivermarklaw15.ReadingChangesExactly", spec := "readingChangesExactly", inPlace := ["internal/bytealg.IndexByteString", "internal/bytealg.IndexString", "slices.overlaps[rivermark/api.Reading]", "slices.overlaps[rivermark/api.Version]"], unfollowed := true, recurses := true, named := ["unicode/utf8.first", "unicode/utf8.acceptRanges", "internal/bytealg.MaxLen"], apart := false, laid := [("unicode/utf8.acceptRanges", laid_unicode_utf8_acceptRanges), ("unicode/utf8.first", laid_unicode_utf8_first)], narrowed := true }
def ReadingChangesExactlyUptoSaid : Prop := readingChangesExactlyUptoRow.holds Tryz.pinned (OpenSpec.upto readingChangesExactlySpec)

end Rows
end Go.Proofs.YtiaclogojhfmfaaGreatDoor
