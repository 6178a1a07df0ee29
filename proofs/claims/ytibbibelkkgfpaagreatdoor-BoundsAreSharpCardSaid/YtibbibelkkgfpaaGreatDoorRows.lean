/-
  NARROWER THAN 'FOR EVERY INPUT', by the rows' own cells (each row's printed sentence says how): BoundsAreAsSpecified: laid · BoundsAreAttained: laid · BoundsHold: laid · BoundsAreSharp: laid · BoundsAddUp: laid · BoundsNest: laid · BoundsOfSummaries: laid.
  DERIVED. THE GIVEN ROWS OF THIS SEAT. 7 by the template 'for every input the law returns true; each argument reads behind the call as it read before'; 0 by the template 'total and deterministic' (their statements: YtibbibelkkgfpaaGreatDoorTotals.lean).
  GIVEN WITH THE SEED: the statements are not yours to turn. If you find one false, say at which input.
  Laid BY PROGRAM, IN A SANDBOX (cutbox-rows.mjs): the forced cells as the released guide's own fill.sh prints them over the translation f2a0115975fcd949… (all of the seat's roots in one cut). By AI agents, Wed Nov 11 2026. No macro, syntax, notation, axiom, sorry.
-/
import Derived.Test.YtibbibelkkgfpaaGreatDoorChecked
import GoSem.PinnedTables
import GoSem.Claim
import GoSem.ClaimJoined
import GoSem.ClaimMapViews
import Derived.JoinedTies
import Derived.KernelRfl
namespace Go.Proofs.YtibbibelkkgfpaaGreatDoor
/- THE CELL 'sum', in the pinned program and in every row, IS THE sha256 OF THE DUMP (.gsa) THAT YtibbibelkkgfpaaGreatDoorProg.lean LOADS. Nothing in Lean hashes anything: it is a label: what it is worth is what the hold of that sum in a sandbox is worth. -/
noncomputable def Tryz.pinned : Pinned := { name := "ytibbibelkkgfpaagreatdoor", sum := "f2a0115975fcd949e7a8a69b7e1a49efe011715457cbb8d7fcf73b62b4d75017", checked := Tryz.checked }
namespace Rows
def none {H : Type} : Left H := { results := [], args := [] }

/- WHAT THE LISTED PACKAGE-LEVEL VARIABLES READ AS WHEN THE CALL BEGINS. Each datum BY PROGRAM (the guide's laid-datum.mjs) off the statement by which the dump's own 'gosem.cut.vars' lays the variable. In a bare row this is a premise. The card (YtibbibelkkgfpaaGreatDoorCards.lean) ties it to the program's text. -/
def laid_unicode_utf8_acceptRanges {H : Type} : DataW H := .agg [.agg [.lit (.int .u8 128), .lit (.int .u8 191)], .agg [.lit (.int .u8 160), .lit (.int .u8 191)], .agg [.lit (.int .u8 128), .lit (.int .u8 159)], .agg [.lit (.int .u8 144), .lit (.int .u8 191)], .agg [.lit (.int .u8 128), .lit (.int .u8 143)], .agg [.lit (.int .u8 0), .lit (.int .u8 0)], .agg [.lit (.int .u8 0), .lit (.int .u8 0)], .agg [.lit (.int .u8 0), .lit (.int .u8 0)], .agg [.lit (.int .u8 0), .lit (.int .u8 0)], .agg [.lit (.int .u8 0), .lit (.int .u8 0)], .agg [.lit (.int .u8 0), .lit (.int .u8 0)], .agg [.lit (.int .u8 0), .lit (.int .u8 0)], .agg [.lit (.int .u8 0), .lit (.int .u8 0)], .agg [.lit (.int .u8 0), .lit (.int .u8 0)], .agg [.lit (.int .u8 0), .lit (.int .u8 0)], .agg [.lit (.int .u8 0), .lit (.int .u8 0)]]
/-- One of Go's own tables, pinned by name: the form's constant. -/
def laid_unicode_utf8_first : DataW Unit := Go.Pinned.utf8First

/-- 'rivermarklaw19.BoundsAreAsSpecified': WHATEVER THE INPUT: true; the input reads as it did. -/
def boundsAreAsSpecifiedSpec : ChangeSpec := { name := "boundsAreAsSpecified", fn := fun _ => fun
  | [d1, d2, d3] => { results := [.lit (.bool true)], args := [d1, d2, d3] }
  | _ => none }
def boundsAreAsSpecifiedRow : OpenClaim := { program := "ytibbibelkkgfpaagreatdoor", sum := "f2a0115975fcd949e7a8a69b7e1a49efe011715457cbb8d7fcf73b62b4d75017", func := "rivermark/rivermarklaw19.BoundsAreAsSpecified", spec := "boundsAreAsSpecified", inPlace := ["internal/bytealg.IndexByteString", "internal/bytealg.IndexString"], unfollowed := true, recurses := true, named := ["unicode/utf8.first", "unicode/utf8.acceptRanges", "internal/bytealg.MaxLen"], plainKeys := false, apart := false, laid := [("unicode/utf8.acceptRanges", laid_unicode_utf8_acceptRanges), ("unicode/utf8.first", laid_unicode_utf8_first)] }
def BoundsAreAsSpecifiedSaid : Prop := boundsAreAsSpecifiedRow.holds Tryz.pinned (OpenSpec.ofChange boundsAreAsSpecifiedSpec)

/-- ITS FALSE NEIGHBOUR: 'it returns false'. Refute it at one input. -/
def boundsAreAsSpecifiedWrong : ChangeSpec := { name := "boundsAreAsSpecified", fn := fun _ => fun
  | [d1, d2, d3] => { results := [.lit (.bool false)], args := [d1, d2, d3] }
  | _ => none }
def BoundsAreAsSpecifiedWrongFalsely : Prop := boundsAreAsSpecifiedRow.holds Tryz.pinned (OpenSpec.ofChange boundsAreAsSpecifiedWrong)

/-- 'rivermarklaw19.BoundsAreAttained': WHATEVER THE INPUT: true; the input reads as it did. -/
def boundsAreAttainedSpec : ChangeSpec := { name := "boundsAreAttained", fn := fun _ => fun
  | [d1, d2] => { results := [.lit (.bool true)], args := [d1, d2] }
  | _ => none }
def boundsAreAttainedRow : OpenClaim := { program := "ytibbibelkkgfpaagreatdoor", sum := "f2a0115975fcd949e7a8a69b7e1a49efe011715457cbb8d7fcf73b62b4d75017", func := "rivermark/rivermarklaw19.BoundsAreAttained", spec := "boundsAreAttained", inPlace := ["internal/bytealg.IndexByteString", "internal/bytealg.IndexString"], unfollowed := true, recurses := true, named := ["unicode/utf8.first", "unicode/utf8.acceptRanges", "internal/bytealg.MaxLen"], plainKeys := false, apart := false, laid := [("unicode/utf8.acceptRanges", laid_unicode_utf8_acceptRanges), ("unicode/utf8.first", laid_unicode_utf8_first)] }
def BoundsAreAttainedSaid : Prop := boundsAreAttainedRow.holds Tryz.pinned (OpenSpec.ofChange boundsAreAttainedSpec)

/-- ITS FALSE NEIGHBOUR: 'it returns false'. Refute it at one input. -/
def boundsAreAttainedWrong : ChangeSpec := { name := "boundsAreAttained", fn := fun _ => fun
  | [d1, d2] => { results := [.lit (.bool false)], args := [d1, d2] }
  | _ => none }
def BoundsAreAttainedWrongFalsely : Prop := boundsAreAttainedRow.holds Tryz.pinned (OpenSpec.ofChange boundsAreAttainedWrong)

/-- 'rivermarklaw19.BoundsHold': WHATEVER THE INPUT: true; the input reads as it did. -/
def boundsHoldSpec : ChangeSpec := { name := "boundsHold", fn := fun _ => fun
  | [d1, d2, d3] => { results := [.lit (.bool true)], args := [d1, d2, d3] }
  | _ => none }
def boundsHoldRow : OpenClaim := { program := "ytibbibelkkgfpaagreatdoor", sum := "f2a0115975fcd949e7a8a69b7e1a49efe011715457cbb8d7fcf73b62b4d75017", func := "rivermark/rivermarklaw19.BoundsHold", spec := "boundsHold", inPlace := ["internal/bytealg.IndexByteString", "internal/bytealg.IndexString"], unfollowed := true, recurses := true, named := ["unicode/utf8.first", "unicode/utf8.acceptRanges", "internal/bytealg.MaxLen"], plainKeys := false, apart := false, laid := [("unicode/utf8.acceptRanges", laid_unicode_utf8_acceptRanges), ("unicode/utf8.first", laid_unicode_utf8_first)] }
def BoundsHoldSaid : Prop := boundsHoldRow.holds Tryz.pinned (OpenSpec.ofChange boundsHoldSpec)

/-- ITS FALSE NEIGHBOUR: 'it returns false'. Refute it at one input. -/
def boundsHoldWrong : ChangeSpec := { name := "boundsHold", fn := fun _ => fun
  | [d1, d2, d3] => { results := [.lit (.bool false)], args := [d1, d2, d3] }
  | _ => none }
def BoundsHoldWrongFalsely : Prop := boundsHoldRow.holds Tryz.pinned (OpenSpec.ofChange boundsHoldWrong)

/-- 'rivermarklaw19.BoundsAreSharp': WHATEVER THE INPUT: true; the input reads as it did. -/
def boundsAreSharpSpec : ChangeSpec := { name := "boundsAreSharp", fn := fun _ => fun
  | [d1, d2] => { results := [.lit (.bool true)], args := [d1, d2] }
  | _ => none }
def boundsAreSharpRow : OpenClaim := { program := "ytibbibelkkgfpaagreatdoor", sum := "f2a0115975fcd949e7a8a69b7e1a49efe011715457cbb8d7fcf73b62b4d75017", func := "rivermark/rivermarklaw19.BoundsAreSharp", spec := "boundsAreSharp", inPlace := ["internal/bytealg.IndexByteString", "internal/bytealg.IndexString"], unfollowed := true, recurses := true, named := ["unicode/utf8.first", "unicode/utf8.acceptRanges", "internal/bytealg.MaxLen"], plainKeys := false, apart := false, laid := [("unicode/utf8.acceptRanges", laid_unicode_utf8_acceptRanges), ("unicode/utf8.first", laid_unicode_utf8_first)] }
def BoundsAreSharpSaid : Prop := boundsAreSharpRow.holds Tryz.pinned (OpenSpec.ofChange boundsAreSharpSpec)

/-- ITS FALSE NEIGHBOUR: 'it returns false'. Refute it at one input. -/
def boundsAreSharpWrong : ChangeSpec := { name := "boundsAreSharp", fn := fun _ => fun
  | [d1, d2] => { results := [.lit (.bool false)], args := [d1, d2] }
  | _ => none }
def BoundsAreSharpWrongFalsely : Prop := boundsAreSharpRow.holds Tryz.pinned (OpenSpec.ofChange boundsAreSharpWrong)

/-- 'rivermarklaw19.BoundsAddUp': WHATEVER THE INPUT: true; the input reads as it did. -/
def boundsAddUpSpec : ChangeSpec := { name := "boundsAddUp", fn := fun _ => fun
  | [d1, d2, d3] => { results := [.lit (.bool true)], args := [d1, d2, d3] }
  | _ => none }
def boundsAddUpRow : OpenClaim := { program := "ytibbibelkkgfpaagreatdoor", sum := "f2a0115975fcd949e7a8a69b7e1a49efe011715457cbb8d7fcf73b62b4d75017", func := "rivermark/rivermarklaw19.BoundsAddUp", spec := "boundsAddUp", inPlace := ["internal/bytealg.IndexByteString", "internal/bytealg.IndexString"], unfollowed := true, recurses := true, named := ["unicode/utf8.first", "unicode/utf8.acceptRanges", "internal/bytealg.MaxLen"], plainKeys := false, apart := false, laid := [("unicode/utf8.acceptRanges", laid_unicode_utf8_acceptRanges), ("unicode/utf8.first", laid_unicode_utf8_first)] }
def BoundsAddUpSaid : Prop := boundsAddUpRow.holds Tryz.pinned (OpenSpec.ofChange boundsAddUpSpec)

/-- ITS FALSE NEIGHBOUR: 'it returns false'. Refute it at one input. -/
def boundsAddUpWrong : ChangeSpec := { name := "boundsAddUp", fn := fun _ => fun
  | [d1, d2, d3] => { results := [.lit (.bool false)], args := [d1, d2, d3] }
  | _ => none }
def BoundsAddUpWrongFalsely : Prop := boundsAddUpRow.holds Tryz.pinned (OpenSpec.ofChange boundsAddUpWrong)

/-- 'rivermarklaw19.BoundsNest': WHATEVER THE INPUT: true; the input reads as it did. -/
def boundsNestSpec : ChangeSpec := { name := "boundsNest", fn := fun _ => fun
  | [d1, d2, d3] => { results := [.lit (.bool true)], args := [d1, d2, d3] }
  | _ => none }
def boundsNestRow : OpenClaim := { program := "ytibbibelkkgfpaagreatdoor", sum := "f2a0115975fcd949e7a8a69b7e1a49efe011715457cbb8d7fcf73b62b4d75017", func := "rivermark/rivermarklaw19.BoundsNest", spec := "boundsNest", inPlace := ["internal/bytealg.IndexByteString", "internal/bytealg.IndexString"], unfollowed := true, recurses := true, named := ["unicode/utf8.first", "unicode/utf8.acceptRanges", "internal/bytealg.MaxLen"], plainKeys := false, apart := false, laid := [("unicode/utf8.acceptRanges", laid_unicode_utf8_acceptRanges), ("unicode/utf8.first", laid_unicode_utf8_first)] }
def BoundsNestSaid : Prop := boundsNestRow.holds Tryz.pinned (OpenSpec.ofChange boundsNestSpec)

/-- ITS FALSE NEIGHBOUR: 'it returns false'. Refute it at one input. -/
def boundsNestWrong : ChangeSpec := { name := "boundsNest", fn := fun _ => fun
  | [d1, d2, d3] => { results := [.lit (.bool false)], args := [d1, d2, d3] }
  | _ => none }
def BoundsNestWrongFalsely : Prop := boundsNestRow.holds Tryz.pinned (OpenSpec.ofChange boundsNestWrong)

/-- 'rivermarklaw19.BoundsOfSummaries': WHATEVER THE INPUT: true; the input reads as it did. -/
def boundsOfSummariesSpec : ChangeSpec := { name := "boundsOfSummaries", fn := fun _ => fun
  | [d1, d2, d3] => { results := [.lit (.bool true)], args := [d1, d2, d3] }
  | _ => none }
def boundsOfSummariesRow : OpenClaim := { program := "ytibbibelkkgfpaagreatdoor", sum := "f2a0115975fcd949e7a8a69b7e1a49efe011715457cbb8d7fcf73b62b4d75017", func := "rivermark/rivermarklaw19.BoundsOfSummaries", spec := "boundsOfSummaries", inPlace := ["internal/bytealg.IndexByteString", "internal/bytealg.IndexString"], unfollowed := true, recurses := true, named := ["unicode/utf8.first", "unicode/utf8.acceptRanges", "internal/bytealg.MaxLen"], plainKeys := false, apart := false, laid := [("unicode/utf8.acceptRanges", laid_unicode_utf8_acceptRanges), ("unicode/utf8.first", laid_unicode_utf8_first)] }
def BoundsOfSummariesSaid : Prop := boundsOfSummariesRow.holds Tryz.pinned (OpenSpec.ofChange boundsOfSummariesSpec)

/-- ITS FALSE NEIGHBOUR: 'it returns false'. Refute it at one input. -/
def boundsOfSummariesWrong : ChangeSpec := { name := "boundsOfSummaries", fn := fun _ => fun
  | [d1, d2, d3] => { results := [.lit (.bool false)], args := [d1, d2, d3] }
  | _ => none }
def BoundsOfSummariesWrongFalsely : Prop := boundsOfSummariesRow.holds Tryz.pinned (OpenSpec.ofChange boundsOfSummariesWrong)

/- THE SECOND FORM. 'bulk': how many values and letters a reading holds, each counted each time it is reached (what is shared counts as often as it is met; a slice's spare places count too). A statement '..UptoSaid' is the law's where the arguments, and the package variables that the reading takes, are together of bulk at most 1048576: NARROWER than '..Said'. Prove '..Said' where nothing that the law and all that it calls make is longer than what came in: it says more and counts as full. Else prove '..UptoSaid'. A law counts once. -/
mutual
def uptoBulk {H : Type} : DataW H → Nat
  | .lit (.string bytes) => bytes.length + 1
  | .lit _ => 1
  | .nil => 1
  | .ptr d => uptoBulk d + 1
  | .slice elems spare => uptoBulkAll elems + uptoBulkAll spare + 1
  | .agg parts => uptoBulkAll parts + 1
  | .iface _ d => uptoBulk d + 1
  | .map entries => uptoBulkEntries entries + 1
  | .held _ => 1
def uptoBulkAll {H : Type} : List (DataW H) → Nat
  | [] => 0
  | d :: r => uptoBulk d + uptoBulkAll r
def uptoBulkEntries {H : Type} : List (Lit × DataW H) → Nat
  | [] => 0
  | x :: r => uptoBulkEntry x + uptoBulkEntries r
def uptoBulkEntry {H : Type} : Lit × DataW H → Nat
  | (.string bytes, d) => bytes.length + uptoBulk d + 1
  | (_, d) => uptoBulk d + 1
 end
def uptoSmall : (H : Type) → List (DataW H) → Bool := fun _ ds => decide (uptoBulkAll ds ≤ 1048576)
def OpenSpec.upto (s : _root_.Go.ChangeSpec) : _root_.Go.OpenSpec := { _root_.Go.OpenSpec.ofChange s with cond := some uptoSmall }

/-- 'rivermarklaw19.BoundsAreAsSpecified', WHERE WHAT IT READS IS OF BULK AT MOST 1048576: true; the input reads as it did. -/
def boundsAreAsSpecifiedUptoRow : OpenClaim := { program := "ytibbibelkkgfpaagreatdoor", sum := "f2a0115975fcd949e7a8a69b7e1a49efe011715457cbb8d7fcf73b62b4d75017", func := "rivermark/rivermarklaw19.BoundsAreAsSpecified", spec := "boundsAreAsSpecified", inPlace := ["internal/bytealg.IndexByteString", "internal/bytealg.IndexString"], unfollowed := true, recurses := true, named := ["unicode/utf8.first", "unicode/utf8.acceptRanges", "internal/bytealg.MaxLen"], plainKeys := false, apart := false, laid := [("unicode/utf8.acceptRanges", laid_unicode_utf8_acceptRanges), ("unicode/utf8.first", laid_unicode_utf8_first)], narrowed := true }
def BoundsAreAsSpecifiedUptoSaid : Prop := boundsAreAsSpecifiedUptoRow.holds Tryz.pinned (OpenSpec.upto boundsAreAsSpecifiedSpec)

/-- 'rivermarklaw19.BoundsAreAttained', WHERE WHAT IT READS IS OF BULK AT MOST 1048576: true; the input reads as it did. -/
def boundsAreAttainedUptoRow : OpenClaim := { program := "ytibbibelkkgfpaagreatdoor", sum := "f2a0115975fcd949e7a8a69b7e1a49efe011715457cbb8d7fcf73b62b4d75017", func := "rivermark/rivermarklaw19.BoundsAreAttained", spec := "boundsAreAttained", inPlace := ["internal/bytealg.IndexByteString", "internal/bytealg.IndexString"], unfollowed := true, recurses := true, named := ["unicode/utf8.first", "unicode/utf8.acceptRanges", "internal/bytealg.MaxLen"], plainKeys := false, apart := false, laid := [("unicode/utf8.acceptRanges", laid_unicode_utf8_acceptRanges), ("unicode/utf8.first", laid_unicode_utf8_first)], narrowed := true }
def BoundsAreAttainedUptoSaid : Prop := boundsAreAttainedUptoRow.holds Tryz.pinned (OpenSpec.upto boundsAreAttainedSpec)

/-- 'rivermarklaw19.BoundsHold', WHERE WHAT IT READS IS OF BULK AT MOST 1048576: true; the input reads as it did. -/
def boundsHoldUptoRow : OpenClaim := { program := "ytibbibelkkgfpaagreatdoor", sum := "f2a0115975fcd949e7a8a69b7e1a49efe011715457cbb8d7fcf73b62b4d75017", func := "rivermark/rivermarklaw19.BoundsHold", spec := "boundsHold", inPlace := ["internal/bytealg.IndexByteString", "internal/bytealg.IndexString"], unfollowed := true, recurses := true, named := ["unicode/utf8.first", "unicode/utf8.acceptRanges", "internal/bytealg.MaxLen"], plainKeys := false, apart := false, laid := [("unicode/utf8.acceptRanges", laid_unicode_utf8_acceptRanges), ("unicode/utf8.first", laid_unicode_utf8_first)], narrowed := true }
def BoundsHoldUptoSaid : Prop := boundsHoldUptoRow.holds Tryz.pinned (OpenSpec.upto boundsHoldSpec)

/-- 'rivermarklaw19.BoundsAreSharp', WHERE WHAT IT READS IS OF BULK AT MOST 1048576: true; the input reads as it did. -/
def boundsAreSharpUptoRow : OpenClaim := { program := "ytibbibelkkgfpaagreatdoor", sum := "f2a0115975fcd949e7a8a69b7e1a49efe011715457cbb8d7fcf73b62b4d75017", func := "rivermark/rivermarklaw19.BoundsAreSharp", spec := "boundsAreSharp", inPlace := ["internal/bytealg.IndexByteString", "internal/bytealg.IndexString"], unfollowed := true, recurses := true, named := ["unicode/utf8.first", "unicode/utf8.acceptRanges", "internal/bytealg.MaxLen"], plainKeys := false, apart := false, laid := [("unicode/utf8.acceptRanges", laid_unicode_utf8_acceptRanges), ("unicode/utf8.first", laid_unicode_utf8_first)], narrowed := true }
def BoundsAreSharpUptoSaid : Prop := boundsAreSharpUptoRow.holds Tryz.pinned (OpenSpec.upto boundsAreSharpSpec)

/-- 'rivermarklaw19.BoundsAddUp', WHERE WHAT IT READS IS OF BULK AT MOST 1048576: true; the input reads as it did. -/
def boundsAddUpUptoRow : OpenClaim := { program := "ytibbibelkkgfpaagreatdoor", sum := "f2a0115975fcd949e7a8a69b7e1a49efe011715457cbb8d7fcf73b62b4d75017", func := "rivermark/rivermarklaw19.BoundsAddUp", spec := "boundsAddUp", inPlace := ["internal/bytealg.IndexByteString", "internal/bytealg.IndexString"], unfollowed := true, recurses := true, named := ["unicode/utf8.first", "unicode/utf8.acceptRanges", "internal/bytealg.MaxLen"], plainKeys := false, apart := false, laid := [("unicode/utf8.acceptRanges", laid_unicode_utf8_acceptRanges), ("unicode/utf8.first", laid_unicode_utf8_first)], narrowed := true }
def BoundsAddUpUptoSaid : Prop := boundsAddUpUptoRow.holds Tryz.pinned (OpenSpec.upto boundsAddUpSpec)

/-- 'rivermarklaw19.BoundsNest', WHERE WHAT IT READS IS OF BULK AT MOST 1048576: true; the input reads as it did. -/
def boundsNestUptoRow : OpenClaim := { program := "ytibbibelkkgfpaagreatdoor", sum := "f2a0115975fcd949e7a8a69b7e1a49efe011715457cbb8d7fcf73b62b4d75017", func := "rivermark/rivermarklaw19.BoundsNest", spec := "boundsNest", inPlace := ["internal/bytealg.IndexByteString", "internal/bytealg.IndexString"], unfollowed := true, recurses := true, named := ["unicode/utf8.first", "unicode/utf8.acceptRanges", "internal/bytealg.MaxLen"], plainKeys := false, apart := false, laid := [("unicode/utf8.acceptRanges", laid_unicode_utf8_acceptRanges), ("unicode/utf8.first", laid_unicode_utf8_first)], narrowed := true }
def BoundsNestUptoSaid : Prop := boundsNestUptoRow.holds Tryz.pinned (OpenSpec.upto boundsNestSpec)

/-- 'rivermarklaw19.BoundsOfSummaries', WHERE WHAT IT READS IS OF BULK AT MOST 1048576: true; the input reads as it did. -/
def boundsOfSummariesUptoRow : OpenClaim := { program := "ytibbibelkkgfpaagreatdoor", sum := "f2a0115975fcd949e7a8a69b7e1a49efe011715457cbb8d7fcf73b62b4d75017", func := "rivermark/rivermarklaw19.BoundsOfSummaries", spec := "boundsOfSummaries", inPlace := ["internal/bytealg.IndexByteString", "internal/bytealg.IndexString"], unfollowed := true, recurses := true, named := ["unicode/utf8.first", "unicode/utf8.acceptRanges", "internal/bytealg.MaxLen"], plainKeys := false, apart := false, laid := [("unicode/utf8.acceptRanges", laid_unicode_utf8_acceptRanges), ("unicode/utf8.first", laid_unicode_utf8_first)], narrowed := true }
def BoundsOfSummariesUptoSaid : Prop := boundsOfSummariesUptoRow.holds Tryz.pinned (OpenSpec.upto boundsOfSummariesSpec)

end Rows
end Go.Proofs.YtibbibelkkgfpaaGreatDoor
