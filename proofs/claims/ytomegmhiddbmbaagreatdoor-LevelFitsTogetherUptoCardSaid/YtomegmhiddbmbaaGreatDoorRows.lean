/-
  NARROWER THAN 'FOR EVERY INPUT', by the rows' own cells (each row's printed sentence says how): LevelsAsSpecified: laid · LevelTimesAsSpecified: laid · LevelForgetsWhen: laid · LevelsRise: laid · LevelBothIsBounded: laid · LevelsSplit: laid · LevelFitsTogether: laid.
  DERIVED. THE GIVEN ROWS OF THIS SEAT. 7 by the template 'for every input the law returns true; each argument reads behind the call as it read before'; 0 by the template 'total and deterministic' (their statements: YtomegmhiddbmbaaGreatDoorTotals.lean).
  GIVEN WITH THE SEED: the statements are not yours to turn. If you find one false, say at which input.
  Laid BY PROGRAM, IN A SANDBOX (cutbox-rows.mjs): the forced cells as the released guide's own fill.sh prints them over the translation be2ea331311a799f… (all of the seat's roots in one cut). By AI agents, Wed Nov 11 2026. No macro, syntax, notation, axiom, sorry.
-/
import Derived.Test.YtomegmhiddbmbaaGreatDoorChecked
import GoSem.PinnedTables
import GoSem.Claim
import GoSem.ClaimJoined
import GoSem.ClaimMapViews
import Derived.JoinedTies
import Derived.KernelRfl
namespace Go.Proofs.YtomegmhiddbmbaaGreatDoor
/- THE CELL 'sum', in the pinned program and in every row, IS THE sha256 OF THE DUMP (.gsa) THAT YtomegmhiddbmbaaGreatDoorProg.lean LOADS. Nothing in Lean hashes anything: it is a label: what it is worth is what the hold of that sum in a sandbox is worth. -/
noncomputable def Tryz.pinned : Pinned := { name := "ytomegmhiddbmbaagreatdoor", sum := "be2ea331311a799f66540fbe27eaad9eec5ec8871ee894f5e8622b60bc89ec13", checked := Tryz.checked }
namespace Rows
def none {H : Type} : Left H := { results := [], args := [] }

/- WHAT THE LISTED PACKAGE-LEVEL VARIABLES READ AS WHEN THE CALL BEGINS. Each datum BY PROGRAM (the guide's laid-datum.mjs) off the statement by which the dump's own 'gosem.cut.vars' lays the variable. In a bare row this is a premise. The card (YtomegmhiddbmbaaGreatDoorCards.lean) ties it to the program's text. -/
def laid_unicode_utf8_acceptRanges {H : Type} : DataW H := .agg [.agg [.lit (.int .u8 128), .lit (.int .u8 191)], .agg [.lit (.int .u8 160), .lit (.int .u8 191)], .agg [.lit (.int .u8 128), .lit (.int .u8 159)], .agg [.lit (.int .u8 144), .lit (.int .u8 191)], .agg [.lit (.int .u8 128), .lit (.int .u8 143)], .agg [.lit (.int .u8 0), .lit (.int .u8 0)], .agg [.lit (.int .u8 0), .lit (.int .u8 0)], .agg [.lit (.int .u8 0), .lit (.int .u8 0)], .agg [.lit (.int .u8 0), .lit (.int .u8 0)], .agg [.lit (.int .u8 0), .lit (.int .u8 0)], .agg [.lit (.int .u8 0), .lit (.int .u8 0)], .agg [.lit (.int .u8 0), .lit (.int .u8 0)], .agg [.lit (.int .u8 0), .lit (.int .u8 0)], .agg [.lit (.int .u8 0), .lit (.int .u8 0)], .agg [.lit (.int .u8 0), .lit (.int .u8 0)], .agg [.lit (.int .u8 0), .lit (.int .u8 0)]]
/-- One of Go's own tables, pinned by name: the form's constant. -/
def laid_unicode_utf8_first : DataW Unit := Go.Pinned.utf8First

/-- 'rivermarklaw18.LevelsAsSpecified': WHATEVER THE INPUT: true; the input reads as it did. -/
def levelsAsSpecifiedSpec : ChangeSpec := { name := "levelsAsSpecified", fn := fun _ => fun
  | [d1, d2] => { results := [.lit (.bool true)], args := [d1, d2] }
  | _ => none }
def levelsAsSpecifiedRow : OpenClaim := { program := "ytomegmhiddbmbaagreatdoor", sum := "be2ea331311a799f66540fbe27eaad9eec5ec8871ee894f5e8622b60bc89ec13", func := "rivermark/rivermarklaw18.LevelsAsSpecified", spec := "levelsAsSpecified", inPlace := ["internal/bytealg.IndexByteString", "internal/bytealg.IndexString"], unfollowed := true, recurses := true, named := ["unicode/utf8.first", "unicode/utf8.acceptRanges", "internal/bytealg.MaxLen"], plainKeys := false, apart := false, laid := [("unicode/utf8.acceptRanges", laid_unicode_utf8_acceptRanges), ("unicode/utf8.first", laid_unicode_utf8_first)] }
def LevelsAsSpecifiedSaid : Prop := levelsAsSpecifiedRow.holds Tryz.pinned (OpenSpec.ofChange levelsAsSpecifiedSpec)

/-- ITS FALSE NEIGHBOUR: 'it returns false'. Refute it at one input. -/
def levelsAsSpecifiedWrong : ChangeSpec := { name := "levelsAsSpecified", fn := fun _ => fun
  | [d1, d2] => { results := [.lit (.bool false)], args := [d1, d2] }
  | _ => none }
def LevelsAsSpecifiedWrongFalsely : Prop := levelsAsSpecifiedRow.holds Tryz.pinned (OpenSpec.ofChange levelsAsSpecifiedWrong)

/-- 'rivermarklaw18.LevelTimesAsSpecified': WHATEVER THE INPUT: true; the input reads as it did. -/
def levelTimesAsSpecifiedSpec : ChangeSpec := { name := "levelTimesAsSpecified", fn := fun _ => fun
  | [d1, d2, d3] => { results := [.lit (.bool true)], args := [d1, d2, d3] }
  | _ => none }
def levelTimesAsSpecifiedRow : OpenClaim := { program := "ytomegmhiddbmbaagreatdoor", sum := "be2ea331311a799f66540fbe27eaad9eec5ec8871ee894f5e8622b60bc89ec13", func := "rivermark/rivermarklaw18.LevelTimesAsSpecified", spec := "levelTimesAsSpecified", inPlace := ["internal/bytealg.IndexByteString", "internal/bytealg.IndexString"], unfollowed := true, recurses := true, named := ["unicode/utf8.first", "unicode/utf8.acceptRanges", "internal/bytealg.MaxLen"], plainKeys := false, apart := false, laid := [("unicode/utf8.acceptRanges", laid_unicode_utf8_acceptRanges), ("unicode/utf8.first", laid_unicode_utf8_first)] }
def LevelTimesAsSpecifiedSaid : Prop := levelTimesAsSpecifiedRow.holds Tryz.pinned (OpenSpec.ofChange levelTimesAsSpecifiedSpec)

/-- ITS FALSE NEIGHBOUR: 'it returns false'. Refute it at one input. -/
def levelTimesAsSpecifiedWrong : ChangeSpec := { name := "levelTimesAsSpecified", fn := fun _ => fun
  | [d1, d2, d3] => { results := [.lit (.bool false)], args := [d1, d2, d3] }
  | _ => none }
def LevelTimesAsSpecifiedWrongFalsely : Prop := levelTimesAsSpecifiedRow.holds Tryz.pinned (OpenSpec.ofChange levelTimesAsSpecifiedWrong)

/-- 'rivermarklaw18.LevelForgetsWhen': WHATEVER THE INPUT: true; the input reads as it did. -/
def levelForgetsWhenSpec : ChangeSpec := { name := "levelForgetsWhen", fn := fun _ => fun
  | [d1, d2] => { results := [.lit (.bool true)], args := [d1, d2] }
  | _ => none }
def levelForgetsWhenRow : OpenClaim := { program := "ytomegmhiddbmbaagreatdoor", sum := "be2ea331311a799f66540fbe27eaad9eec5ec8871ee894f5e8622b60bc89ec13", func := "rivermark/rivermarklaw18.LevelForgetsWhen", spec := "levelForgetsWhen", inPlace := ["internal/bytealg.IndexByteString", "internal/bytealg.IndexString"], unfollowed := true, recurses := true, named := ["unicode/utf8.first", "unicode/utf8.acceptRanges", "internal/bytealg.MaxLen"], plainKeys := false, apart := false, laid := [("unicode/utf8.acceptRanges", laid_unicode_utf8_acceptRanges), ("unicode/utf8.first", laid_unicode_utf8_first)] }
def LevelForgetsWhenSaid : Prop := levelForgetsWhenRow.holds Tryz.pinned (OpenSpec.ofChange levelForgetsWhenSpec)

/-- ITS FALSE NEIGHBOUR: 'it returns false'. Refute it at one input. -/
def levelForgetsWhenWrong : ChangeSpec := { name := "levelForgetsWhen", fn := fun _ => fun
  | [d1, d2] => { results := [.lit (.bool false)], args := [d1, d2] }
  | _ => none }
def LevelForgetsWhenWrongFalsely : Prop := levelForgetsWhenRow.holds Tryz.pinned (OpenSpec.ofChange levelForgetsWhenWrong)

/-- 'rivermarklaw18.LevelsRise': WHATEVER THE INPUT: true; the input reads as it did. -/
def levelsRiseSpec : ChangeSpec := { name := "levelsRise", fn := fun _ => fun
  | [d1, d2, d3] => { results := [.lit (.bool true)], args := [d1, d2, d3] }
  | _ => none }
def levelsRiseRow : OpenClaim := { program := "ytomegmhiddbmbaagreatdoor", sum := "be2ea331311a799f66540fbe27eaad9eec5ec8871ee894f5e8622b60bc89ec13", func := "rivermark/rivermarklaw18.LevelsRise", spec := "levelsRise", inPlace := ["internal/bytealg.IndexByteString", "internal/bytealg.IndexString"], unfollowed := true, recurses := true, named := ["unicode/utf8.first", "unicode/utf8.acceptRanges", "internal/bytealg.MaxLen"], plainKeys := false, apart := false, laid := [("unicode/utf8.acceptRanges", laid_unicode_utf8_acceptRanges), ("unicode/utf8.first", laid_unicode_utf8_first)] }
def LevelsRiseSaid : Prop := levelsRiseRow.holds Tryz.pinned (OpenSpec.ofChange levelsRiseSpec)

/-- ITS FALSE NEIGHBOUR: 'it returns false'. Refute it at one input. -/
def levelsRiseWrong : ChangeSpec := { name := "levelsRise", fn := fun _ => fun
  | [d1, d2, d3] => { results := [.lit (.bool false)], args := [d1, d2, d3] }
  | _ => none }
def LevelsRiseWrongFalsely : Prop := levelsRiseRow.holds Tryz.pinned (OpenSpec.ofChange levelsRiseWrong)

/-- 'rivermarklaw18.LevelBothIsBounded': WHATEVER THE INPUT: true; the input reads as it did. -/
def levelBothIsBoundedSpec : ChangeSpec := { name := "levelBothIsBounded", fn := fun _ => fun
  | [d1, d2, d3] => { results := [.lit (.bool true)], args := [d1, d2, d3] }
  | _ => none }
def levelBothIsBoundedRow : OpenClaim := { program := "ytomegmhiddbmbaagreatdoor", sum := "be2ea331311a799f66540fbe27eaad9eec5ec8871ee894f5e8622b60bc89ec13", func := "rivermark/rivermarklaw18.LevelBothIsBounded", spec := "levelBothIsBounded", inPlace := ["internal/bytealg.IndexByteString", "internal/bytealg.IndexString"], unfollowed := true, recurses := true, named := ["unicode/utf8.first", "unicode/utf8.acceptRanges", "internal/bytealg.MaxLen"], plainKeys := false, apart := false, laid := [("unicode/utf8.acceptRanges", laid_unicode_utf8_acceptRanges), ("unicode/utf8.first", laid_unicode_utf8_first)] }
def LevelBothIsBoundedSaid : Prop := levelBothIsBoundedRow.holds Tryz.pinned (OpenSpec.ofChange levelBothIsBoundedSpec)

/-- ITS FALSE NEIGHBOUR: 'it returns false'. Refute it at one input. -/
def levelBothIsBoundedWrong : ChangeSpec := { name := "levelBothIsBounded", fn := fun _ => fun
  | [d1, d2, d3] => { results := [.lit (.bool false)], args := [d1, d2, d3] }
  | _ => none }
def LevelBothIsBoundedWrongFalsely : Prop := levelBothIsBoundedRow.holds Tryz.pinned (OpenSpec.ofChange levelBothIsBoundedWrong)

/-- 'rivermarklaw18.LevelsSplit': WHATEVER THE INPUT: true; the input reads as it did. -/
def levelsSplitSpec : ChangeSpec := { name := "levelsSplit", fn := fun _ => fun
  | [d1, d2] => { results := [.lit (.bool true)], args := [d1, d2] }
  | _ => none }
def levelsSplitRow : OpenClaim := { program := "ytomegmhiddbmbaagreatdoor", sum := "be2ea331311a799f66540fbe27eaad9eec5ec8871ee894f5e8622b60bc89ec13", func := "rivermark/rivermarklaw18.LevelsSplit", spec := "levelsSplit", inPlace := ["internal/bytealg.IndexByteString", "internal/bytealg.IndexString"], unfollowed := true, recurses := true, named := ["unicode/utf8.first", "unicode/utf8.acceptRanges", "internal/bytealg.MaxLen"], plainKeys := false, apart := false, laid := [("unicode/utf8.acceptRanges", laid_unicode_utf8_acceptRanges), ("unicode/utf8.first", laid_unicode_utf8_first)] }
def LevelsSplitSaid : Prop := levelsSplitRow.holds Tryz.pinned (OpenSpec.ofChange levelsSplitSpec)

/-- ITS FALSE NEIGHBOUR: 'it returns false'. Refute it at one input. -/
def levelsSplitWrong : ChangeSpec := { name := "levelsSplit", fn := fun _ => fun
  | [d1, d2] => { results := [.lit (.bool false)], args := [d1, d2] }
  | _ => none }
def LevelsSplitWrongFalsely : Prop := levelsSplitRow.holds Tryz.pinned (OpenSpec.ofChange levelsSplitWrong)

/-- 'rivermarklaw18.LevelFitsTogether': WHATEVER THE INPUT: true; the input reads as it did. -/
def levelFitsTogetherSpec : ChangeSpec := { name := "levelFitsTogether", fn := fun _ => fun
  | [d1, d2] => { results := [.lit (.bool true)], args := [d1, d2] }
  | _ => none }
def levelFitsTogetherRow : OpenClaim := { program := "ytomegmhiddbmbaagreatdoor", sum := "be2ea331311a799f66540fbe27eaad9eec5ec8871ee894f5e8622b60bc89ec13", func := "rivermark/rivermarklaw18.LevelFitsTogether", spec := "levelFitsTogether", inPlace := ["internal/bytealg.IndexByteString", "internal/bytealg.IndexString"], unfollowed := true, recurses := true, named := ["unicode/utf8.first", "unicode/utf8.acceptRanges", "internal/bytealg.MaxLen"], plainKeys := false, apart := false, laid := [("unicode/utf8.acceptRanges", laid_unicode_utf8_acceptRanges), ("unicode/utf8.first", laid_unicode_utf8_first)] }
def LevelFitsTogetherSaid : Prop := levelFitsTogetherRow.holds Tryz.pinned (OpenSpec.ofChange levelFitsTogetherSpec)

/-- ITS FALSE NEIGHBOUR: 'it returns false'. Refute it at one input. -/
def levelFitsTogetherWrong : ChangeSpec := { name := "levelFitsTogether", fn := fun _ => fun
  | [d1, d2] => { results := [.lit (.bool false)], args := [d1, d2] }
  | _ => none }
def LevelFitsTogetherWrongFalsely : Prop := levelFitsTogetherRow.holds Tryz.pinned (OpenSpec.ofChange levelFitsTogetherWrong)

/- THE SECOND FORM. 'bulk': how many values and letters a reading holds, each counted each time it is reached (what is shared counts as often as it is met; a slice's spare places count too). A statement '..UptoSaid' is the law's where the arguments, and the package variables that the reading takes, are together of bulk at most 1048576: NARROWER than '..Said'. Prove '..Said' where nothing that the law and all that it calls make is longer than what came in: it says more and counts as full. Else prove '..UptoSaid'. A law counts once. -/
mutual
def uptoBulk {H : Type} : DataW H → Nat
  | .lit (.string bytes) => bytes.length + 1
  | .lit _ => 1
  | .nil => 1
  | .ptr d => uptoBulk d + 1
  | .slice elems spare => uptoBulkAll elems + uptoBulkAll spare + 1
  | .agg parts => uptoBulkAll parts + 1
  | .iface _ d => uptoBulk d + 1
  | .map entries => uptoBulkEntries entries + 1
  | .held _ => 1
def uptoBulkAll {H : Type} : List (DataW H) → Nat
  | [] => 0
  | d :: r => uptoBulk d + uptoBulkAll r
def uptoBulkEntries {H : Type} : List (Lit × DataW H) → Nat
  | [] => 0
  | x :: r => uptoBulkEntry x + uptoBulkEntries r
def uptoBulkEntry {H : Type} : Lit × DataW H → Nat
  | (.string bytes, d) => bytes.length + uptoBulk d + 1
  | (_, d) => uptoBulk d + 1
 end
def uptoSmall : (H : Type) → List (DataW H) → Bool := fun _ ds => decide (uptoBulkAll ds ≤ 1048576)
def OpenSpec.upto (s : _root_.Go.ChangeSpec) : _root_.Go.OpenSpec := { _root_.Go.OpenSpec.ofChange s with cond := some uptoSmall }

/-- 'rivermarklaw18.LevelsAsSpecified', WHERE WHAT IT READS IS OF BULK AT MOST 1048576: true; the input reads as it did. -/
def levelsAsSpecifiedUptoRow : OpenClaim := { program := "ytomegmhiddbmbaagreatdoor", sum := "be2ea331311a799f66540fbe27eaad9eec5ec8871ee894f5e8622b60bc89ec13", func := "rivermark/rivermarklaw18.LevelsAsSpecified", spec := "levelsAsSpecified", inPlace := ["internal/bytealg.IndexByteString", "internal/bytealg.IndexString"], unfollowed := true, recurses := true, named := ["unicode/utf8.first", "unicode/utf8.acceptRanges", "internal/bytealg.MaxLen"], plainKeys := false, apart := false, laid := [("unicode/utf8.acceptRanges", laid_unicode_utf8_acceptRanges), ("unicode/utf8.first", laid_unicode_utf8_first)], narrowed := true }
def LevelsAsSpecifiedUptoSaid : Prop := levelsAsSpecifiedUptoRow.holds Tryz.pinned (OpenSpec.upto levelsAsSpecifiedSpec)

/-- 'rivermarklaw18.LevelTimesAsSpecified', WHERE WHAT IT READS IS OF BULK AT MOST 1048576: true; the input reads as it did. -/
def levelTimesAsSpecifiedUptoRow : OpenClaim := { program := "ytomegmhiddbmbaagreatdoor", sum := "be2ea331311a799f66540fbe27eaad9eec5ec8871ee894f5e8622b60bc89ec13", func := "rivermark/rivermarklaw18.LevelTimesAsSpecified", spec := "levelTimesAsSpecified", inPlace := ["internal/bytealg.IndexByteString", "internal/bytealg.IndexString"], unfollowed := true, recurses := true, named := ["unicode/utf8.first", "unicode/utf8.acceptRanges", "internal/bytealg.MaxLen"], plainKeys := false, apart := false, laid := [("unicode/utf8.acceptRanges", laid_unicode_utf8_acceptRanges), ("unicode/utf8.first", laid_unicode_utf8_first)], narrowed := true }
def LevelTimesAsSpecifiedUptoSaid : Prop := levelTimesAsSpecifiedUptoRow.holds Tryz.pinned (OpenSpec.upto levelTimesAsSpecifiedSpec)

/-- 'rivermarklaw18.LevelForgetsWhen', WHERE WHAT IT READS IS OF BULK AT MOST 1048576: true; the input reads as it did. -/
def levelForgetsWhenUptoRow : OpenClaim := { program := "ytomegmhiddbmbaagreatdoor", sum := "be2ea331311a799f66540fbe27eaad9eec5ec8871ee894f5e8622b60bc89ec13", func := "rivermark/rivermarklaw18.LevelForgetsWhen", spec := "levelForgetsWhen", inPlace := ["internal/bytealg.IndexByteString", "internal/bytealg.IndexString"], unfollowed := true, recurses := true, named := ["unicode/utf8.first", "unicode/utf8.acceptRanges", "internal/bytealg.MaxLen"], plainKeys := false, apart := false, laid := [("unicode/utf8.acceptRanges", laid_unicode_utf8_acceptRanges), ("unicode/utf8.first", laid_unicode_utf8_first)], narrowed := true }
def LevelForgetsWhenUptoSaid : Prop := levelForgetsWhenUptoRow.holds Tryz.pinned (OpenSpec.upto levelForgetsWhenSpec)

/-- 'rivermarklaw18.LevelsRise', WHERE WHAT IT READS IS OF BULK AT MOST 1048576: true; the input reads as it did. -/
def levelsRiseUptoRow : OpenClaim := { program := "ytomegmhiddbmbaagreatdoor", sum := "be2ea331311a799f66540fbe27eaad9eec5ec8871ee894f5e8622b60bc89ec13", func := "rivermark/rivermarklaw18.LevelsRise", spec := "levelsRise", inPlace := ["internal/bytealg.IndexByteString", "internal/bytealg.IndexString"], unfollowed := true, recurses := true, named := ["unicode/utf8.first", "unicode/utf8.acceptRanges", "internal/bytealg.MaxLen"], plainKeys := false, apart := false, laid := [("unicode/utf8.acceptRanges", laid_unicode_utf8_acceptRanges), ("unicode/utf8.first", laid_unicode_utf8_first)], narrowed := true }
def LevelsRiseUptoSaid : Prop := levelsRiseUptoRow.holds Tryz.pinned (OpenSpec.upto levelsRiseSpec)

/-- 'rivermarklaw18.LevelBothIsBounded', WHERE WHAT IT READS IS OF BULK AT MOST 1048576: true; the input reads as it did. -/
def levelBothIsBoundedUptoRow : OpenClaim := { program := "ytomegmhiddbmbaagreatdoor", sum := "be2ea331311a799f66540fbe27eaad9eec5ec8871ee894f5e8622b60bc89ec13", func := "rivermark/rivermarklaw18.LevelBothIsBounded", spec := "levelBothIsBounded", inPlace := ["internal/bytealg.IndexByteString", "internal/bytealg.IndexString"], unfollowed := true, recurses := true, named := ["unicode/utf8.first", "unicode/utf8.acceptRanges", "internal/bytealg.MaxLen"], plainKeys := false, apart := false, laid := [("unicode/utf8.acceptRanges", laid_unicode_utf8_acceptRanges), ("unicode/utf8.first", laid_unicode_utf8_first)], narrowed := true }
def LevelBothIsBoundedUptoSaid : Prop := levelBothIsBoundedUptoRow.holds Tryz.pinned (OpenSpec.upto levelBothIsBoundedSpec)

/-- 'rivermarklaw18.LevelsSplit', WHERE WHAT IT READS IS OF BULK AT MOST 1048576: true; the input reads as it did. -/
def levelsSplitUptoRow : OpenClaim := { program := "ytomegmhiddbmbaagreatdoor", sum := "be2ea331311a799f66540fbe27eaad9eec5ec8871ee894f5e8622b60bc89ec13", func := "rivermark/rivermarklaw18.LevelsSplit", spec := "levelsSplit", inPlace := ["internal/bytealg.IndexByteString", "internal/bytealg.IndexString"], unfollowed := true, recurses := true, named := ["unicode/utf8.first", "unicode/utf8.acceptRanges", "internal/bytealg.MaxLen"], plainKeys := false, apart := false, laid := [("unicode/utf8.acceptRanges", laid_unicode_utf8_acceptRanges), ("unicode/utf8.first", laid_unicode_utf8_first)], narrowed := true }
def LevelsSplitUptoSaid : Prop := levelsSplitUptoRow.holds Tryz.pinned (OpenSpec.upto levelsSplitSpec)

/-- 'rivermarklaw18.LevelFitsTogether', WHERE WHAT IT READS IS OF BULK AT MOST 1048576: true; the input reads as it did. -/
def levelFitsTogetherUptoRow : OpenClaim := { program := "ytomegmhiddbmbaagreatdoor", sum := "be2ea331311a799f66540fbe27eaad9eec5ec8871ee894f5e8622b60bc89ec13", func := "rivermark/rivermarklaw18.LevelFitsTogether", spec := "levelFitsTogether", inPlace := ["internal/bytealg.IndexByteString", "internal/bytealg.IndexString"], unfollowed := true, recurses := true, named := ["unicode/utf8.first", "unicode/utf8.acceptRanges", "internal/bytealg.MaxLen"], plainKeys := false, apart := false, laid := [("unicode/utf8.acceptRanges", laid_unicode_utf8_acceptRanges), ("unicode/utf8.first", laid_unicode_utf8_first)], narrowed := true }
def LevelFitsTogetherUptoSaid : Prop := levelFitsTogetherUptoRow.holds Tryz.pinned (OpenSpec.upto levelFitsTogetherSpec)

end Rows
end Go.Proofs.YtomegmhiddbmbaaGreatDoor
