/-
  NARROWER THAN 'FOR EVERY INPUT', by the rows' own cells (each row's printed sentence says how): CollapseAllowed: laid · CollapseMakes: laid · CollapseSimplifies: laid · CollapseKeeps: laid · CollapseStops: laid · CollapseApart: laid · CollapseMoves: laid · CollapseOrder: laid · CollapseWrong: laid · WitnessAccepts: laid · WitnessFans: laid.
  DERIVED. THE GIVEN ROWS OF THIS SEAT. 11 by the template 'for every input the law returns true; each argument reads behind the call as it read before'; 0 by the template 'total and deterministic' (their statements: YtfekpcimgncioaaGreatDoorTotals.lean).
  GIVEN WITH THE SEED: the statements are not yours to turn. If you find one false, say at which input.
  Laid BY PROGRAM, IN A SANDBOX (cutbox-rows.mjs): the forced cells as the released guide's own fill.sh prints them over the translation c69c40ebffd196d0… (all of the seat's roots in one cut). By AI agents, Wed Nov 11 2026. No macro, syntax, notation, axiom, sorry.
-/
import Derived.Test.YtfekpcimgncioaaGreatDoorChecked
import GoSem.PinnedTables
import GoSem.Claim
import GoSem.ClaimJoined
import GoSem.ClaimMapViews
import Derived.JoinedTies
import Derived.KernelRfl
namespace Go.Proofs.YtfekpcimgncioaaGreatDoor
/- THE CELL 'sum', in the pinned program and in every row, IS THE sha256 OF THE DUMP (.gsa) THAT YtfekpcimgncioaaGreatDoorProg.lean LOADS. Nothing in Lean hashes anything: it is a label: what it is worth is what the hold of that sum in a sandbox is worth. -/
noncomputable def Tryz.pinned : Pinned := { name := "ytfekpcimgncioaagreatdoor", sum := "c69c40ebffd196d07cbf534b47d8825222fa2d3d5a00fd2eb3da755e0bdfc2f8", checked := Tryz.checked }
namespace Rows
def none {H : Type} : Left H := { results := [], args := [] }

/- WHAT THE LISTED PACKAGE-LEVEL VARIABLES READ AS WHEN THE CALL BEGINS. Each datum BY PROGRAM (the guide's laid-datum.mjs) off the statement by which the dump's own 'gosem.cut.vars' lays the variable. In a bare row this is a premise. The card (YtfekpcimgncioaaGreatDoorCards.lean) ties it to the program's text. -/
def laid_unicode_utf8_acceptRanges {H : Type} : DataW H := .agg [.agg [.lit (.int .u8 128), .lit (.int .u8 191)], .agg [.lit (.int .u8 160), .lit (.int .u8 191)], .agg [.lit (.int .u8 128), .lit (.int .u8 159)], .agg [.lit (.int .u8 144), .lit (.int .u8 191)], .agg [.lit (.int .u8 128), .lit (.int .u8 143)], .agg [.lit (.int .u8 0), .lit (.int .u8 0)], .agg [.lit (.int .u8 0), .lit (.int .u8 0)], .agg [.lit (.int .u8 0), .lit (.int .u8 0)], .agg [.lit (.int .u8 0), .lit (.int .u8 0)], .agg [.lit (.int .u8 0), .lit (.int .u8 0)], .agg [.lit (.int .u8 0), .lit (.int .u8 0)], .agg [.lit (.int .u8 0), .lit (.int .u8 0)], .agg [.lit (.int .u8 0), .lit (.int .u8 0)], .agg [.lit (.int .u8 0), .lit (.int .u8 0)], .agg [.lit (.int .u8 0), .lit (.int .u8 0)], .agg [.lit (.int .u8 0), .lit (.int .u8 0)]]
/-- One of Go's own tables, pinned by name: the form's constant. -/
def laid_unicode_utf8_first : DataW Unit := Go.Pinned.utf8First

/-- 'lithophanelaw11.CollapseAllowed': WHATEVER THE INPUT: true; the input reads as it did. -/
def collapseAllowedSpec : ChangeSpec := { name := "collapseAllowed", fn := fun _ => fun
  | [d1, d2, d3] => { results := [.lit (.bool true)], args := [d1, d2, d3] }
  | _ => none }
def collapseAllowedRow : OpenClaim := { program := "ytfekpcimgncioaagreatdoor", sum := "c69c40ebffd196d07cbf534b47d8825222fa2d3d5a00fd2eb3da755e0bdfc2f8", func := "lithophane/lithophanelaw11.CollapseAllowed", spec := "collapseAllowed", inPlace := ["internal/bytealg.IndexByteString", "internal/bytealg.IndexString"], unfollowed := true, recurses := true, named := ["unicode/utf8.first", "unicode/utf8.acceptRanges", "internal/bytealg.MaxLen"], plainKeys := false, apart := false, laid := [("unicode/utf8.acceptRanges", laid_unicode_utf8_acceptRanges), ("unicode/utf8.first", laid_unicode_utf8_first)] }
def CollapseAllowedSaid : Prop := collapseAllowedRow.holds Tryz.pinned (OpenSpec.ofChange collapseAllowedSpec)

/-- ITS FALSE NEIGHBOUR: 'it returns false'. Refute it at one input. -/
def collapseAllowedWrong : ChangeSpec := { name := "collapseAllowed", fn := fun _ => fun
  | [d1, d2, d3] => { results := [.lit (.bool false)], args := [d1, d2, d3] }
  | _ => none }
def CollapseAllowedWrongFalsely : Prop := collapseAllowedRow.holds Tryz.pinned (OpenSpec.ofChange collapseAllowedWrong)

/-- 'lithophanelaw11.CollapseMakes': WHATEVER THE INPUT: true; the input reads as it did. -/
def collapseMakesSpec : ChangeSpec := { name := "collapseMakes", fn := fun _ => fun
  | [d1, d2] => { results := [.lit (.bool true)], args := [d1, d2] }
  | _ => none }
def collapseMakesRow : OpenClaim := { program := "ytfekpcimgncioaagreatdoor", sum := "c69c40ebffd196d07cbf534b47d8825222fa2d3d5a00fd2eb3da755e0bdfc2f8", func := "lithophane/lithophanelaw11.CollapseMakes", spec := "collapseMakes", inPlace := ["internal/bytealg.IndexByteString", "internal/bytealg.IndexString"], unfollowed := true, recurses := true, named := ["unicode/utf8.first", "unicode/utf8.acceptRanges", "internal/bytealg.MaxLen"], plainKeys := false, apart := false, laid := [("unicode/utf8.acceptRanges", laid_unicode_utf8_acceptRanges), ("unicode/utf8.first", laid_unicode_utf8_first)] }
def CollapseMakesSaid : Prop := collapseMakesRow.holds Tryz.pinned (OpenSpec.ofChange collapseMakesSpec)

/-- ITS FALSE NEIGHBOUR: 'it returns false'. Refute it at one input. -/
def collapseMakesWrong : ChangeSpec := { name := "collapseMakes", fn := fun _ => fun
  | [d1, d2] => { results := [.lit (.bool false)], args := [d1, d2] }
  | _ => none }
def CollapseMakesWrongFalsely : Prop := collapseMakesRow.holds Tryz.pinned (OpenSpec.ofChange collapseMakesWrong)

/-- 'lithophanelaw11.CollapseSimplifies': WHATEVER THE INPUT: true; the input reads as it did. -/
def collapseSimplifiesSpec : ChangeSpec := { name := "collapseSimplifies", fn := fun _ => fun
  | [d1, d2, d3] => { results := [.lit (.bool true)], args := [d1, d2, d3] }
  | _ => none }
def collapseSimplifiesRow : OpenClaim := { program := "ytfekpcimgncioaagreatdoor", sum := "c69c40ebffd196d07cbf534b47d8825222fa2d3d5a00fd2eb3da755e0bdfc2f8", func := "lithophane/lithophanelaw11.CollapseSimplifies", spec := "collapseSimplifies", inPlace := ["internal/bytealg.IndexByteString", "internal/bytealg.IndexString"], unfollowed := true, recurses := true, named := ["unicode/utf8.first", "unicode/utf8.acceptRanges", "internal/bytealg.MaxLen"], plainKeys := false, apart := false, laid := [("unicode/utf8.acceptRanges", laid_unicode_utf8_acceptRanges), ("unicode/utf8.first", laid_unicode_utf8_first)] }
def CollapseSimplifiesSaid : Prop := collapseSimplifiesRow.holds Tryz.pinned (OpenSpec.ofChange collapseSimplifiesSpec)

/-- ITS FALSE NEIGHBOUR: 'it returns false'. Refute it at one input. -/
def collapseSimplifiesWrong : ChangeSpec := { name := "collapseSimplifies", fn := fun _ => fun
  | [d1, d2, d3] => { results := [.lit (.bool false)], args := [d1, d2, d3] }
  | _ => none }
def CollapseSimplifiesWrongFalsely : Prop := collapseSimplifiesRow.holds Tryz.pinned (OpenSpec.ofChange collapseSimplifiesWrong)

/-- 'lithophanelaw11.CollapseKeeps': WHATEVER THE INPUT: true; the input reads as it did. -/
def collapseKeepsSpec : ChangeSpec := { name := "collapseKeeps", fn := fun _ => fun
  | [d1, d2, d3] => { results := [.lit (.bool true)], args := [d1, d2, d3] }
  | _ => none }
def collapseKeepsRow : OpenClaim := { program := "ytfekpcimgncioaagreatdoor", sum := "c69c40ebffd196d07cbf534b47d8825222fa2d3d5a00fd2eb3da755e0bdfc2f8", func := "lithophane/lithophanelaw11.CollapseKeeps", spec := "collapseKeeps", inPlace := ["internal/bytealg.IndexByteString", "internal/bytealg.IndexString"], unfollowed := true, recurses := true, named := ["unicode/utf8.first", "unicode/utf8.acceptRanges", "internal/bytealg.MaxLen"], plainKeys := false, apart := false, laid := [("unicode/utf8.acceptRanges", laid_unicode_utf8_acceptRanges), ("unicode/utf8.first", laid_unicode_utf8_first)] }
def CollapseKeepsSaid : Prop := collapseKeepsRow.holds Tryz.pinned (OpenSpec.ofChange collapseKeepsSpec)

/-- ITS FALSE NEIGHBOUR: 'it returns false'. Refute it at one input. -/
def collapseKeepsWrong : ChangeSpec := { name := "collapseKeeps", fn := fun _ => fun
  | [d1, d2, d3] => { results := [.lit (.bool false)], args := [d1, d2, d3] }
  | _ => none }
def CollapseKeepsWrongFalsely : Prop := collapseKeepsRow.holds Tryz.pinned (OpenSpec.ofChange collapseKeepsWrong)

/-- 'lithophanelaw11.CollapseStops': WHATEVER THE INPUT: true; the input reads as it did. -/
def collapseStopsSpec : ChangeSpec := { name := "collapseStops", fn := fun _ => fun
  | [d1, d2, d3] => { results := [.lit (.bool true)], args := [d1, d2, d3] }
  | _ => none }
def collapseStopsRow : OpenClaim := { program := "ytfekpcimgncioaagreatdoor", sum := "c69c40ebffd196d07cbf534b47d8825222fa2d3d5a00fd2eb3da755e0bdfc2f8", func := "lithophane/lithophanelaw11.CollapseStops", spec := "collapseStops", inPlace := ["internal/bytealg.IndexByteString", "internal/bytealg.IndexString"], unfollowed := true, recurses := true, named := ["unicode/utf8.first", "unicode/utf8.acceptRanges", "internal/bytealg.MaxLen"], plainKeys := false, apart := false, laid := [("unicode/utf8.acceptRanges", laid_unicode_utf8_acceptRanges), ("unicode/utf8.first", laid_unicode_utf8_first)] }
def CollapseStopsSaid : Prop := collapseStopsRow.holds Tryz.pinned (OpenSpec.ofChange collapseStopsSpec)

/-- ITS FALSE NEIGHBOUR: 'it returns false'. Refute it at one input. -/
def collapseStopsWrong : ChangeSpec := { name := "collapseStops", fn := fun _ => fun
  | [d1, d2, d3] => { results := [.lit (.bool false)], args := [d1, d2, d3] }
  | _ => none }
def CollapseStopsWrongFalsely : Prop := collapseStopsRow.holds Tryz.pinned (OpenSpec.ofChange collapseStopsWrong)

/-- 'lithophanelaw11.CollapseApart': WHATEVER THE INPUT: true; the input reads as it did. -/
def collapseApartSpec : ChangeSpec := { name := "collapseApart", fn := fun _ => fun
  | [d1, d2, d3] => { results := [.lit (.bool true)], args := [d1, d2, d3] }
  | _ => none }
def collapseApartRow : OpenClaim := { program := "ytfekpcimgncioaagreatdoor", sum := "c69c40ebffd196d07cbf534b47d8825222fa2d3d5a00fd2eb3da755e0bdfc2f8", func := "lithophane/lithophanelaw11.CollapseApart", spec := "collapseApart", inPlace := ["internal/bytealg.IndexByteString", "internal/bytealg.IndexString"], unfollowed := true, recurses := true, named := ["unicode/utf8.first", "unicode/utf8.acceptRanges", "internal/bytealg.MaxLen"], plainKeys := false, apart := false, laid := [("unicode/utf8.acceptRanges", laid_unicode_utf8_acceptRanges), ("unicode/utf8.first", laid_unicode_utf8_first)] }
def CollapseApartSaid : Prop := collapseApartRow.holds Tryz.pinned (OpenSpec.ofChange collapseApartSpec)

/-- ITS FALSE NEIGHBOUR: 'it returns false'. Refute it at one input. -/
def collapseApartWrong : ChangeSpec := { name := "collapseApart", fn := fun _ => fun
  | [d1, d2, d3] => { results := [.lit (.bool false)], args := [d1, d2, d3] }
  | _ => none }
def CollapseApartWrongFalsely : Prop := collapseApartRow.holds Tryz.pinned (OpenSpec.ofChange collapseApartWrong)

/-- 'lithophanelaw11.CollapseMoves': WHATEVER THE INPUT: true; the input reads as it did. -/
def collapseMovesSpec : ChangeSpec := { name := "collapseMoves", fn := fun _ => fun
  | [d1, d2, d3] => { results := [.lit (.bool true)], args := [d1, d2, d3] }
  | _ => none }
def collapseMovesRow : OpenClaim := { program := "ytfekpcimgncioaagreatdoor", sum := "c69c40ebffd196d07cbf534b47d8825222fa2d3d5a00fd2eb3da755e0bdfc2f8", func := "lithophane/lithophanelaw11.CollapseMoves", spec := "collapseMoves", inPlace := ["internal/bytealg.IndexByteString", "internal/bytealg.IndexString"], unfollowed := true, recurses := true, named := ["unicode/utf8.first", "unicode/utf8.acceptRanges", "internal/bytealg.MaxLen"], plainKeys := false, apart := false, laid := [("unicode/utf8.acceptRanges", laid_unicode_utf8_acceptRanges), ("unicode/utf8.first", laid_unicode_utf8_first)] }
def CollapseMovesSaid : Prop := collapseMovesRow.holds Tryz.pinned (OpenSpec.ofChange collapseMovesSpec)

/-- ITS FALSE NEIGHBOUR: 'it returns false'. Refute it at one input. -/
def collapseMovesWrong : ChangeSpec := { name := "collapseMoves", fn := fun _ => fun
  | [d1, d2, d3] => { results := [.lit (.bool false)], args := [d1, d2, d3] }
  | _ => none }
def CollapseMovesWrongFalsely : Prop := collapseMovesRow.holds Tryz.pinned (OpenSpec.ofChange collapseMovesWrong)

/-- 'lithophanelaw11.CollapseOrder': WHATEVER THE INPUT: true; the input reads as it did. -/
def collapseOrderSpec : ChangeSpec := { name := "collapseOrder", fn := fun _ => fun
  | [d1, d2, d3] => { results := [.lit (.bool true)], args := [d1, d2, d3] }
  | _ => none }
def collapseOrderRow : OpenClaim := { program := "ytfekpcimgncioaagreatdoor", sum := "c69c40ebffd196d07cbf534b47d8825222fa2d3d5a00fd2eb3da755e0bdfc2f8", func := "lithophane/lithophanelaw11.CollapseOrder", spec := "collapseOrder", inPlace := ["internal/bytealg.IndexByteString", "internal/bytealg.IndexString"], unfollowed := true, recurses := true, named := ["unicode/utf8.first", "unicode/utf8.acceptRanges", "internal/bytealg.MaxLen"], plainKeys := false, apart := false, laid := [("unicode/utf8.acceptRanges", laid_unicode_utf8_acceptRanges), ("unicode/utf8.first", laid_unicode_utf8_first)] }
def CollapseOrderSaid : Prop := collapseOrderRow.holds Tryz.pinned (OpenSpec.ofChange collapseOrderSpec)

/-- ITS FALSE NEIGHBOUR: 'it returns false'. Refute it at one input. -/
def collapseOrderWrong : ChangeSpec := { name := "collapseOrder", fn := fun _ => fun
  | [d1, d2, d3] => { results := [.lit (.bool false)], args := [d1, d2, d3] }
  | _ => none }
def CollapseOrderWrongFalsely : Prop := collapseOrderRow.holds Tryz.pinned (OpenSpec.ofChange collapseOrderWrong)

/-- 'lithophanelaw11.CollapseWrong': WHATEVER THE INPUT: true; the input reads as it did. -/
def collapseWrongSpec : ChangeSpec := { name := "collapseWrong", fn := fun _ => fun
  | [d1, d2] => { results := [.lit (.bool true)], args := [d1, d2] }
  | _ => none }
def collapseWrongRow : OpenClaim := { program := "ytfekpcimgncioaagreatdoor", sum := "c69c40ebffd196d07cbf534b47d8825222fa2d3d5a00fd2eb3da755e0bdfc2f8", func := "lithophane/lithophanelaw11.CollapseWrong", spec := "collapseWrong", inPlace := ["internal/bytealg.IndexByteString", "internal/bytealg.IndexString"], unfollowed := true, recurses := true, named := ["unicode/utf8.first", "unicode/utf8.acceptRanges", "internal/bytealg.MaxLen"], plainKeys := false, apart := false, laid := [("unicode/utf8.acceptRanges", laid_unicode_utf8_acceptRanges), ("unicode/utf8.first", laid_unicode_utf8_first)] }
def CollapseWrongSaid : Prop := collapseWrongRow.holds Tryz.pinned (OpenSpec.ofChange collapseWrongSpec)

/-- ITS FALSE NEIGHBOUR: 'it returns false'. Refute it at one input. -/
def collapseWrongWrong : ChangeSpec := { name := "collapseWrong", fn := fun _ => fun
  | [d1, d2] => { results := [.lit (.bool false)], args := [d1, d2] }
  | _ => none }
def CollapseWrongWrongFalsely : Prop := collapseWrongRow.holds Tryz.pinned (OpenSpec.ofChange collapseWrongWrong)

/-- 'lithophanelaw12.WitnessAccepts': WHATEVER THE INPUT: true; the input reads as it did. -/
def witnessAcceptsSpec : ChangeSpec := { name := "witnessAccepts", fn := fun _ => fun
  | [d1, d2] => { results := [.lit (.bool true)], args := [d1, d2] }
  | _ => none }
def witnessAcceptsRow : OpenClaim := { program := "ytfekpcimgncioaagreatdoor", sum := "c69c40ebffd196d07cbf534b47d8825222fa2d3d5a00fd2eb3da755e0bdfc2f8", func := "lithophane/lithophanelaw12.WitnessAccepts", spec := "witnessAccepts", inPlace := ["internal/bytealg.IndexByteString", "internal/bytealg.IndexString"], unfollowed := true, recurses := true, named := ["unicode/utf8.first", "unicode/utf8.acceptRanges", "internal/bytealg.MaxLen"], plainKeys := false, apart := false, laid := [("unicode/utf8.acceptRanges", laid_unicode_utf8_acceptRanges), ("unicode/utf8.first", laid_unicode_utf8_first)] }
def WitnessAcceptsSaid : Prop := witnessAcceptsRow.holds Tryz.pinned (OpenSpec.ofChange witnessAcceptsSpec)

/-- ITS FALSE NEIGHBOUR: 'it returns false'. Refute it at one input. -/
def witnessAcceptsWrong : ChangeSpec := { name := "witnessAccepts", fn := fun _ => fun
  | [d1, d2] => { results := [.lit (.bool false)], args := [d1, d2] }
  | _ => none }
def WitnessAcceptsWrongFalsely : Prop := witnessAcceptsRow.holds Tryz.pinned (OpenSpec.ofChange witnessAcceptsWrong)

/-- 'lithophanelaw12.WitnessFans': WHATEVER THE INPUT: true; the input reads as it did. -/
def witnessFansSpec : ChangeSpec := { name := "witnessFans", fn := fun _ => fun
  | [d1, d2, d3] => { results := [.lit (.bool true)], args := [d1, d2, d3] }
  | _ => none }
def witnessFansRow : OpenClaim := { program := "ytfekpcimgncioaagreatdoor", sum := "c69c40ebffd196d07cbf534b47d8825222fa2d3d5a00fd2eb3da755e0bdfc2f8", func := "lithophane/lithophanelaw12.WitnessFans", spec := "witnessFans", inPlace := ["internal/bytealg.IndexByteString", "internal/bytealg.IndexString"], unfollowed := true, recurses := true, named := ["unicode/utf8.first", "unicode/utf8.acceptRanges", "internal/bytealg.MaxLen"], plainKeys := false, apart := false, laid := [("unicode/utf8.acceptRanges", laid_unicode_utf8_acceptRanges), ("unicode/utf8.first", laid_unicode_utf8_first)] }
def WitnessFansSaid : Prop := witnessFansRow.holds Tryz.pinned (OpenSpec.ofChange witnessFansSpec)

/-- ITS FALSE NEIGHBOUR: 'it returns false'. Refute it at one input. -/
def witnessFansWrong : ChangeSpec := { name := "witnessFans", fn := fun _ => fun
  | [d1, d2, d3] => { results := [.lit (.bool false)], args := [d1, d2, d3] }
  | _ => none }
def WitnessFansWrongFalsely : Prop := witnessFansRow.holds Tryz.pinned (OpenSpec.ofChange witnessFansWrong)

/- THE SECOND FORM. 'bulk': how many values and letters a reading holds, each counted each time it is reached (what is shared counts as often as it is met; a slice's spare places count too). A statement '..UptoSaid' is the law's where the arguments, and the package variables that the reading takes, are together of bulk at most 1048576: NARROWER than '..Said'. Prove '..Said' where nothing that the law and all that it calls make is longer than what came in: it says more and counts as full. Else prove '..UptoSaid'. A law counts once. -/
mutual
def uptoBulk {H : Type} : DataW H → Nat
  | .lit (.string bytes) => bytes.length + 1
  | .lit _ => 1
  | .nil => 1
  | .ptr d => uptoBulk d + 1
  | .slice elems spare => uptoBulkAll elems + uptoBulkAll spare + 1
  | .agg parts => uptoBulkAll parts + 1
  | .iface _ d => uptoBulk d + 1
  | .map entries => uptoBulkEntries entries + 1
  | .held _ => 1
def uptoBulkAll {H : Type} : List (DataW H) → Nat
  | [] => 0
  | d :: r => uptoBulk d + uptoBulkAll r
def uptoBulkEntries {H : Type} : List (Lit × DataW H) → Nat
  | [] => 0
  | x :: r => uptoBulkEntry x + uptoBulkEntries r
def uptoBulkEntry {H : Type} : Lit × DataW H → Nat
  | (.string bytes, d) => bytes.length + uptoBulk d + 1
  | (_, d) => uptoBulk d + 1
 end
def uptoSmall : (H : Type) → List (DataW H) → Bool := fun _ ds => decide (uptoBulkAll ds ≤ 1048576)
def OpenSpec.upto (s : _root_.Go.ChangeSpec) : _root_.Go.OpenSpec := { _root_.Go.OpenSpec.ofChange s with cond := some uptoSmall }

/-- 'lithophanelaw11.CollapseAllowed', WHERE WHAT IT READS IS OF BULK AT MOST 1048576: true; the input reads as it did. -/
def collapseAllowedUptoRow : OpenClaim := { program := "ytfekpcimgncioaagreatdoor", sum := "c69c40ebffd196d07cbf534b47d8825222fa2d3d5a00fd2eb3da755e0bdfc2f8", func := "lithophane/lithophanelaw11.CollapseAllowed", spec := "collapseAllowed", inPlace := ["internal/bytealg.IndexByteString", "internal/bytealg.IndexString"], unfollowed := true, recurses := true, named := ["unicode/utf8.first", "unicode/utf8.acceptRanges", "internal/bytealg.MaxLen"], plainKeys := false, apart := false, laid := [("unicode/utf8.acceptRanges", laid_unicode_utf8_acceptRanges), ("unicode/utf8.first", laid_unicode_utf8_first)], narrowed := true }
def CollapseAllowedUptoSaid : Prop := collapseAllowedUptoRow.holds Tryz.pinned (OpenSpec.upto collapseAllowedSpec)

/-- 'lithophanelaw11.CollapseMakes', WHERE WHAT IT READS IS OF BULK AT MOST 1048576: true; the input reads as it did. -/
def collapseMakesUptoRow : OpenClaim := { program := "ytfekpcimgncioaagreatdoor", sum := "c69c40ebffd196d07cbf534b47d8825222fa2d3d5a00fd2eb3da755e0bdfc2f8", func := "lithophane/lithophanelaw11.CollapseMakes", spec := "collapseMakes", inPlace := ["internal/bytealg.IndexByteString", "internal/bytealg.IndexString"], unfollowed := true, recurses := true, named := ["unicode/utf8.first", "unicode/utf8.acceptRanges", "internal/bytealg.MaxLen"], plainKeys := false, apart := false, laid := [("unicode/utf8.acceptRanges", laid_unicode_utf8_acceptRanges), ("unicode/utf8.first", laid_unicode_utf8_first)], narrowed := true }
def CollapseMakesUptoSaid : Prop := collapseMakesUptoRow.holds Tryz.pinned (OpenSpec.upto collapseMakesSpec)

/-- 'lithophanelaw11.CollapseSimplifies', WHERE WHAT IT READS IS OF BULK AT MOST 1048576: true; the input reads as it did. -/
def collapseSimplifiesUptoRow : OpenClaim := { program := "ytfekpcimgncioaagreatdoor", sum := "c69c40ebffd196d07cbf534b47d8825222fa2d3d5a00fd2eb3da755e0bdfc2f8", func := "lithophane/lithophanelaw11.CollapseSimplifies", spec := "collapseSimplifies", inPlace := ["internal/bytealg.IndexByteString", "internal/bytealg.IndexString"], unfollowed := true, recurses := true, named := ["unicode/utf8.first", "unicode/utf8.acceptRanges", "internal/bytealg.MaxLen"], plainKeys := false, apart := false, laid := [("unicode/utf8.acceptRanges", laid_unicode_utf8_acceptRanges), ("unicode/utf8.first", laid_unicode_utf8_first)], narrowed := true }
def CollapseSimplifiesUptoSaid : Prop := collapseSimplifiesUptoRow.holds Tryz.pinned (OpenSpec.upto collapseSimplifiesSpec)

/-- 'lithophanelaw11.CollapseKeeps', WHERE WHAT IT READS IS OF BULK AT MOST 1048576: true; the input reads as it did. -/
def collapseKeepsUptoRow : OpenClaim := { program := "ytfekpcimgncioaagreatdoor", sum := "c69c40ebffd196d07cbf534b47d8825222fa2d3d5a00fd2eb3da755e0bdfc2f8", func := "lithophane/lithophanelaw11.CollapseKeeps", spec := "collapseKeeps", inPlace := ["internal/bytealg.IndexByteString", "internal/bytealg.IndexString"], unfollowed := true, recurses := true, named := ["unicode/utf8.first", "unicode/utf8.acceptRanges", "internal/bytealg.MaxLen"], plainKeys := false, apart := false, laid := [("unicode/utf8.acceptRanges", laid_unicode_utf8_acceptRanges), ("unicode/utf8.first", laid_unicode_utf8_first)], narrowed := true }
def CollapseKeepsUptoSaid : Prop := collapseKeepsUptoRow.holds Tryz.pinned (OpenSpec.upto collapseKeepsSpec)

/-- 'lithophanelaw11.CollapseStops', WHERE WHAT IT READS IS OF BULK AT MOST 1048576: true; the input reads as it did. -/
def collapseStopsUptoRow : OpenClaim := { program := "ytfekpcimgncioaagreatdoor", sum := "c69c40ebffd196d07cbf534b47d8825222fa2d3d5a00fd2eb3da755e0bdfc2f8", func := "lithophane/lithophanelaw11.CollapseStops", spec := "collapseStops", inPlace := ["internal/bytealg.IndexByteString", "internal/bytealg.IndexString"], unfollowed := true, recurses := true, named := ["unicode/utf8.first", "unicode/utf8.acceptRanges", "internal/bytealg.MaxLen"], plainKeys := false, apart := false, laid := [("unicode/utf8.acceptRanges", laid_unicode_utf8_acceptRanges), ("unicode/utf8.first", laid_unicode_utf8_first)], narrowed := true }
def CollapseStopsUptoSaid : Prop := collapseStopsUptoRow.holds Tryz.pinned (OpenSpec.upto collapseStopsSpec)

/-- 'lithophanelaw11.CollapseApart', WHERE WHAT IT READS IS OF BULK AT MOST 1048576: true; the input reads as it did. -/
def collapseApartUptoRow : OpenClaim := { program := "ytfekpcimgncioaagreatdoor", sum := "c69c40ebffd196d07cbf534b47d8825222fa2d3d5a00fd2eb3da755e0bdfc2f8", func := "lithophane/lithophanelaw11.CollapseApart", spec := "collapseApart", inPlace := ["internal/bytealg.IndexByteString", "internal/bytealg.IndexString"], unfollowed := true, recurses := true, named := ["unicode/utf8.first", "unicode/utf8.acceptRanges", "internal/bytealg.MaxLen"], plainKeys := false, apart := false, laid := [("unicode/utf8.acceptRanges", laid_unicode_utf8_acceptRanges), ("unicode/utf8.first", laid_unicode_utf8_first)], narrowed := true }
def CollapseApartUptoSaid : Prop := collapseApartUptoRow.holds Tryz.pinned (OpenSpec.upto collapseApartSpec)

/-- 'lithophanelaw11.CollapseMoves', WHERE WHAT IT READS IS OF BULK AT MOST 1048576: true; the input reads as it did. -/
def collapseMovesUptoRow : OpenClaim := { program := "ytfekpcimgncioaagreatdoor", sum := "c69c40ebffd196d07cbf534b47d8825222fa2d3d5a00fd2eb3da755e0bdfc2f8", func := "lithophane/lithophanelaw11.CollapseMoves", spec := "collapseMoves", inPlace := ["internal/bytealg.IndexByteString", "internal/bytealg.IndexString"], unfollowed := true, recurses := true, named := ["unicode/utf8.first", "unicode/utf8.acceptRanges", "internal/bytealg.MaxLen"], plainKeys := false, apart := false, laid := [("unicode/utf8.acceptRanges", laid_unicode_utf8_acceptRanges), ("unicode/utf8.first", laid_unicode_utf8_first)], narrowed := true }
def CollapseMovesUptoSaid : Prop := collapseMovesUptoRow.holds Tryz.pinned (OpenSpec.upto collapseMovesSpec)

/-- 'lithophanelaw11.CollapseOrder', WHERE WHAT IT READS IS OF BULK AT MOST 1048576: true; the input reads as it did. -/
def collapseOrderUptoRow : OpenClaim := { program := "ytfekpcimgncioaagreatdoor", sum := "c69c40ebffd196d07cbf534b47d8825222fa2d3d5a00fd2eb3da755e0bdfc2f8", func := "lithophane/lithophanelaw11.CollapseOrder", spec := "collapseOrder", inPlace := ["internal/bytealg.IndexByteString", "internal/bytealg.IndexString"], unfollowed := true, recurses := true, named := ["unicode/utf8.first", "unicode/utf8.acceptRanges", "internal/bytealg.MaxLen"], plainKeys := false, apart := false, laid := [("unicode/utf8.acceptRanges", laid_unicode_utf8_acceptRanges), ("unicode/utf8.first", laid_unicode_utf8_first)], narrowed := true }
def CollapseOrderUptoSaid : Prop := collapseOrderUptoRow.holds Tryz.pinned (OpenSpec.upto collapseOrderSpec)

/-- 'lithophanelaw11.CollapseWrong', WHERE WHAT IT READS IS OF BULK AT MOST 1048576: true; the input reads as it did. -/
def collapseWrongUptoRow : OpenClaim := { program := "ytfekpcimgncioaagreatdoor", sum := "c69c40ebffd196d07cbf534b47d8825222fa2d3d5a00fd2eb3da755e0bdfc2f8", func := "lithophane/lithophanelaw11.CollapseWrong", spec := "collapseWrong", inPlace := ["internal/bytealg.IndexByteString", "internal/bytealg.IndexString"], unfollowed := true, recurses := true, named := ["unicode/utf8.first", "unicode/utf8.acceptRanges", "internal/bytealg.MaxLen"], plainKeys := false, apart := false, laid := [("unicode/utf8.acceptRanges", laid_unicode_utf8_acceptRanges), ("unicode/utf8.first", laid_unicode_utf8_first)], narrowed := true }
def CollapseWrongUptoSaid : Prop := collapseWrongUptoRow.holds Tryz.pinned (OpenSpec.upto collapseWrongSpec)

/-- 'lithophanelaw12.WitnessAccepts', WHERE WHAT IT READS IS OF BULK AT MOST 1048576: true; the input reads as it did. -/
def witnessAcceptsUptoRow : OpenClaim := { program := "ytfekpcimgncioaagreatdoor", sum := "c69c40ebffd196d07cbf534b47d8825222fa2d3d5a00fd2eb3da755e0bdfc2f8", func := "lithophane/lithophanelaw12.WitnessAccepts", spec := "witnessAccepts", inPlace := ["internal/bytealg.IndexByteString", "internal/bytealg.IndexString"], unfollowed := true, recurses := true, named := ["unicode/utf8.first", "unicode/utf8.acceptRanges", "internal/bytealg.MaxLen"], plainKeys := false, apart := false, laid := [("unicode/utf8.acceptRanges", laid_unicode_utf8_acceptRanges), ("unicode/utf8.first", laid_unicode_utf8_first)], narrowed := true }
def WitnessAcceptsUptoSaid : Prop := witnessAcceptsUptoRow.holds Tryz.pinned (OpenSpec.upto witnessAcceptsSpec)

/-- 'lithophanelaw12.WitnessFans', WHERE WHAT IT READS IS OF BULK AT MOST 1048576: true; the input reads as it did. -/
def witnessFansUptoRow : OpenClaim := { program := "ytfekpcimgncioaagreatdoor", sum := "c69c40ebffd196d07cbf534b47d8825222fa2d3d5a00fd2eb3da755e0bdfc2f8", func := "lithophane/lithophanelaw12.WitnessFans", spec := "witnessFans", inPlace := ["internal/bytealg.IndexByteString", "internal/bytealg.IndexString"], unfollowed := true, recurses := true, named := ["unicode/utf8.first", "unicode/utf8.acceptRanges", "internal/bytealg.MaxLen"], plainKeys := false, apart := false, laid := [("unicode/utf8.acceptRanges", laid_unicode_utf8_acceptRanges), ("unicode/utf8.first", laid_unicode_utf8_first)], narrowed := true }
def WitnessFansUptoSaid : Prop := witnessFansUptoRow.holds Tryz.pinned (OpenSpec.upto witnessFansSpec)

end Rows
end Go.Proofs.YtfekpcimgncioaaGreatDoor
