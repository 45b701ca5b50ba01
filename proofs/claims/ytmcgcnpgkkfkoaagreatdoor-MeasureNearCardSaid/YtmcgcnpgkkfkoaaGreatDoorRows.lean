/-
  NARROWER THAN 'FOR EVERY INPUT', by the rows' own cells (each row's printed sentence says how): MeasureDistances: laid · MeasureAreas: laid · MeasureMoves: laid · MeasureNear: laid · MeasureVolumes: laid · MeasureEmpty: laid · MeasureScaled: laid.
  DERIVED. THE GIVEN ROWS OF THIS SEAT. 7 by the template 'for every input the law returns true; each argument reads behind the call as it read before'; 0 by the template 'total and deterministic' (their statements: YtmcgcnpgkkfkoaaGreatDoorTotals.lean).
  GIVEN WITH THE SEED: the statements are not yours to turn. If you find one false, say at which input.
  Laid BY PROGRAM, IN A SANDBOX (cutbox-rows.mjs): the forced cells as the released guide's own fill.sh prints them over the translation 3ec34ddc568235a4… (all of the seat's roots in one cut). By AI agents, Wed Nov 11 2026. No macro, syntax, notation, axiom, sorry.
-/
import Derived.Test.YtmcgcnpgkkfkoaaGreatDoorChecked
import GoSem.PinnedTables
import GoSem.Claim
import GoSem.ClaimJoined
import GoSem.ClaimMapViews
import Derived.JoinedTies
import Derived.KernelRfl
namespace Go.Proofs.YtmcgcnpgkkfkoaaGreatDoor
/- THE CELL 'sum', in the pinned program and in every row, IS THE sha256 OF THE DUMP (.gsa) THAT YtmcgcnpgkkfkoaaGreatDoorProg.lean LOADS. Nothing in Lean hashes anything: it is a label: what it is worth is what the hold of that sum in a sandbox is worth. -/
noncomputable def Tryz.pinned : Pinned := { name := "ytmcgcnpgkkfkoaagreatdoor", sum := "3ec34ddc568235a4e4add362c00ecb1935b62d1c4118b997bcf7e71ffbbdde40", checked := Tryz.checked }
namespace Rows
def none {H : Type} : Left H := { results := [], args := [] }

/- WHAT THE LISTED PACKAGE-LEVEL VARIABLES READ AS WHEN THE CALL BEGINS. Each datum BY PROGRAM (the guide's laid-datum.mjs) off the statement by which the dump's own 'gosem.cut.vars' lays the variable. In a bare row this is a premise. The card (YtmcgcnpgkkfkoaaGreatDoorCards.lean) ties it to the program's text. -/
def laid_unicode_utf8_acceptRanges {H : Type} : DataW H := .agg [.agg [.lit (.int .u8 128), .lit (.int .u8 191)], .agg [.lit (.int .u8 160), .lit (.int .u8 191)], .agg [.lit (.int .u8 128), .lit (.int .u8 159)], .agg [.lit (.int .u8 144), .lit (.int .u8 191)], .agg [.lit (.int .u8 128), .lit (.int .u8 143)], .agg [.lit (.int .u8 0), .lit (.int .u8 0)], .agg [.lit (.int .u8 0), .lit (.int .u8 0)], .agg [.lit (.int .u8 0), .lit (.int .u8 0)], .agg [.lit (.int .u8 0), .lit (.int .u8 0)], .agg [.lit (.int .u8 0), .lit (.int .u8 0)], .agg [.lit (.int .u8 0), .lit (.int .u8 0)], .agg [.lit (.int .u8 0), .lit (.int .u8 0)], .agg [.lit (.int .u8 0), .lit (.int .u8 0)], .agg [.lit (.int .u8 0), .lit (.int .u8 0)], .agg [.lit (.int .u8 0), .lit (.int .u8 0)], .agg [.lit (.int .u8 0), .lit (.int .u8 0)]]
/-- One of Go's own tables, pinned by name: the form's constant. -/
def laid_unicode_utf8_first : DataW Unit := Go.Pinned.utf8First

/-- 'lithophanelaw23.MeasureDistances': WHATEVER THE INPUT: true; the input reads as it did. -/
def measureDistancesSpec : ChangeSpec := { name := "measureDistances", fn := fun _ => fun
  | [d1, d2, d3] => { results := [.lit (.bool true)], args := [d1, d2, d3] }
  | _ => none }
def measureDistancesRow : OpenClaim := { program := "ytmcgcnpgkkfkoaagreatdoor", sum := "3ec34ddc568235a4e4add362c00ecb1935b62d1c4118b997bcf7e71ffbbdde40", func := "lithophane/lithophanelaw23.MeasureDistances", spec := "measureDistances", inPlace := ["internal/bytealg.IndexByteString", "internal/bytealg.IndexString"], unfollowed := true, recurses := true, named := ["unicode/utf8.first", "unicode/utf8.acceptRanges", "internal/bytealg.MaxLen"], plainKeys := false, apart := false, laid := [("unicode/utf8.acceptRanges", laid_unicode_utf8_acceptRanges), ("unicode/utf8.first", laid_unicode_utf8_first)] }
def MeasureDistancesSaid : Prop := measureDistancesRow.holds Tryz.pinned (OpenSpec.ofChange measureDistancesSpec)

/-- ITS FALSE NEIGHBOUR: 'it returns false'. Refute it at one input. -/
def measureDistancesWrong : ChangeSpec := { name := "measureDistances", fn := fun _ => fun
  | [d1, d2, d3] => { results := [.lit (.bool false)], args := [d1, d2, d3] }
  | _ => none }
def MeasureDistancesWrongFalsely : Prop := measureDistancesRow.holds Tryz.pinned (OpenSpec.ofChange measureDistancesWrong)

/-- 'lithophanelaw23.MeasureAreas': WHATEVER THE INPUT: true; the input reads as it did. -/
def measureAreasSpec : ChangeSpec := { name := "measureAreas", fn := fun _ => fun
  | [d] => { results := [.lit (.bool true)], args := [d] }
  | _ => none }
def measureAreasRow : OpenClaim := { program := "ytmcgcnpgkkfkoaagreatdoor", sum := "3ec34ddc568235a4e4add362c00ecb1935b62d1c4118b997bcf7e71ffbbdde40", func := "lithophane/lithophanelaw23.MeasureAreas", spec := "measureAreas", inPlace := ["internal/bytealg.IndexByteString", "internal/bytealg.IndexString"], unfollowed := true, recurses := true, named := ["unicode/utf8.first", "unicode/utf8.acceptRanges", "internal/bytealg.MaxLen"], plainKeys := false, apart := false, laid := [("unicode/utf8.acceptRanges", laid_unicode_utf8_acceptRanges), ("unicode/utf8.first", laid_unicode_utf8_first)] }
def MeasureAreasSaid : Prop := measureAreasRow.holds Tryz.pinned (OpenSpec.ofChange measureAreasSpec)

/-- ITS FALSE NEIGHBOUR: 'it returns false'. Refute it at one input. -/
def measureAreasWrong : ChangeSpec := { name := "measureAreas", fn := fun _ => fun
  | [d] => { results := [.lit (.bool false)], args := [d] }
  | _ => none }
def MeasureAreasWrongFalsely : Prop := measureAreasRow.holds Tryz.pinned (OpenSpec.ofChange measureAreasWrong)

/-- 'lithophanelaw23.MeasureMoves': WHATEVER THE INPUT: true; the input reads as it did. -/
def measureMovesSpec : ChangeSpec := { name := "measureMoves", fn := fun _ => fun
  | [d1, d2] => { results := [.lit (.bool true)], args := [d1, d2] }
  | _ => none }
def measureMovesRow : OpenClaim := { program := "ytmcgcnpgkkfkoaagreatdoor", sum := "3ec34ddc568235a4e4add362c00ecb1935b62d1c4118b997bcf7e71ffbbdde40", func := "lithophane/lithophanelaw23.MeasureMoves", spec := "measureMoves", inPlace := ["internal/bytealg.IndexByteString", "internal/bytealg.IndexString"], unfollowed := true, recurses := true, named := ["unicode/utf8.first", "unicode/utf8.acceptRanges", "internal/bytealg.MaxLen"], plainKeys := false, apart := false, laid := [("unicode/utf8.acceptRanges", laid_unicode_utf8_acceptRanges), ("unicode/utf8.first", laid_unicode_utf8_first)] }
def MeasureMovesSaid : Prop := measureMovesRow.holds Tryz.pinned (OpenSpec.ofChange measureMovesSpec)

/-- ITS FALSE NEIGHBOUR: 'it returns false'. Refute it at one input. -/
def measureMovesWrong : ChangeSpec := { name := "measureMoves", fn := fun _ => fun
  | [d1, d2] => { results := [.lit (.bool false)], args := [d1, d2] }
  | _ => none }
def MeasureMovesWrongFalsely : Prop := measureMovesRow.holds Tryz.pinned (OpenSpec.ofChange measureMovesWrong)

/-- 'lithophanelaw23.MeasureNear': WHATEVER THE INPUT: true; the input reads as it did. -/
def measureNearSpec : ChangeSpec := { name := "measureNear", fn := fun _ => fun
  | [d1, d2] => { results := [.lit (.bool true)], args := [d1, d2] }
  | _ => none }
def measureNearRow : OpenClaim := { program := "ytmcgcnpgkkfkoaagreatdoor", sum := "3ec34ddc568235a4e4add362c00ecb1935b62d1c4118b997bcf7e71ffbbdde40", func := "lithophane/lithophanelaw23.MeasureNear", spec := "measureNear", inPlace := ["internal/bytealg.IndexByteString", "internal/bytealg.IndexString"], unfollowed := true, recurses := true, named := ["unicode/utf8.first", "unicode/utf8.acceptRanges", "internal/bytealg.MaxLen"], plainKeys := false, apart := false, laid := [("unicode/utf8.acceptRanges", laid_unicode_utf8_acceptRanges), ("unicode/utf8.first", laid_unicode_utf8_first)] }
def MeasureNearSaid : Prop := measureNearRow.holds Tryz.pinned (OpenSpec.ofChange measureNearSpec)

/-- ITS FALSE NEIGHBOUR: 'it returns false'. Refute it at one input. -/
def measureNearWrong : ChangeSpec := { name := "measureNear", fn := fun _ => fun
  | [d1, d2] => { results := [.lit (.bool false)], args := [d1, d2] }
  | _ => none }
def MeasureNearWrongFalsely : Prop := measureNearRow.holds Tryz.pinned (OpenSpec.ofChange measureNearWrong)

/-- 'lithophanelaw23.MeasureVolumes': WHATEVER THE INPUT: true; the input reads as it did. -/
def measureVolumesSpec : ChangeSpec := { name := "measureVolumes", fn := fun _ => fun
  | [d] => { results := [.lit (.bool true)], args := [d] }
  | _ => none }
def measureVolumesRow : OpenClaim := { program := "ytmcgcnpgkkfkoaagreatdoor", sum := "3ec34ddc568235a4e4add362c00ecb1935b62d1c4118b997bcf7e71ffbbdde40", func := "lithophane/lithophanelaw23.MeasureVolumes", spec := "measureVolumes", inPlace := ["internal/bytealg.IndexByteString", "internal/bytealg.IndexString"], unfollowed := true, recurses := true, named := ["unicode/utf8.first", "unicode/utf8.acceptRanges", "internal/bytealg.MaxLen"], plainKeys := false, apart := false, laid := [("unicode/utf8.acceptRanges", laid_unicode_utf8_acceptRanges), ("unicode/utf8.first", laid_unicode_utf8_first)] }
def MeasureVolumesSaid : Prop := measureVolumesRow.holds Tryz.pinned (OpenSpec.ofChange measureVolumesSpec)

/-- ITS FALSE NEIGHBOUR: 'it returns false'. Refute it at one input. -/
def measureVolumesWrong : ChangeSpec := { name := "measureVolumes", fn := fun _ => fun
  | [d] => { results := [.lit (.bool false)], args := [d] }
  | _ => none }
def MeasureVolumesWrongFalsely : Prop := measureVolumesRow.holds Tryz.pinned (OpenSpec.ofChange measureVolumesWrong)

/-- 'lithophanelaw23.MeasureEmpty': WHATEVER THE INPUT: true; the input reads as it did. -/
def measureEmptySpec : ChangeSpec := { name := "measureEmpty", fn := fun _ => fun
  | [d1, d2, d3] => { results := [.lit (.bool true)], args := [d1, d2, d3] }
  | _ => none }
def measureEmptyRow : OpenClaim := { program := "ytmcgcnpgkkfkoaagreatdoor", sum := "3ec34ddc568235a4e4add362c00ecb1935b62d1c4118b997bcf7e71ffbbdde40", func := "lithophane/lithophanelaw23.MeasureEmpty", spec := "measureEmpty", inPlace := ["internal/bytealg.IndexByteString", "internal/bytealg.IndexString"], unfollowed := true, recurses := true, named := ["unicode/utf8.first", "unicode/utf8.acceptRanges", "internal/bytealg.MaxLen"], plainKeys := false, apart := false, laid := [("unicode/utf8.acceptRanges", laid_unicode_utf8_acceptRanges), ("unicode/utf8.first", laid_unicode_utf8_first)] }
def MeasureEmptySaid : Prop := measureEmptyRow.holds Tryz.pinned (OpenSpec.ofChange measureEmptySpec)

/-- ITS FALSE NEIGHBOUR: 'it returns false'. Refute it at one input. -/
def measureEmptyWrong : ChangeSpec := { name := "measureEmpty", fn := fun _ => fun
  | [d1, d2, d3] => { results := [.lit (.bool false)], args := [d1, d2, d3] }
  | _ => none }
def MeasureEmptyWrongFalsely : Prop := measureEmptyRow.holds Tryz.pinned (OpenSpec.ofChange measureEmptyWrong)

/-- 'lithophanelaw23.MeasureScaled': WHATEVER THE INPUT: true; the input reads as it did. -/
def measureScaledSpec : ChangeSpec := { name := "measureScaled", fn := fun _ => fun
  | [d1, d2, d3] => { results := [.lit (.bool true)], args := [d1, d2, d3] }
  | _ => none }
def measureScaledRow : OpenClaim := { program := "ytmcgcnpgkkfkoaagreatdoor", sum := "3ec34ddc568235a4e4add362c00ecb1935b62d1c4118b997bcf7e71ffbbdde40", func := "lithophane/lithophanelaw23.MeasureScaled", spec := "measureScaled", inPlace := ["internal/bytealg.IndexByteString", "internal/bytealg.IndexString"], unfollowed := true, recurses := true, named := ["unicode/utf8.first", "unicode/utf8.acceptRanges", "internal/bytealg.MaxLen"], plainKeys := false, apart := false, laid := [("unicode/utf8.acceptRanges", laid_unicode_utf8_acceptRanges), ("unicode/utf8.first", laid_unicode_utf8_first)] }
def MeasureScaledSaid : Prop := measureScaledRow.holds Tryz.pinned (OpenSpec.ofChange measureScaledSpec)

/-- ITS FALSE NEIGHBOUR: 'it returns false'. Refute it at one input. -/
def measureScaledWrong : ChangeSpec := { name := "measureScaled", fn := fun _ => fun
  | [d1, d2, d3] => { results := [.lit (.bool false)], args := [d1, d2, d3] }
  | _ => none }
def MeasureScaledWrongFalsely : Prop := measureScaledRow.holds Tryz.pinned (OpenSpec.ofChange measureScaledWrong)

/- THE SECOND FORM. 'bulk': how many values and letters a reading holds, each counted each time it is reached (what is shared counts as often as it is met; a slice's spare places count too). A statement '..UptoSaid' is the law's where the arguments, and the package variables that the reading takes, are together of bulk at most 1048576: NARROWER than '..Said'. Prove '..Said' where nothing that the law and all that it calls make is longer than what came in: it says more and counts as full. Else prove '..UptoSaid'. A law counts once. -/
mutual
def uptoBulk {H : Type} : DataW H → Nat
  | .lit (.string bytes) => bytes.length + 1
  | .lit _ => 1
  | .nil => 1
  | .ptr d => uptoBulk d + 1
  | .slice elems spare => uptoBulkAll elems + uptoBulkAll spare + 1
  | .agg parts => uptoBulkAll parts + 1
  | .iface _ d => uptoBulk d + 1
  | .map entries => uptoBulkEntries entries + 1
  | .held _ => 1
def uptoBulkAll {H : Type} : List (DataW H) → Nat
  | [] => 0
  | d :: r => uptoBulk d + uptoBulkAll r
def uptoBulkEntries {H : Type} : List (Lit × DataW H) → Nat
  | [] => 0
  | x :: r => uptoBulkEntry x + uptoBulkEntries r
def uptoBulkEntry {H : Type} : Lit × DataW H → Nat
  | (.string bytes, d) => bytes.length + uptoBulk d + 1
  | (_, d) => uptoBulk d + 1
 end
def uptoSmall : (H : Type) → List (DataW H) → Bool := fun _ ds => decide (uptoBulkAll ds ≤ 1048576)
def OpenSpec.upto (s : _root_.Go.ChangeSpec) : _root_.Go.OpenSpec := { _root_.Go.OpenSpec.ofChange s with cond := some uptoSmall }

/-- 'lithophanelaw23.MeasureDistances', WHERE WHAT IT READS IS OF BULK AT MOST 1048576: true; the input reads as it did. -/
def measureDistancesUptoRow : OpenClaim := { program := "ytmcgcnpgkkfkoaagreatdoor", sum := "3ec34ddc568235a4e4add362c00ecb1935b62d1c4118b997bcf7e71ffbbdde40", func := "lithophane/lithophanelaw23.MeasureDistances", spec := "measureDistances", inPlace := ["internal/bytealg.IndexByteString", "internal/bytealg.IndexString"], unfollowed := true, recurses := true, named := ["unicode/utf8.first", "unicode/utf8.acceptRanges", "internal/bytealg.MaxLen"], plainKeys := false, apart := false, laid := [("unicode/utf8.acceptRanges", laid_unicode_utf8_acceptRanges), ("unicode/utf8.first", laid_unicode_utf8_first)], narrowed := true }
def MeasureDistancesUptoSaid : Prop := measureDistancesUptoRow.holds Tryz.pinned (OpenSpec.upto measureDistancesSpec)

/-- 'lithophanelaw23.MeasureAreas', WHERE WHAT IT READS IS OF BULK AT MOST 1048576: true; the input reads as it did. -/
def measureAreasUptoRow : OpenClaim := { program := "ytmcgcnpgkkfkoaagreatdoor", sum := "3ec34ddc568235a4e4add362c00ecb1935b62d1c4118b997bcf7e71ffbbdde40", func := "lithophane/lithophanelaw23.MeasureAreas", spec := "measureAreas", inPlace := ["internal/bytealg.IndexByteString", "internal/bytealg.IndexString"], unfollowed := true, recurses := true, named := ["unicode/utf8.first", "unicode/utf8.acceptRanges", "internal/bytealg.MaxLen"], plainKeys := false, apart := false, laid := [("unicode/utf8.acceptRanges", laid_unicode_utf8_acceptRanges), ("unicode/utf8.first", laid_unicode_utf8_first)], narrowed := true }
def MeasureAreasUptoSaid : Prop := measureAreasUptoRow.holds Tryz.pinned (OpenSpec.upto measureAreasSpec)

/-- 'lithophanelaw23.MeasureMoves', WHERE WHAT IT READS IS OF BULK AT MOST 1048576: true; the input reads as it did. -/
def measureMovesUptoRow : OpenClaim := { program := "ytmcgcnpgkkfkoaagreatdoor", sum := "3ec34ddc568235a4e4add362c00ecb1935b62d1c4118b997bcf7e71ffbbdde40", func := "lithophane/lithophanelaw23.MeasureMoves", spec := "measureMoves", inPlace := ["internal/bytealg.IndexByteString", "internal/bytealg.IndexString"], unfollowed := true, recurses := true, named := ["unicode/utf8.first", "unicode/utf8.acceptRanges", "internal/bytealg.MaxLen"], plainKeys := false, apart := false, laid := [("unicode/utf8.acceptRanges", laid_unicode_utf8_acceptRanges), ("unicode/utf8.first", laid_unicode_utf8_first)], narrowed := true }
def MeasureMovesUptoSaid : Prop := measureMovesUptoRow.holds Tryz.pinned (OpenSpec.upto measureMovesSpec)

/-- 'lithophanelaw23.MeasureNear', WHERE WHAT IT READS IS OF BULK AT MOST 1048576: true; the input reads as it did. -/
def measureNearUptoRow : OpenClaim := { program := "ytmcgcnpgkkfkoaagreatdoor", sum := "3ec34ddc568235a4e4add362c00ecb1935b62d1c4118b997bcf7e71ffbbdde40", func := "lithophane/lithophanelaw23.MeasureNear", spec := "measureNear", inPlace := ["internal/bytealg.IndexByteString", "internal/bytealg.IndexString"], unfollowed := true, recurses := true, named := ["unicode/utf8.first", "unicode/utf8.acceptRanges", "internal/bytealg.MaxLen"], plainKeys := false, apart := false, laid := [("unicode/utf8.acceptRanges", laid_unicode_utf8_acceptRanges), ("unicode/utf8.first", laid_unicode_utf8_first)], narrowed := true }
def MeasureNearUptoSaid : Prop := measureNearUptoRow.holds Tryz.pinned (OpenSpec.upto measureNearSpec)

/-- 'lithophanelaw23.MeasureVolumes', WHERE WHAT IT READS IS OF BULK AT MOST 1048576: true; the input reads as it did. -/
def measureVolumesUptoRow : OpenClaim := { program := "ytmcgcnpgkkfkoaagreatdoor", sum := "3ec34ddc568235a4e4add362c00ecb1935b62d1c4118b997bcf7e71ffbbdde40", func := "lithophane/lithophanelaw23.MeasureVolumes", spec := "measureVolumes", inPlace := ["internal/bytealg.IndexByteString", "internal/bytealg.IndexString"], unfollowed := true, recurses := true, named := ["unicode/utf8.first", "unicode/utf8.acceptRanges", "internal/bytealg.MaxLen"], plainKeys := false, apart := false, laid := [("unicode/utf8.acceptRanges", laid_unicode_utf8_acceptRanges), ("unicode/utf8.first", laid_unicode_utf8_first)], narrowed := true }
def MeasureVolumesUptoSaid : Prop := measureVolumesUptoRow.holds Tryz.pinned (OpenSpec.upto measureVolumesSpec)

/-- 'lithophanelaw23.MeasureEmpty', WHERE WHAT IT READS IS OF BULK AT MOST 1048576: true; the input reads as it did. -/
def measureEmptyUptoRow : OpenClaim := { program := "ytmcgcnpgkkfkoaagreatdoor", sum := "3ec34ddc568235a4e4add362c00ecb1935b62d1c4118b997bcf7e71ffbbdde40", func := "lithophane/lithophanelaw23.MeasureEmpty", spec := "measureEmpty", inPlace := ["internal/bytealg.IndexByteString", "internal/bytealg.IndexString"], unfollowed := true, recurses := true, named := ["unicode/utf8.first", "unicode/utf8.acceptRanges", "internal/bytealg.MaxLen"], plainKeys := false, apart := false, laid := [("unicode/utf8.acceptRanges", laid_unicode_utf8_acceptRanges), ("unicode/utf8.first", laid_unicode_utf8_first)], narrowed := true }
def MeasureEmptyUptoSaid : Prop := measureEmptyUptoRow.holds Tryz.pinned (OpenSpec.upto measureEmptySpec)

/-- 'lithophanelaw23.MeasureScaled', WHERE WHAT IT READS IS OF BULK AT MOST 1048576: true; the input reads as it did. -/
def measureScaledUptoRow : OpenClaim := { program := "ytmcgcnpgkkfkoaagreatdoor", sum := "3ec34ddc568235a4e4add362c00ecb1935b62d1c4118b997bcf7e71ffbbdde40", func := "lithophane/lithophanelaw23.MeasureScaled", spec := "measureScaled", inPlace := ["internal/bytealg.IndexByteString", "internal/bytealg.IndexString"], unfollowed := true, recurses := true, named := ["unicode/utf8.first", "unicode/utf8.acceptRanges", "internal/bytealg.MaxLen"], plainKeys := false, apart := false, laid := [("unicode/utf8.acceptRanges", laid_unicode_utf8_acceptRanges), ("unicode/utf8.first", laid_unicode_utf8_first)], narrowed := true }
def MeasureScaledUptoSaid : Prop := measureScaledUptoRow.holds Tryz.pinned (OpenSpec.upto measureScaledSpec)

end Rows
end Go.Proofs.YtmcgcnpgkkfkoaaGreatDoor
