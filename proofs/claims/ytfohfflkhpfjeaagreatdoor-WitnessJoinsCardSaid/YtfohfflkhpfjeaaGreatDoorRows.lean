/-
  NARROWER THAN 'FOR EVERY INPUT', by the rows' own cells (each row's printed sentence says how): WitnessChecks: laid · WitnessSelf: laid · WitnessMoves: laid · WitnessChain: laid · WitnessTurned: laid · WitnessJoins: laid · WitnessFar: laid · WitnessDelta: laid.
  DERIVED. THE GIVEN ROWS OF THIS SEAT. 8 by the template 'for every input the law returns true; each argument reads behind the call as it read before'; 0 by the template 'total and deterministic' (their statements: YtfohfflkhpfjeaaGreatDoorTotals.lean).
  GIVEN WITH THE SEED: the statements are not yours to turn. If you find one false, say at which input.
  Laid BY PROGRAM, IN A SANDBOX (cutbox-rows.mjs): the forced cells as the released guide's own fill.sh prints them over the translation 5cab3ef4cf70ad71… (all of the seat's roots in one cut). By AI agents, Wed Nov 11 2026. No macro, syntax, notation, axiom, sorry.
-/
import Derived.Test.YtfohfflkhpfjeaaGreatDoorChecked
import GoSem.PinnedTables
import GoSem.Claim
import GoSem.ClaimJoined
import GoSem.ClaimMapViews
import Derived.JoinedTies
import Derived.KernelRfl
namespace Go.Proofs.YtfohfflkhpfjeaaGreatDoor
/- THE CELL 'sum', in the pinned program and in every row, IS THE sha256 OF THE DUMP (.gsa) THAT YtfohfflkhpfjeaaGreatDoorProg.lean LOADS. Nothing in Lean hashes anything: it is a label: what it is worth is what the hold of that sum in a sandbox is worth. -/
noncomputable def Tryz.pinned : Pinned := { name := "ytfohfflkhpfjeaagreatdoor", sum := "5cab3ef4cf70ad71232cd7350564cf35010f24aa1ef1ce33a122b566474f7a03", checked := Tryz.checked }
namespace Rows
def none {H : Type} : Left H := { results := [], args := [] }

/- WHAT THE LISTED PACKAGE-LEVEL VARIABLES READ AS WHEN THE CALL BEGINS. Each datum BY PROGRAM (the guide's laid-datum.mjs) off the statement by which the dump's own 'gosem.cut.vars' lays the variable. In a bare row this is a premise. The card (YtfohfflkhpfjeaaGreatDoorCards.lean) ties it to the program's text. -/
def laid_unicode_utf8_acceptRanges {H : Type} : DataW H := .agg [.agg [.lit (.int .u8 128), .lit (.int .u8 191)], .agg [.lit (.int .u8 160), .lit (.int .u8 191)], .agg [.lit (.int .u8 128), .lit (.int .u8 159)], .agg [.lit (.int .u8 144), .lit (.int .u8 191)], .agg [.lit (.int .u8 128), .lit (.int .u8 143)], .agg [.lit (.int .u8 0), .lit (.int .u8 0)], .agg [.lit (.int .u8 0), .lit (.int .u8 0)], .agg [.lit (.int .u8 0), .lit (.int .u8 0)], .agg [.lit (.int .u8 0), .lit (.int .u8 0)], .agg [.lit (.int .u8 0), .lit (.int .u8 0)], .agg [.lit (.int .u8 0), .lit (.int .u8 0)], .agg [.lit (.int .u8 0), .lit (.int .u8 0)], .agg [.lit (.int .u8 0), .lit (.int .u8 0)], .agg [.lit (.int .u8 0), .lit (.int .u8 0)], .agg [.lit (.int .u8 0), .lit (.int .u8 0)], .agg [.lit (.int .u8 0), .lit (.int .u8 0)]]
/-- One of Go's own tables, pinned by name: the form's constant. -/
def laid_unicode_utf8_first : DataW Unit := Go.Pinned.utf8First

/-- 'lithophanelaw12.WitnessChecks': WHATEVER THE INPUT: true; the input reads as it did. -/
def witnessChecksSpec : ChangeSpec := { name := "witnessChecks", fn := fun _ => fun
  | [d1, d2] => { results := [.lit (.bool true)], args := [d1, d2] }
  | _ => none }
def witnessChecksRow : OpenClaim := { program := "ytfohfflkhpfjeaagreatdoor", sum := "5cab3ef4cf70ad71232cd7350564cf35010f24aa1ef1ce33a122b566474f7a03", func := "lithophane/lithophanelaw12.WitnessChecks", spec := "witnessChecks", inPlace := ["internal/bytealg.IndexByteString", "internal/bytealg.IndexString"], unfollowed := true, recurses := true, named := ["unicode/utf8.first", "unicode/utf8.acceptRanges", "internal/bytealg.MaxLen"], plainKeys := false, apart := false, laid := [("unicode/utf8.acceptRanges", laid_unicode_utf8_acceptRanges), ("unicode/utf8.first", laid_unicode_utf8_first)] }
def WitnessChecksSaid : Prop := witnessChecksRow.holds Tryz.pinned (OpenSpec.ofChange witnessChecksSpec)

/-- ITS FALSE NEIGHBOUR: 'it returns false'. Refute it at one input. -/
def witnessChecksWrong : ChangeSpec := { name := "witnessChecks", fn := fun _ => fun
  | [d1, d2] => { results := [.lit (.bool false)], args := [d1, d2] }
  | _ => none }
def WitnessChecksWrongFalsely : Prop := witnessChecksRow.holds Tryz.pinned (OpenSpec.ofChange witnessChecksWrong)

/-- 'lithophanelaw12.WitnessSelf': WHATEVER THE INPUT: true; the input reads as it did. -/
def witnessSelfSpec : ChangeSpec := { name := "witnessSelf", fn := fun _ => fun
  | [d1, d2] => { results := [.lit (.bool true)], args := [d1, d2] }
  | _ => none }
def witnessSelfRow : OpenClaim := { program := "ytfohfflkhpfjeaagreatdoor", sum := "5cab3ef4cf70ad71232cd7350564cf35010f24aa1ef1ce33a122b566474f7a03", func := "lithophane/lithophanelaw12.WitnessSelf", spec := "witnessSelf", inPlace := ["internal/bytealg.IndexByteString", "internal/bytealg.IndexString"], unfollowed := true, recurses := true, named := ["unicode/utf8.first", "unicode/utf8.acceptRanges", "internal/bytealg.MaxLen"], plainKeys := false, apart := false, laid := [("unicode/utf8.acceptRanges", laid_unicode_utf8_acceptRanges), ("unicode/utf8.first", laid_unicode_utf8_first)] }
def WitnessSelfSaid : Prop := witnessSelfRow.holds Tryz.pinned (OpenSpec.ofChange witnessSelfSpec)

/-- ITS FALSE NEIGHBOUR: 'it returns false'. Refute it at one input. -/
def witnessSelfWrong : ChangeSpec := { name := "witnessSelf", fn := fun _ => fun
  | [d1, d2] => { results := [.lit (.bool false)], args := [d1, d2] }
  | _ => none }
def WitnessSelfWrongFalsely : Prop := witnessSelfRow.holds Tryz.pinned (OpenSpec.ofChange witnessSelfWrong)

/-- 'lithophanelaw12.WitnessMoves': WHATEVER THE INPUT: true; the input reads as it did. -/
def witnessMovesSpec : ChangeSpec := { name := "witnessMoves", fn := fun _ => fun
  | [d1, d2] => { results := [.lit (.bool true)], args := [d1, d2] }
  | _ => none }
def witnessMovesRow : OpenClaim := { program := "ytfohfflkhpfjeaagreatdoor", sum := "5cab3ef4cf70ad71232cd7350564cf35010f24aa1ef1ce33a122b566474f7a03", func := "lithophane/lithophanelaw12.WitnessMoves", spec := "witnessMoves", inPlace := ["internal/bytealg.IndexByteString", "internal/bytealg.IndexString"], unfollowed := true, recurses := true, named := ["unicode/utf8.first", "unicode/utf8.acceptRanges", "internal/bytealg.MaxLen"], plainKeys := false, apart := false, laid := [("unicode/utf8.acceptRanges", laid_unicode_utf8_acceptRanges), ("unicode/utf8.first", laid_unicode_utf8_first)] }
def WitnessMovesSaid : Prop := witnessMovesRow.holds Tryz.pinned (OpenSpec.ofChange witnessMovesSpec)

/-- ITS FALSE NEIGHBOUR: 'it returns false'. Refute it at one input. -/
def witnessMovesWrong : ChangeSpec := { name := "witnessMoves", fn := fun _ => fun
  | [d1, d2] => { results := [.lit (.bool false)], args := [d1, d2] }
  | _ => none }
def WitnessMovesWrongFalsely : Prop := witnessMovesRow.holds Tryz.pinned (OpenSpec.ofChange witnessMovesWrong)

/-- 'lithophanelaw12.WitnessChain': WHATEVER THE INPUT: true; the input reads as it did. -/
def witnessChainSpec : ChangeSpec := { name := "witnessChain", fn := fun _ => fun
  | [d1, d2] => { results := [.lit (.bool true)], args := [d1, d2] }
  | _ => none }
def witnessChainRow : OpenClaim := { program := "ytfohfflkhpfjeaagreatdoor", sum := "5cab3ef4cf70ad71232cd7350564cf35010f24aa1ef1ce33a122b566474f7a03", func := "lithophane/lithophanelaw12.WitnessChain", spec := "witnessChain", inPlace := ["internal/bytealg.IndexByteString", "internal/bytealg.IndexString"], unfollowed := true, recurses := true, named := ["unicode/utf8.first", "unicode/utf8.acceptRanges", "internal/bytealg.MaxLen"], plainKeys := false, apart := false, laid := [("unicode/utf8.acceptRanges", laid_unicode_utf8_acceptRanges), ("unicode/utf8.first", laid_unicode_utf8_first)] }
def WitnessChainSaid : Prop := witnessChainRow.holds Tryz.pinned (OpenSpec.ofChange witnessChainSpec)

/-- ITS FALSE NEIGHBOUR: 'it returns false'. Refute it at one input. -/
def witnessChainWrong : ChangeSpec := { name := "witnessChain", fn := fun _ => fun
  | [d1, d2] => { results := [.lit (.bool false)], args := [d1, d2] }
  | _ => none }
def WitnessChainWrongFalsely : Prop := witnessChainRow.holds Tryz.pinned (OpenSpec.ofChange witnessChainWrong)

/-- 'lithophanelaw12.WitnessTurned': WHATEVER THE INPUT: true; the input reads as it did. -/
def witnessTurnedSpec : ChangeSpec := { name := "witnessTurned", fn := fun _ => fun
  | [d1, d2] => { results := [.lit (.bool true)], args := [d1, d2] }
  | _ => none }
def witnessTurnedRow : OpenClaim := { program := "ytfohfflkhpfjeaagreatdoor", sum := "5cab3ef4cf70ad71232cd7350564cf35010f24aa1ef1ce33a122b566474f7a03", func := "lithophane/lithophanelaw12.WitnessTurned", spec := "witnessTurned", inPlace := ["internal/bytealg.IndexByteString", "internal/bytealg.IndexString"], unfollowed := true, recurses := true, named := ["unicode/utf8.first", "unicode/utf8.acceptRanges", "internal/bytealg.MaxLen"], plainKeys := false, apart := false, laid := [("unicode/utf8.acceptRanges", laid_unicode_utf8_acceptRanges), ("unicode/utf8.first", laid_unicode_utf8_first)] }
def WitnessTurnedSaid : Prop := witnessTurnedRow.holds Tryz.pinned (OpenSpec.ofChange witnessTurnedSpec)

/-- ITS FALSE NEIGHBOUR: 'it returns false'. Refute it at one input. -/
def witnessTurnedWrong : ChangeSpec := { name := "witnessTurned", fn := fun _ => fun
  | [d1, d2] => { results := [.lit (.bool false)], args := [d1, d2] }
  | _ => none }
def WitnessTurnedWrongFalsely : Prop := witnessTurnedRow.holds Tryz.pinned (OpenSpec.ofChange witnessTurnedWrong)

/-- 'lithophanelaw12.WitnessJoins': WHATEVER THE INPUT: true; the input reads as it did. -/
def witnessJoinsSpec : ChangeSpec := { name := "witnessJoins", fn := fun _ => fun
  | [d1, d2, d3] => { results := [.lit (.bool true)], args := [d1, d2, d3] }
  | _ => none }
def witnessJoinsRow : OpenClaim := { program := "ytfohfflkhpfjeaagreatdoor", sum := "5cab3ef4cf70ad71232cd7350564cf35010f24aa1ef1ce33a122b566474f7a03", func := "lithophane/lithophanelaw12.WitnessJoins", spec := "witnessJoins", inPlace := ["internal/bytealg.IndexByteString", "internal/bytealg.IndexString"], unfollowed := true, recurses := true, named := ["unicode/utf8.first", "unicode/utf8.acceptRanges", "internal/bytealg.MaxLen"], plainKeys := false, apart := false, laid := [("unicode/utf8.acceptRanges", laid_unicode_utf8_acceptRanges), ("unicode/utf8.first", laid_unicode_utf8_first)] }
def WitnessJoinsSaid : Prop := witnessJoinsRow.holds Tryz.pinned (OpenSpec.ofChange witnessJoinsSpec)

/-- ITS FALSE NEIGHBOUR: 'it returns false'. Refute it at one input. -/
def witnessJoinsWrong : ChangeSpec := { name := "witnessJoins", fn := fun _ => fun
  | [d1, d2, d3] => { results := [.lit (.bool false)], args := [d1, d2, d3] }
  | _ => none }
def WitnessJoinsWrongFalsely : Prop := witnessJoinsRow.holds Tryz.pinned (OpenSpec.ofChange witnessJoinsWrong)

/-- 'lithophanelaw12.WitnessFar': WHATEVER THE INPUT: true; the input reads as it did. -/
def witnessFarSpec : ChangeSpec := { name := "witnessFar", fn := fun _ => fun
  | [d] => { results := [.lit (.bool true)], args := [d] }
  | _ => none }
def witnessFarRow : OpenClaim := { program := "ytfohfflkhpfjeaagreatdoor", sum := "5cab3ef4cf70ad71232cd7350564cf35010f24aa1ef1ce33a122b566474f7a03", func := "lithophane/lithophanelaw12.WitnessFar", spec := "witnessFar", inPlace := ["internal/bytealg.IndexByteString", "internal/bytealg.IndexString"], unfollowed := true, recurses := true, named := ["unicode/utf8.first", "unicode/utf8.acceptRanges", "internal/bytealg.MaxLen"], plainKeys := false, apart := false, laid := [("unicode/utf8.acceptRanges", laid_unicode_utf8_acceptRanges), ("unicode/utf8.first", laid_unicode_utf8_first)] }
def WitnessFarSaid : Prop := witnessFarRow.holds Tryz.pinned (OpenSpec.ofChange witnessFarSpec)

/-- ITS FALSE NEIGHBOUR: 'it returns false'. Refute it at one input. -/
def witnessFarWrong : ChangeSpec := { name := "witnessFar", fn := fun _ => fun
  | [d] => { results := [.lit (.bool false)], args := [d] }
  | _ => none }
def WitnessFarWrongFalsely : Prop := witnessFarRow.holds Tryz.pinned (OpenSpec.ofChange witnessFarWrong)

/-- 'lithophanelaw12.WitnessDelta': WHATEVER THE INPUT: true; the input reads as it did. -/
def witnessDeltaSpec : ChangeSpec := { name := "witnessDelta", fn := fun _ => fun
  | [d1, d2, d3] => { results := [.lit (.bool true)], args := [d1, d2, d3] }
  | _ => none }
def witnessDeltaRow : OpenClaim := { program := "ytfohfflkhpfjeaagreatdoor", sum := "5cab3ef4cf70ad71232cd7350564cf35010f24aa1ef1ce33a122b566474f7a03", func := "lithophane/lithophanelaw12.WitnessDelta", spec := "witnessDelta", inPlace := ["internal/bytealg.IndexByteString", "internal/bytealg.IndexString"], unfollowed := true, recurses := true, named := ["unicode/utf8.first", "unicode/utf8.acceptRanges", "internal/bytealg.MaxLen"], plainKeys := false, apart := false, laid := [("unicode/utf8.acceptRanges", laid_unicode_utf8_acceptRanges), ("unicode/utf8.first", laid_unicode_utf8_first)] }
def WitnessDeltaSaid : Prop := witnessDeltaRow.holds Tryz.pinned (OpenSpec.ofChange witnessDeltaSpec)

/-- ITS FALSE NEIGHBOUR: 'it returns false'. Refute it at one input. -/
def witnessDeltaWrong : ChangeSpec := { name := "witnessDelta", fn := fun _ => fun
  | [d1, d2, d3] => { results := [.lit (.bool false)], args := [d1, d2, d3] }
  | _ => none }
def WitnessDeltaWrongFalsely : Prop := witnessDeltaRow.holds Tryz.pinned (OpenSpec.ofChange witnessDeltaWrong)

/- THE SECOND FORM. 'bulk': how many values and letters a reading holds, each counted each time it is reached (what is shared counts as often as it is met; a slice's spare places count too). A statement '..UptoSaid' is the law's where the arguments, and the package variables that the reading takes, are together of bulk at most 1048576: NARROWER than '..Said'. Prove '..Said' where nothing that the law and all that it calls make is longer than what came in: it says more and counts as full. Else prove '..UptoSaid'. A law counts once. -/
mutual
def uptoBulk {H : Type} : DataW H → Nat
  | .lit (.string bytes) => bytes.length + 1
  | .lit _ => 1
  | .nil => 1
  | .ptr d => uptoBulk d + 1
  | .slice elems spare => uptoBulkAll elems + uptoBulkAll spare + 1
  | .agg parts => uptoBulkAll parts + 1
  | .iface _ d => uptoBulk d + 1
  | .map entries => uptoBulkEntries entries + 1
  | .held _ => 1
def uptoBulkAll {H : Type} : List (DataW H) → Nat
  | [] => 0
  | d :: r => uptoBulk d + uptoBulkAll r
def uptoBulkEntries {H : Type} : List (Lit × DataW H) → Nat
  | [] => 0
  | x :: r => uptoBulkEntry x + uptoBulkEntries r
def uptoBulkEntry {H : Type} : Lit × DataW H → Nat
  | (.string bytes, d) => bytes.length + uptoBulk d + 1
  | (_, d) => uptoBulk d + 1
 end
def uptoSmall : (H : Type) → List (DataW H) → Bool := fun _ ds => decide (uptoBulkAll ds ≤ 1048576)
def OpenSpec.upto (s : _root_.Go.ChangeSpec) : _root_.Go.OpenSpec := { _root_.Go.OpenSpec.ofChange s with cond := some uptoSmall }

/-- 'lithophanelaw12.WitnessChecks', WHERE WHAT IT READS IS OF BULK AT MOST 1048576: true; the input reads as it did. -/
def witnessChecksUptoRow : OpenClaim := { program := "ytfohfflkhpfjeaagreatdoor", sum := "5cab3ef4cf70ad71232cd7350564cf35010f24aa1ef1ce33a122b566474f7a03", func := "lithophane/lithophanelaw12.WitnessChecks", spec := "witnessChecks", inPlace := ["internal/bytealg.IndexByteString", "internal/bytealg.IndexString"], unfollowed := true, recurses := true, named := ["unicode/utf8.first", "unicode/utf8.acceptRanges", "internal/bytealg.MaxLen"], plainKeys := false, apart := false, laid := [("unicode/utf8.acceptRanges", laid_unicode_utf8_acceptRanges), ("unicode/utf8.first", laid_unicode_utf8_first)], narrowed := true }
def WitnessChecksUptoSaid : Prop := witnessChecksUptoRow.holds Tryz.pinned (OpenSpec.upto witnessChecksSpec)

/-- 'lithophanelaw12.WitnessSelf', WHERE WHAT IT READS IS OF BULK AT MOST 1048576: true; the input reads as it did. -/
def witnessSelfUptoRow : OpenClaim := { program := "ytfohfflkhpfjeaagreatdoor", sum := "5cab3ef4cf70ad71232cd7350564cf35010f24aa1ef1ce33a122b566474f7a03", func := "lithophane/lithophanelaw12.WitnessSelf", spec := "witnessSelf", inPlace := ["internal/bytealg.IndexByteString", "internal/bytealg.IndexString"], unfollowed := true, recurses := true, named := ["unicode/utf8.first", "unicode/utf8.acceptRanges", "internal/bytealg.MaxLen"], plainKeys := false, apart := false, laid := [("unicode/utf8.acceptRanges", laid_unicode_utf8_acceptRanges), ("unicode/utf8.first", laid_unicode_utf8_first)], narrowed := true }
def WitnessSelfUptoSaid : Prop := witnessSelfUptoRow.holds Tryz.pinned (OpenSpec.upto witnessSelfSpec)

/-- 'lithophanelaw12.WitnessMoves', WHERE WHAT IT READS IS OF BULK AT MOST 1048576: true; the input reads as it did. -/
def witnessMovesUptoRow : OpenClaim := { program := "ytfohfflkhpfjeaagreatdoor", sum := "5cab3ef4cf70ad71232cd7350564cf35010f24aa1ef1ce33a122b566474f7a03", func := "lithophane/lithophanelaw12.WitnessMoves", spec := "witnessMoves", inPlace := ["internal/bytealg.IndexByteString", "internal/bytealg.IndexString"], unfollowed := true, recurses := true, named := ["unicode/utf8.first", "unicode/utf8.acceptRanges", "internal/bytealg.MaxLen"], plainKeys := false, apart := false, laid := [("unicode/utf8.acceptRanges", laid_unicode_utf8_acceptRanges), ("unicode/utf8.first", laid_unicode_utf8_first)], narrowed := true }
def WitnessMovesUptoSaid : Prop := witnessMovesUptoRow.holds Tryz.pinned (OpenSpec.upto witnessMovesSpec)

/-- 'lithophanelaw12.WitnessChain', WHERE WHAT IT READS IS OF BULK AT MOST 1048576: true; the input reads as it did. -/
def witnessChainUptoRow : OpenClaim := { program := "ytfohfflkhpfjeaagreatdoor", sum := "5cab3ef4cf70ad71232cd7350564cf35010f24aa1ef1ce33a122b566474f7a03", func := "lithophane/lithophanelaw12.WitnessChain", spec := "witnessChain", inPlace := ["internal/bytealg.IndexByteString", "internal/bytealg.IndexString"], unfollowed := true, recurses := true, named := ["unicode/utf8.first", "unicode/utf8.acceptRanges", "internal/bytealg.MaxLen"], plainKeys := false, apart := false, laid := [("unicode/utf8.acceptRanges", laid_unicode_utf8_acceptRanges), ("unicode/utf8.first", laid_unicode_utf8_first)], narrowed := true }
def WitnessChainUptoSaid : Prop := witnessChainUptoRow.holds Tryz.pinned (OpenSpec.upto witnessChainSpec)

/-- 'lithophanelaw12.WitnessTurned', WHERE WHAT IT READS IS OF BULK AT MOST 1048576: true; the input reads as it did. -/
def witnessTurnedUptoRow : OpenClaim := { program := "ytfohfflkhpfjeaagreatdoor", sum := "5cab3ef4cf70ad71232cd7350564cf35010f24aa1ef1ce33a122b566474f7a03", func := "lithophane/lithophanelaw12.WitnessTurned", spec := "witnessTurned", inPlace := ["internal/bytealg.IndexByteString", "internal/bytealg.IndexString"], unfollowed := true, recurses := true, named := ["unicode/utf8.first", "unicode/utf8.acceptRanges", "internal/bytealg.MaxLen"], plainKeys := false, apart := false, laid := [("unicode/utf8.acceptRanges", laid_unicode_utf8_acceptRanges), ("unicode/utf8.first", laid_unicode_utf8_first)], narrowed := true }
def WitnessTurnedUptoSaid : Prop := witnessTurnedUptoRow.holds Tryz.pinned (OpenSpec.upto witnessTurnedSpec)

/-- 'lithophanelaw12.WitnessJoins', WHERE WHAT IT READS IS OF BULK AT MOST 1048576: true; the input reads as it did. -/
def witnessJoinsUptoRow : OpenClaim := { program := "ytfohfflkhpfjeaagreatdoor", sum := "5cab3ef4cf70ad71232cd7350564cf35010f24aa1ef1ce33a122b566474f7a03", func := "lithophane/lithophanelaw12.WitnessJoins", spec := "witnessJoins", inPlace := ["internal/bytealg.IndexByteString", "internal/bytealg.IndexString"], unfollowed := true, recurses := true, named := ["unicode/utf8.first", "unicode/utf8.acceptRanges", "internal/bytealg.MaxLen"], plainKeys := false, apart := false, laid := [("unicode/utf8.acceptRanges", laid_unicode_utf8_acceptRanges), ("unicode/utf8.first", laid_unicode_utf8_first)], narrowed := true }
def WitnessJoinsUptoSaid : Prop := witnessJoinsUptoRow.holds Tryz.pinned (OpenSpec.upto witnessJoinsSpec)

/-- 'lithophanelaw12.WitnessFar', WHERE WHAT IT READS IS OF BULK AT MOST 1048576: true; the input reads as it did. -/
def witnessFarUptoRow : OpenClaim := { program := "ytfohfflkhpfjeaagreatdoor", sum := "5cab3ef4cf70ad71232cd7350564cf35010f24aa1ef1ce33a122b566474f7a03", func := "lithophane/lithophanelaw12.WitnessFar", spec := "witnessFar", inPlace := ["internal/bytealg.IndexByteString", "internal/bytealg.IndexString"], unfollowed := true, recurses := true, named := ["unicode/utf8.first", "unicode/utf8.acceptRanges", "internal/bytealg.MaxLen"], plainKeys := false, apart := false, laid := [("unicode/utf8.acceptRanges", laid_unicode_utf8_acceptRanges), ("unicode/utf8.first", laid_unicode_utf8_first)], narrowed := true }
def WitnessFarUptoSaid : Prop := witnessFarUptoRow.holds Tryz.pinned (OpenSpec.upto witnessFarSpec)

/-- 'lithophanelaw12.WitnessDelta', WHERE WHAT IT READS IS OF BULK AT MOST 1048576: true; the input reads as it did. -/
def witnessDeltaUptoRow : OpenClaim := { program := "ytfohfflkhpfjeaagreatdoor", sum := "5cab3ef4cf70ad71232cd7350564cf35010f24aa1ef1ce33a122b566474f7a03", func := "lithophane/lithophanelaw12.WitnessDelta", spec := "witnessDelta", inPlace := ["internal/bytealg.IndexByteString", "internal/bytealg.IndexString"], unfollowed := true, recurses := true, named := ["unicode/utf8.first", "unicode/utf8.acceptRanges", "internal/bytealg.MaxLen"], plainKeys := false, apart := false, laid := [("unicode/utf8.acceptRanges", laid_unicode_utf8_acceptRanges), ("unicode/utf8.first", laid_unicode_utf8_first)], narrowed := true }
def WitnessDeltaUptoSaid : Prop := witnessDeltaUptoRow.holds Tryz.pinned (OpenSpec.upto witnessDeltaSpec)

end Rows
end Go.Proofs.YtfohfflkhpfjeaaGreatDoor
