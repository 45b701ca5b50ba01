/-
  NARROWER THAN 'FOR EVERY INPUT', by the rows' own cells (each row's printed sentence says how): TraceAnswers: laid · TraceTrue: laid · TraceExact: laid · TraceDecides: laid · TraceWider: laid · TraceOrder: laid · TraceWrong: laid · TraceFar: laid.
  DERIVED. THE GIVEN ROWS OF THIS SEAT. 8 by the template 'for every input the law returns true; each argument reads behind the call as it read before'; 0 by the template 'total and deterministic' (their statements: YtimjandkmfcmiaaGreatDoorTotals.lean).
  GIVEN WITH THE SEED: the statements are not yours to turn. If you find one false, say at which input.
  Laid BY PROGRAM, IN A SANDBOX (cutbox-rows.mjs): the forced cells as the released guide's own fill.sh prints them over the translation 0aaad5175c8de1ae… (all of the seat's roots in one cut). By AI agents, Wed Nov 11 2026. No macro, syntax, notation, axiom, sorry.
-/
import Derived.Test.YtimjandkmfcmiaaGreatDoorChecked
import GoSem.PinnedTables
import GoSem.Claim
import GoSem.ClaimJoined
import GoSem.ClaimMapViews
import Derived.JoinedTies
import Derived.KernelRfl
namespace Go.Proofs.YtimjandkmfcmiaaGreatDoor
/- THE CELL 'sum', in the pinned program and in every row, IS THE sha256 OF THE DUMP (.gsa) THAT YtimjandkmfcmiaaGreatDoorProg.lean LOADS. Nothing in Lean hashes anything: it is a label: what it is worth is what the hold of that sum in a sandbox is worth. -/
noncomputable def Tryz.pinned : Pinned := { name := "ytimjandkmfcmiaagreatdoor", sum := "0aaad5175c8de1ae6e987b17cc173e6ee9bdc26fbde1beab7e84f18a40ecd047", checked := Tryz.checked }
namespace Rows
def none {H : Type} : Left H := { results := [], args := [] }

/- WHAT THE LISTED PACKAGE-LEVEL VARIABLES READ AS WHEN THE CALL BEGINS. Each datum BY PROGRAM (the guide's laid-datum.mjs) off the statement by which the dump's own 'gosem.cut.vars' lays the variable. In a bare row this is a premise. The card (YtimjandkmfcmiaaGreatDoorCards.lean) ties it to the program's text. -/
def laid_unicode_utf8_acceptRanges {H : Type} : DataW H := .agg [.agg [.lit (.int .u8 128), .lit (.int .u8 191)], .agg [.lit (.int .u8 160), .lit (.int .u8 191)], .agg [.lit (.int .u8 128), .lit (.int .u8 159)], .agg [.lit (.int .u8 144), .lit (.int .u8 191)], .agg [.lit (.int .u8 128), .lit (.int .u8 143)], .agg [.lit (.int .u8 0), .lit (.int .u8 0)], .agg [.lit (.int .u8 0), .lit (.int .u8 0)], .agg [.lit (.int .u8 0), .lit (.int .u8 0)], .agg [.lit (.int .u8 0), .lit (.int .u8 0)], .agg [.lit (.int .u8 0), .lit (.int .u8 0)], .agg [.lit (.int .u8 0), .lit (.int .u8 0)], .agg [.lit (.int .u8 0), .lit (.int .u8 0)], .agg [.lit (.int .u8 0), .lit (.int .u8 0)], .agg [.lit (.int .u8 0), .lit (.int .u8 0)], .agg [.lit (.int .u8 0), .lit (.int .u8 0)], .agg [.lit (.int .u8 0), .lit (.int .u8 0)]]
/-- One of Go's own tables, pinned by name: the form's constant. -/
def laid_unicode_utf8_first : DataW Unit := Go.Pinned.utf8First

/-- 'lithophanelaw28.TraceAnswers': WHATEVER THE INPUT: true; the input reads as it did. -/
def traceAnswersSpec : ChangeSpec := { name := "traceAnswers", fn := fun _ => fun
  | [d1, d2, d3] => { results := [.lit (.bool true)], args := [d1, d2, d3] }
  | _ => none }
def traceAnswersRow : OpenClaim := { program := "ytimjandkmfcmiaagreatdoor", sum := "0aaad5175c8de1ae6e987b17cc173e6ee9bdc26fbde1beab7e84f18a40ecd047", func := "lithophane/lithophanelaw28.TraceAnswers", spec := "traceAnswers", inPlace := ["internal/bytealg.IndexByteString", "internal/bytealg.IndexString"], unfollowed := true, recurses := true, named := ["unicode/utf8.first", "unicode/utf8.acceptRanges", "internal/bytealg.MaxLen"], plainKeys := false, apart := false, laid := [("unicode/utf8.acceptRanges", laid_unicode_utf8_acceptRanges), ("unicode/utf8.first", laid_unicode_utf8_first)] }
def TraceAnswersSaid : Prop := traceAnswersRow.holds Tryz.pinned (OpenSpec.ofChange traceAnswersSpec)

/-- ITS FALSE NEIGHBOUR: 'it returns false'. Refute it at one input. -/
def traceAnswersWrong : ChangeSpec := { name := "traceAnswers", fn := fun _ => fun
  | [d1, d2, d3] => { results := [.lit (.bool false)], args := [d1, d2, d3] }
  | _ => none }
def TraceAnswersWrongFalsely : Prop := traceAnswersRow.holds Tryz.pinned (OpenSpec.ofChange traceAnswersWrong)

/-- 'lithophanelaw28.TraceTrue': WHATEVER THE INPUT: true; the input reads as it did. -/
def traceTrueSpec : ChangeSpec := { name := "traceTrue", fn := fun _ => fun
  | [d] => { results := [.lit (.bool true)], args := [d] }
  | _ => none }
def traceTrueRow : OpenClaim := { program := "ytimjandkmfcmiaagreatdoor", sum := "0aaad5175c8de1ae6e987b17cc173e6ee9bdc26fbde1beab7e84f18a40ecd047", func := "lithophane/lithophanelaw28.TraceTrue", spec := "traceTrue", inPlace := ["internal/bytealg.IndexByteString", "internal/bytealg.IndexString"], unfollowed := true, recurses := true, named := ["unicode/utf8.first", "unicode/utf8.acceptRanges", "internal/bytealg.MaxLen"], plainKeys := false, apart := false, laid := [("unicode/utf8.acceptRanges", laid_unicode_utf8_acceptRanges), ("unicode/utf8.first", laid_unicode_utf8_first)] }
def TraceTrueSaid : Prop := traceTrueRow.holds Tryz.pinned (OpenSpec.ofChange traceTrueSpec)

/-- ITS FALSE NEIGHBOUR: 'it returns false'. Refute it at one input. -/
def traceTrueWrong : ChangeSpec := { name := "traceTrue", fn := fun _ => fun
  | [d] => { results := [.lit (.bool false)], args := [d] }
  | _ => none }
def TraceTrueWrongFalsely : Prop := traceTrueRow.holds Tryz.pinned (OpenSpec.ofChange traceTrueWrong)

/-- 'lithophanelaw28.TraceExact': WHATEVER THE INPUT: true; the input reads as it did. -/
def traceExactSpec : ChangeSpec := { name := "traceExact", fn := fun _ => fun
  | [d] => { results := [.lit (.bool true)], args := [d] }
  | _ => none }
def traceExactRow : OpenClaim := { program := "ytimjandkmfcmiaagreatdoor", sum := "0aaad5175c8de1ae6e987b17cc173e6ee9bdc26fbde1beab7e84f18a40ecd047", func := "lithophane/lithophanelaw28.TraceExact", spec := "traceExact", inPlace := ["internal/bytealg.IndexByteString", "internal/bytealg.IndexString"], unfollowed := true, recurses := true, named := ["unicode/utf8.first", "unicode/utf8.acceptRanges", "internal/bytealg.MaxLen"], plainKeys := false, apart := false, laid := [("unicode/utf8.acceptRanges", laid_unicode_utf8_acceptRanges), ("unicode/utf8.first", laid_unicode_utf8_first)] }
def TraceExactSaid : Prop := traceExactRow.holds Tryz.pinned (OpenSpec.ofChange traceExactSpec)

/-- ITS FALSE NEIGHBOUR: 'it returns false'. Refute it at one input. -/
def traceExactWrong : ChangeSpec := { name := "traceExact", fn := fun _ => fun
  | [d] => { results := [.lit (.bool false)], args := [d] }
  | _ => none }
def TraceExactWrongFalsely : Prop := traceExactRow.holds Tryz.pinned (OpenSpec.ofChange traceExactWrong)

/-- 'lithophanelaw28.TraceDecides': WHATEVER THE INPUT: true; the input reads as it did. -/
def traceDecidesSpec : ChangeSpec := { name := "traceDecides", fn := fun _ => fun
  | [d] => { results := [.lit (.bool true)], args := [d] }
  | _ => none }
def traceDecidesRow : OpenClaim := { program := "ytimjandkmfcmiaagreatdoor", sum := "0aaad5175c8de1ae6e987b17cc173e6ee9bdc26fbde1beab7e84f18a40ecd047", func := "lithophane/lithophanelaw28.TraceDecides", spec := "traceDecides", inPlace := ["internal/bytealg.IndexByteString", "internal/bytealg.IndexString"], unfollowed := true, recurses := true, named := ["unicode/utf8.first", "unicode/utf8.acceptRanges", "internal/bytealg.MaxLen"], plainKeys := false, apart := false, laid := [("unicode/utf8.acceptRanges", laid_unicode_utf8_acceptRanges), ("unicode/utf8.first", laid_unicode_utf8_first)] }
def TraceDecidesSaid : Prop := traceDecidesRow.holds Tryz.pinned (OpenSpec.ofChange traceDecidesSpec)

/-- ITS FALSE NEIGHBOUR: 'it returns false'. Refute it at one input. -/
def traceDecidesWrong : ChangeSpec := { name := "traceDecides", fn := fun _ => fun
  | [d] => { results := [.lit (.bool false)], args := [d] }
  | _ => none }
def TraceDecidesWrongFalsely : Prop := traceDecidesRow.holds Tryz.pinned (OpenSpec.ofChange traceDecidesWrong)

/-- 'lithophanelaw28.TraceWider': WHATEVER THE INPUT: true; the input reads as it did. -/
def traceWiderSpec : ChangeSpec := { name := "traceWider", fn := fun _ => fun
  | [d1, d2] => { results := [.lit (.bool true)], args := [d1, d2] }
  | _ => none }
def traceWiderRow : OpenClaim := { program := "ytimjandkmfcmiaagreatdoor", sum := "0aaad5175c8de1ae6e987b17cc173e6ee9bdc26fbde1beab7e84f18a40ecd047", func := "lithophane/lithophanelaw28.TraceWider", spec := "traceWider", inPlace := ["internal/bytealg.IndexByteString", "internal/bytealg.IndexString"], unfollowed := true, recurses := true, named := ["unicode/utf8.first", "unicode/utf8.acceptRanges", "internal/bytealg.MaxLen"], plainKeys := false, apart := false, laid := [("unicode/utf8.acceptRanges", laid_unicode_utf8_acceptRanges), ("unicode/utf8.first", laid_unicode_utf8_first)] }
def TraceWiderSaid : Prop := traceWiderRow.holds Tryz.pinned (OpenSpec.ofChange traceWiderSpec)

/-- ITS FALSE NEIGHBOUR: 'it returns false'. Refute it at one input. -/
def traceWiderWrong : ChangeSpec := { name := "traceWider", fn := fun _ => fun
  | [d1, d2] => { results := [.lit (.bool false)], args := [d1, d2] }
  | _ => none }
def TraceWiderWrongFalsely : Prop := traceWiderRow.holds Tryz.pinned (OpenSpec.ofChange traceWiderWrong)

/-- 'lithophanelaw28.TraceOrder': WHATEVER THE INPUT: true; the input reads as it did. -/
def traceOrderSpec : ChangeSpec := { name := "traceOrder", fn := fun _ => fun
  | [d1, d2, d3] => { results := [.lit (.bool true)], args := [d1, d2, d3] }
  | _ => none }
def traceOrderRow : OpenClaim := { program := "ytimjandkmfcmiaagreatdoor", sum := "0aaad5175c8de1ae6e987b17cc173e6ee9bdc26fbde1beab7e84f18a40ecd047", func := "lithophane/lithophanelaw28.TraceOrder", spec := "traceOrder", inPlace := ["internal/bytealg.IndexByteString", "internal/bytealg.IndexString"], unfollowed := true, recurses := true, named := ["unicode/utf8.first", "unicode/utf8.acceptRanges", "internal/bytealg.MaxLen"], plainKeys := false, apart := false, laid := [("unicode/utf8.acceptRanges", laid_unicode_utf8_acceptRanges), ("unicode/utf8.first", laid_unicode_utf8_first)] }
def TraceOrderSaid : Prop := traceOrderRow.holds Tryz.pinned (OpenSpec.ofChange traceOrderSpec)

/-- ITS FALSE NEIGHBOUR: 'it returns false'. Refute it at one input. -/
def traceOrderWrong : ChangeSpec := { name := "traceOrder", fn := fun _ => fun
  | [d1, d2, d3] => { results := [.lit (.bool false)], args := [d1, d2, d3] }
  | _ => none }
def TraceOrderWrongFalsely : Prop := traceOrderRow.holds Tryz.pinned (OpenSpec.ofChange traceOrderWrong)

/-- 'lithophanelaw28.TraceWrong': WHATEVER THE INPUT: true; the input reads as it did. -/
def traceWrongSpec : ChangeSpec := { name := "traceWrong", fn := fun _ => fun
  | [d1, d2] => { results := [.lit (.bool true)], args := [d1, d2] }
  | _ => none }
def traceWrongRow : OpenClaim := { program := "ytimjandkmfcmiaagreatdoor", sum := "0aaad5175c8de1ae6e987b17cc173e6ee9bdc26fbde1beab7e84f18a40ecd047", func := "lithophane/lithophanelaw28.TraceWrong", spec := "traceWrong", inPlace := ["internal/bytealg.IndexByteString", "internal/bytealg.IndexString"], unfollowed := true, recurses := true, named := ["unicode/utf8.first", "unicode/utf8.acceptRanges", "internal/bytealg.MaxLen"], plainKeys := false, apart := false, laid := [("unicode/utf8.acceptRanges", laid_unicode_utf8_acceptRanges), ("unicode/utf8.first", laid_unicode_utf8_first)] }
def TraceWrongSaid : Prop := traceWrongRow.holds Tryz.pinned (OpenSpec.ofChange traceWrongSpec)

/-- ITS FALSE NEIGHBOUR: 'it returns false'. Refute it at one input. -/
def traceWrongWrong : ChangeSpec := { name := "traceWrong", fn := fun _ => fun
  | [d1, d2] => { results := [.lit (.bool false)], args := [d1, d2] }
  | _ => none }
def TraceWrongWrongFalsely : Prop := traceWrongRow.holds Tryz.pinned (OpenSpec.ofChange traceWrongWrong)

/-- 'lithophanelaw28.TraceFar': WHATEVER THE INPUT: true; the input reads as it did. -/
def traceFarSpec : ChangeSpec := { name := "traceFar", fn := fun _ => fun
  | [d1, d2, d3] => { results := [.lit (.bool true)], args := [d1, d2, d3] }
  | _ => none }
def traceFarRow : OpenClaim := { program := "ytimjandkmfcmiaagreatdoor", sum := "0aaad5175c8de1ae6e987b17cc173e6ee9bdc26fbde1beab7e84f18a40ecd047", func := "lithophane/lithophanelaw28.TraceFar", spec := "traceFar", inPlace := ["internal/bytealg.IndexByteString", "internal/bytealg.IndexString"], unfollowed := true, recurses := true, named := ["unicode/utf8.first", "unicode/utf8.acceptRanges", "internal/bytealg.MaxLen"], plainKeys := false, apart := false, laid := [("unicode/utf8.acceptRanges", laid_unicode_utf8_acceptRanges), ("unicode/utf8.first", laid_unicode_utf8_first)] }
def TraceFarSaid : Prop := traceFarRow.holds Tryz.pinned (OpenSpec.ofChange traceFarSpec)

/-- ITS FALSE NEIGHBOUR: 'it returns false'. Refute it at one input. -/
def traceFarWrong : ChangeSpec := { name := "traceFar", fn := fun _ => fun
  | [d1, d2, d3] => { results := [.lit (.bool false)], args := [d1, d2, d3] }
  | _ => none }
def TraceFarWrongFalsely : Prop := traceFarRow.holds Tryz.pinned (OpenSpec.ofChange traceFarWrong)

/- THE SECOND FORM. 'bulk': how many values and letters a reading holds, each counted each time it is reached (what is shared counts as often as it is met; a slice's spare places count too). A statement '..UptoSaid' is the law's where the arguments, and the package variables that the reading takes, are together of bulk at most 1048576: NARROWER than '..Said'. Prove '..Said' where nothing that the law and all that it calls make is longer than what came in: it says more and counts as full. Else prove '..UptoSaid'. A law counts once. -/
mutual
def uptoBulk {H : Type} : DataW H → Nat
  | .lit (.string bytes) => bytes.length + 1
  | .lit _ => 1
  | .nil => 1
  | .ptr d => uptoBulk d + 1
  | .slice elems spare => uptoBulkAll elems + uptoBulkAll spare + 1
  | .agg parts => uptoBulkAll parts + 1
  | .iface _ d => uptoBulk d + 1
  | .map entries => uptoBulkEntries entries + 1
  | .held _ => 1
def uptoBulkAll {H : Type} : List (DataW H) → Nat
  | [] => 0
  | d :: r => uptoBulk d + uptoBulkAll r
def uptoBulkEntries {H : Type} : List (Lit × DataW H) → Nat
  | [] => 0
  | x :: r => uptoBulkEntry x + uptoBulkEntries r
def uptoBulkEntry {H : Type} : Lit × DataW H → Nat
  | (.string bytes, d) => bytes.length + uptoBulk d + 1
  | (_, d) => uptoBulk d + 1
 end
def uptoSmall : (H : Type) → List (DataW H) → Bool := fun _ ds => decide (uptoBulkAll ds ≤ 1048576)
def OpenSpec.upto (s : _root_.Go.ChangeSpec) : _root_.Go.OpenSpec := { _root_.Go.OpenSpec.ofChange s with cond := some uptoSmall }

/-- 'lithophanelaw28.TraceAnswers', WHERE WHAT IT READS IS OF BULK AT MOST 1048576: true; the input reads as it did. -/
def traceAnswersUptoRow : OpenClaim := { program := "ytimjandkmfcmiaagreatdoor", sum := "0aaad5175c8de1ae6e987b17cc173e6ee9bdc26fbde1beab7e84f18a40ecd047", func := "lithophane/lithophanelaw28.TraceAnswers", spec := "traceAnswers", inPlace := ["internal/bytealg.IndexByteString", "internal/bytealg.IndexString"], unfollowed := true, recurses := true, named := ["unicode/utf8.first", "unicode/utf8.acceptRanges", "internal/bytealg.MaxLen"], plainKeys := false, apart := false, laid := [("unicode/utf8.acceptRanges", laid_unicode_utf8_acceptRanges), ("unicode/utf8.first", laid_unicode_utf8_first)], narrowed := true }
def TraceAnswersUptoSaid : Prop := traceAnswersUptoRow.holds Tryz.pinned (OpenSpec.upto traceAnswersSpec)

/-- 'lithophanelaw28.TraceTrue', WHERE WHAT IT READS IS OF BULK AT MOST 1048576: true; the input reads as it did. -/
def traceTrueUptoRow : OpenClaim := { program := "ytimjandkmfcmiaagreatdoor", sum := "0aaad5175c8de1ae6e987b17cc173e6ee9bdc26fbde1beab7e84f18a40ecd047", func := "lithophane/lithophanelaw28.TraceTrue", spec := "traceTrue", inPlace := ["internal/bytealg.IndexByteString", "internal/bytealg.IndexString"], unfollowed := true, recurses := true, named := ["unicode/utf8.first", "unicode/utf8.acceptRanges", "internal/bytealg.MaxLen"], plainKeys := false, apart := false, laid := [("unicode/utf8.acceptRanges", laid_unicode_utf8_acceptRanges), ("unicode/utf8.first", laid_unicode_utf8_first)], narrowed := true }
def TraceTrueUptoSaid : Prop := traceTrueUptoRow.holds Tryz.pinned (OpenSpec.upto traceTrueSpec)

/-- 'lithophanelaw28.TraceExact', WHERE WHAT IT READS IS OF BULK AT MOST 1048576: true; the input reads as it did. -/
def traceExactUptoRow : OpenClaim := { program := "ytimjandkmfcmiaagreatdoor", sum := "0aaad5175c8de1ae6e987b17cc173e6ee9bdc26fbde1beab7e84f18a40ecd047", func := "lithophane/lithophanelaw28.TraceExact", spec := "traceExact", inPlace := ["internal/bytealg.IndexByteString", "internal/bytealg.IndexString"], unfollowed := true, recurses := true, named := ["unicode/utf8.first", "unicode/utf8.acceptRanges", "internal/bytealg.MaxLen"], plainKeys := false, apart := false, laid := [("unicode/utf8.acceptRanges", laid_unicode_utf8_acceptRanges), ("unicode/utf8.first", laid_unicode_utf8_first)], narrowed := true }
def TraceExactUptoSaid : Prop := traceExactUptoRow.holds Tryz.pinned (OpenSpec.upto traceExactSpec)

/-- 'lithophanelaw28.TraceDecides', WHERE WHAT IT READS IS OF BULK AT MOST 1048576: true; the input reads as it did. -/
def traceDecidesUptoRow : OpenClaim := { program := "ytimjandkmfcmiaagreatdoor", sum := "0aaad5175c8de1ae6e987b17cc173e6ee9bdc26fbde1beab7e84f18a40ecd047", func := "lithophane/lithophanelaw28.TraceDecides", spec := "traceDecides", inPlace := ["internal/bytealg.IndexByteString", "internal/bytealg.IndexString"], unfollowed := true, recurses := true, named := ["unicode/utf8.first", "unicode/utf8.acceptRanges", "internal/bytealg.MaxLen"], plainKeys := false, apart := false, laid := [("unicode/utf8.acceptRanges", laid_unicode_utf8_acceptRanges), ("unicode/utf8.first", laid_unicode_utf8_first)], narrowed := true }
def TraceDecidesUptoSaid : Prop := traceDecidesUptoRow.holds Tryz.pinned (OpenSpec.upto traceDecidesSpec)

/-- 'lithophanelaw28.TraceWider', WHERE WHAT IT READS IS OF BULK AT MOST 1048576: true; the input reads as it did. -/
def traceWiderUptoRow : OpenClaim := { program := "ytimjandkmfcmiaagreatdoor", sum := "0aaad5175c8de1ae6e987b17cc173e6ee9bdc26fbde1beab7e84f18a40ecd047", func := "lithophane/lithophanelaw28.TraceWider", spec := "traceWider", inPlace := ["internal/bytealg.IndexByteString", "internal/bytealg.IndexString"], unfollowed := true, recurses := true, named := ["unicode/utf8.first", "unicode/utf8.acceptRanges", "internal/bytealg.MaxLen"], plainKeys := false, apart := false, laid := [("unicode/utf8.acceptRanges", laid_unicode_utf8_acceptRanges), ("unicode/utf8.first", laid_unicode_utf8_first)], narrowed := true }
def TraceWiderUptoSaid : Prop := traceWiderUptoRow.holds Tryz.pinned (OpenSpec.upto traceWiderSpec)

/-- 'lithophanelaw28.TraceOrder', WHERE WHAT IT READS IS OF BULK AT MOST 1048576: true; the input reads as it did. -/
def traceOrderUptoRow : OpenClaim := { program := "ytimjandkmfcmiaagreatdoor", sum := "0aaad5175c8de1ae6e987b17cc173e6ee9bdc26fbde1beab7e84f18a40ecd047", func := "lithophane/lithophanelaw28.TraceOrder", spec := "traceOrder", inPlace := ["internal/bytealg.IndexByteString", "internal/bytealg.IndexString"], unfollowed := true, recurses := true, named := ["unicode/utf8.first", "unicode/utf8.acceptRanges", "internal/bytealg.MaxLen"], plainKeys := false, apart := false, laid := [("unicode/utf8.acceptRanges", laid_unicode_utf8_acceptRanges), ("unicode/utf8.first", laid_unicode_utf8_first)], narrowed := true }
def TraceOrderUptoSaid : Prop := traceOrderUptoRow.holds Tryz.pinned (OpenSpec.upto traceOrderSpec)

/-- 'lithophanelaw28.TraceWrong', WHERE WHAT IT READS IS OF BULK AT MOST 1048576: true; the input reads as it did. -/
def traceWrongUptoRow : OpenClaim := { program := "ytimjandkmfcmiaagreatdoor", sum := "0aaad5175c8de1ae6e987b17cc173e6ee9bdc26fbde1beab7e84f18a40ecd047", func := "lithophane/lithophanelaw28.TraceWrong", spec := "traceWrong", inPlace := ["internal/bytealg.IndexByteString", "internal/bytealg.IndexString"], unfollowed := true, recurses := true, named := ["unicode/utf8.first", "unicode/utf8.acceptRanges", "internal/bytealg.MaxLen"], plainKeys := false, apart := false, laid := [("unicode/utf8.acceptRanges", laid_unicode_utf8_acceptRanges), ("unicode/utf8.first", laid_unicode_utf8_first)], narrowed := true }
def TraceWrongUptoSaid : Prop := traceWrongUptoRow.holds Tryz.pinned (OpenSpec.upto traceWrongSpec)

/-- 'lithophanelaw28.TraceFar', WHERE WHAT IT READS IS OF BULK AT MOST 1048576: true; the input reads as it did. -/
def traceFarUptoRow : OpenClaim := { program := "ytimjandkmfcmiaagreatdoor", sum := "0aaad5175c8de1ae6e987b17cc173e6ee9bdc26fbde1beab7e84f18a40ecd047", func := "lithophane/lithophanelaw28.TraceFar", spec := "traceFar", inPlace := ["internal/bytealg.IndexByteString", "internal/bytealg.IndexString"], unfollowed := true, recurses := true, named := ["unicode/utf8.first", "unicode/utf8.acceptRanges", "internal/bytealg.MaxLen"], plainKeys := false, apart := false, laid := [("unicode/utf8.acceptRanges", laid_unicode_utf8_acceptRanges), ("unicode/utf8.first", laid_unicode_utf8_first)], narrowed := true }
def TraceFarUptoSaid : Prop := traceFarUptoRow.holds Tryz.pinned (OpenSpec.upto traceFarSpec)

end Rows
end Go.Proofs.YtimjandkmfcmiaaGreatDoor
