/-
  DERIVED. GIVEN WITH THE SEED: THE CARDS: each row of YtimjandkmfcmiaaGreatDoorRows.lean that lists a variable, with what it lists TIED to the program's text (the seventh form; the later family's looks); each row that meets fmt, with fmt's text TOLD by the authors' own Lean function (tested against real Go, not proved from fmt's source: count such statements apart). THE CARD IS WHAT COUNTS. Prove the row's statement (the work); the ties are given (YtimjandkmfcmiaaGreatDoorTie.lean); close each card by the builder's one call (the guide's Derived/Test/ToyasCard.lean, 'card_holds'). Laid BY PROGRAM, IN A SANDBOX (cutbox-door.mjs). By AI agents, Wed Nov 11 2026. No macro, syntax, notation, axiom, sorry.
-/
import Derived.Test.YtimjandkmfcmiaaGreatDoorRows
import GoSem.ClaimSeven
namespace Go.Proofs.YtimjandkmfcmiaaGreatDoor
namespace Rows

/-- THE TIED CARD OF 'lithophanelaw28.TraceAnswers'. -/
def traceAnswersCard : Claim7 := { stood := { row := traceAnswersRow, standIns := [], harness := (true, "c4372470949c4beb8b1e1590c2b04536c515df34b8f17b0ec978fc8740e5f867"), looks := true }, kinds := [], alts := [], laidByText := true, laidKinds := [.data, .pinned], laidTests := true, laidLooks := .later }
def TraceAnswersCardSaid : Prop := Claim7.holds Tryz.pinned (.plain (OpenSpec.ofChange traceAnswersSpec)) traceAnswersCard

/-- THE TIED CARD OF 'lithophanelaw28.TraceTrue'. -/
def traceTrueCard : Claim7 := { stood := { row := traceTrueRow, standIns := [], harness := (true, "c4372470949c4beb8b1e1590c2b04536c515df34b8f17b0ec978fc8740e5f867"), looks := true }, kinds := [], alts := [], laidByText := true, laidKinds := [.data, .pinned], laidTests := true, laidLooks := .later }
def TraceTrueCardSaid : Prop := Claim7.holds Tryz.pinned (.plain (OpenSpec.ofChange traceTrueSpec)) traceTrueCard

/-- THE TIED CARD OF 'lithophanelaw28.TraceExact'. -/
def traceExactCard : Claim7 := { stood := { row := traceExactRow, standIns := [], harness := (true, "c4372470949c4beb8b1e1590c2b04536c515df34b8f17b0ec978fc8740e5f867"), looks := true }, kinds := [], alts := [], laidByText := true, laidKinds := [.data, .pinned], laidTests := true, laidLooks := .later }
def TraceExactCardSaid : Prop := Claim7.holds Tryz.pinned (.plain (OpenSpec.ofChange traceExactSpec)) traceExactCard

/-- THE TIED CARD OF 'lithophanelaw28.TraceDecides'. -/
def traceDecidesCard : Claim7 := { stood := { row := traceDecidesRow, standIns := [], harness := (true, "c4372470949c4beb8b1e1590c2b04536c515df34b8f17b0ec978fc8740e5f867"), looks := true }, kinds := [], alts := [], laidByText := true, laidKinds := [.data, .pinned], laidTests := true, laidLooks := .later }
def TraceDecidesCardSaid : Prop := Claim7.holds Tryz.pinned (.plain (OpenSpec.ofChange traceDecidesSpec)) traceDecidesCard

/-- THE TIED CARD OF 'lithophanelaw28.TraceWider'. -/
def traceWiderCard : Claim7 := { stood := { row := traceWiderRow, standIns := [], harness := (true, "c4372470949c4beb8b1e1590c2b04536c515df34b8f17b0ec978fc8740e5f867"), looks := true }, kinds := [], alts := [], laidByText := true, laidKinds := [.data, .pinned], laidTests := true, laidLooks := .later }
def TraceWiderCardSaid : Prop := Claim7.holds Tryz.pinned (.plain (OpenSpec.ofChange traceWiderSpec)) traceWiderCard

/-- THE TIED CARD OF 'lithophanelaw28.TraceOrder'. -/
def traceOrderCard : Claim7 := { stood := { row := traceOrderRow, standIns := [], harness := (true, "c4372470949c4beb8b1e1590c2b04536c515df34b8f17b0ec978fc8740e5f867"), looks := true }, kinds := [], alts := [], laidByText := true, laidKinds := [.data, .pinned], laidTests := true, laidLooks := .later }
def TraceOrderCardSaid : Prop := Claim7.holds Tryz.pinned (.plain (OpenSpec.ofChange traceOrderSpec)) traceOrderCard

/-- THE TIED CARD OF 'lithophanelaw28.TraceWrong'. -/
def traceWrongCard : Claim7 := { stood := { row := traceWrongRow, standIns := [], harness := (true, "c4372470949c4beb8b1e1590c2b04536c515df34b8f17b0ec978fc8740e5f867"), looks := true }, kinds := [], alts := [], laidByText := true, laidKinds := [.data, .pinned], laidTests := true, laidLooks := .later }
def TraceWrongCardSaid : Prop := Claim7.holds Tryz.pinned (.plain (OpenSpec.ofChange traceWrongSpec)) traceWrongCard

/-- THE TIED CARD OF 'lithophanelaw28.TraceFar'. -/
def traceFarCard : Claim7 := { stood := { row := traceFarRow, standIns := [], harness := (true, "c4372470949c4beb8b1e1590c2b04536c515df34b8f17b0ec978fc8740e5f867"), looks := true }, kinds := [], alts := [], laidByText := true, laidKinds := [.data, .pinned], laidTests := true, laidLooks := .later }
def TraceFarCardSaid : Prop := Claim7.holds Tryz.pinned (.plain (OpenSpec.ofChange traceFarSpec)) traceFarCard

/-- THE SECOND FORM's CARD OF 'lithophanelaw28.TraceAnswers'. -/
def traceAnswersUptoCard : Claim7 := { stood := { row := traceAnswersUptoRow, standIns := [], harness := (true, "c4372470949c4beb8b1e1590c2b04536c515df34b8f17b0ec978fc8740e5f867"), looks := true }, kinds := [], alts := [], laidByText := true, laidKinds := [.data, .pinned], laidTests := true, laidLooks := .later }
def TraceAnswersUptoCardSaid : Prop := Claim7.holds Tryz.pinned (.plain (OpenSpec.upto traceAnswersSpec)) traceAnswersUptoCard

/-- THE SECOND FORM's CARD OF 'lithophanelaw28.TraceTrue'. -/
def traceTrueUptoCard : Claim7 := { stood := { row := traceTrueUptoRow, standIns := [], harness := (true, "c4372470949c4beb8b1e1590c2b04536c515df34b8f17b0ec978fc8740e5f867"), looks := true }, kinds := [], alts := [], laidByText := true, laidKinds := [.data, .pinned], laidTests := true, laidLooks := .later }
def TraceTrueUptoCardSaid : Prop := Claim7.holds Tryz.pinned (.plain (OpenSpec.upto traceTrueSpec)) traceTrueUptoCard

/-- THE SECOND FORM's CARD OF 'lithophanelaw28.TraceExact'. -/
def traceExactUptoCard : Claim7 := { stood := { row := traceExactUptoRow, standIns := [], harness := (true, "c4372470949c4beb8b1e1590c2b04536c515df34b8f17b0ec978fc8740e5f867"), looks := true }, kinds := [], alts := [], laidByText := true, laidKinds := [.data, .pinned], laidTests := true, laidLooks := .later }
def TraceExactUptoCardSaid : Prop := Claim7.holds Tryz.pinned (.plain (OpenSpec.upto traceExactSpec)) traceExactUptoCard

/-- THE SECOND FORM's CARD OF 'lithophanelaw28.TraceDecides'. -/
def traceDecidesUptoCard : Claim7 := { stood := { row := traceDecidesUptoRow, standIns := [], harness := (true, "c4372470949c4beb8b1e1590c2b04536c515df34b8f17b0ec978fc8740e5f867"), looks := true }, kinds := [], alts := [], laidByText := true, laidKinds := [.data, .pinned], laidTests := true, laidLooks := .later }
def TraceDecidesUptoCardSaid : Prop := Claim7.holds Tryz.pinned (.plain (OpenSpec.upto traceDecidesSpec)) traceDecidesUptoCard

/-- THE SECOND FORM's CARD OF 'lithophanelaw28.TraceWider'. -/
def traceWiderUptoCard : Claim7 := { stood := { row := traceWiderUptoRow, standIns := [], harness := (true, "c4372470949c4beb8b1e1590c2b04536c515df34b8f17b0ec978fc8740e5f867"), looks := true }, kinds := [], alts := [], laidByText := true, laidKinds := [.data, .pinned], laidTests := true, laidLooks := .later }
def TraceWiderUptoCardSaid : Prop := Claim7.holds Tryz.pinned (.plain (OpenSpec.upto traceWiderSpec)) traceWiderUptoCard

/-- THE SECOND FORM's CARD OF 'lithophanelaw28.TraceOrder'. -/
def traceOrderUptoCard : Claim7 := { stood := { row := traceOrderUptoRow, standIns := [], harness := (true, "c4372470949c4beb8b1e1590c2b04536c515df34b8f17b0ec978fc8740e5f867"), looks := true }, kinds := [], alts := [], laidByText := true, laidKinds := [.data, .pinned], laidTests := true, laidLooks := .later }
def TraceOrderUptoCardSaid : Prop := Claim7.holds Tryz.pinned (.plain (OpenSpec.upto traceOrderSpec)) traceOrderUptoCard

/-- THE SECOND FORM's CARD OF 'lithophanelaw28.TraceWrong'. -/
def traceWrongUptoCard : Claim7 := { stood := { row := traceWrongUptoRow, standIns := [], harness := (true, "c4372470949c4beb8b1e1590c2b04536c515df34b8f17b0ec978fc8740e5f867"), looks := true }, kinds := [], alts := [], laidByText := true, laidKinds := [.data, .pinned], laidTests := true, laidLooks := .later }
def TraceWrongUptoCardSaid : Prop := Claim7.holds Tryz.pinned (.plain (OpenSpec.upto traceWrongSpec)) traceWrongUptoCard

/-- THE SECOND FORM's CARD OF 'lithophanelaw28.TraceFar'. -/
def traceFarUptoCard : Claim7 := { stood := { row := traceFarUptoRow, standIns := [], harness := (true, "c4372470949c4beb8b1e1590c2b04536c515df34b8f17b0ec978fc8740e5f867"), looks := true }, kinds := [], alts := [], laidByText := true, laidKinds := [.data, .pinned], laidTests := true, laidLooks := .later }
def TraceFarUptoCardSaid : Prop := Claim7.holds Tryz.pinned (.plain (OpenSpec.upto traceFarSpec)) traceFarUptoCard
end Rows
end Go.Proofs.YtimjandkmfcmiaaGreatDoor
