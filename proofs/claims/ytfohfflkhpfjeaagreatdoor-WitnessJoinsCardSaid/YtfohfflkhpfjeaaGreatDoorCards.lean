/-
  DERIVED. GIVEN WITH THE SEED: THE CARDS: each row of YtfohfflkhpfjeaaGreatDoorRows.lean that lists a variable, with what it lists TIED to the program's text (the seventh form; the later family's looks); each row that meets fmt, with fmt's text TOLD by the authors' own Lean function (tested against real Go, not proved from fmt's source: count such statements apart). THE CARD IS WHAT COUNTS. Prove the row's statement (the work); the ties are given (YtfohfflkhpfjeaaGreatDoorTie.lean); close each card by the builder's one call (the guide's Derived/Test/ToyasCard.lean, 'card_holds'). Laid BY PROGRAM, IN A SANDBOX (cutbox-door.mjs). By AI agents, Wed Nov 11 2026. No macro, syntax, notation, axiom, sorry.
-/
import Derived.Test.YtfohfflkhpfjeaaGreatDoorRows
import GoSem.ClaimSeven
namespace Go.Proofs.YtfohfflkhpfjeaaGreatDoor
namespace Rows

/-- THE TIED CARD OF 'lithophanelaw12.WitnessChecks'. -/
def witnessChecksCard : Claim7 := { stood := { row := witnessChecksRow, standIns := [], harness := (true, "f26e41f5aeadde50aff4af9b58ff17b4733b49285bf5fff690746224431b889c"), looks := false }, kinds := [], alts := [], laidByText := true, laidKinds := [.data, .pinned], laidTests := true, laidLooks := .later }
def WitnessChecksCardSaid : Prop := Claim7.holds Tryz.pinned (.plain (OpenSpec.ofChange witnessChecksSpec)) witnessChecksCard

/-- THE TIED CARD OF 'lithophanelaw12.WitnessSelf'. -/
def witnessSelfCard : Claim7 := { stood := { row := witnessSelfRow, standIns := [], harness := (true, "f26e41f5aeadde50aff4af9b58ff17b4733b49285bf5fff690746224431b889c"), looks := false }, kinds := [], alts := [], laidByText := true, laidKinds := [.data, .pinned], laidTests := true, laidLooks := .later }
def WitnessSelfCardSaid : Prop := Claim7.holds Tryz.pinned (.plain (OpenSpec.ofChange witnessSelfSpec)) witnessSelfCard

/-- THE TIED CARD OF 'lithophanelaw12.WitnessMoves'. -/
def witnessMovesCard : Claim7 := { stood := { row := witnessMovesRow, standIns := [], harness := (true, "f26e41f5aeadde50aff4af9b58ff17b4733b49285bf5fff690746224431b889c"), looks := false }, kinds := [], alts := [], laidByText := true, laidKinds := [.data, .pinned], laidTests := true, laidLooks := .later }
def WitnessMovesCardSaid : Prop := Claim7.holds Tryz.pinned (.plain (OpenSpec.ofChange witnessMovesSpec)) witnessMovesCard

/-- THE TIED CARD OF 'lithophanelaw12.WitnessChain'. -/
def witnessChainCard : Claim7 := { stood := { row := witnessChainRow, standIns := [], harness := (true, "f26e41f5aeadde50aff4af9b58ff17b4733b49285bf5fff690746224431b889c"), looks := false }, kinds := [], alts := [], laidByText := true, laidKinds := [.data, .pinned], laidTests := true, laidLooks := .later }
def WitnessChainCardSaid : Prop := Claim7.holds Tryz.pinned (.plain (OpenSpec.ofChange witnessChainSpec)) witnessChainCard

/-- THE TIED CARD OF 'lithophanelaw12.WitnessTurned'. -/
def witnessTurnedCard : Claim7 := { stood := { row := witnessTurnedRow, standIns := [], harness := (true, "f26e41f5aeadde50aff4af9b58ff17b4733b49285bf5fff690746224431b889c"), looks := false }, kinds := [], alts := [], laidByText := true, laidKinds := [.data, .pinned], laidTests := true, laidLooks := .later }
def WitnessTurnedCardSaid : Prop := Claim7.holds Tryz.pinned (.plain (OpenSpec.ofChange witnessTurnedSpec)) witnessTurnedCard

/-- THE TIED CARD OF 'lithophanelaw12.WitnessJoins'. -/
def witnessJoinsCard : Claim7 := { stood := { row := witnessJoinsRow, standIns := [], harness := (true, "f26e41f5aeadde50aff4af9b58ff17b4733b49285bf5fff690746224431b889c"), looks := false }, kinds := [], alts := [], laidByText := true, laidKinds := [.data, .pinned], laidTests := true, laidLooks := .later }
def WitnessJoinsCardSaid : Prop := Claim7.holds Tryz.pinned (.plain (OpenSpec.ofChange witnessJoinsSpec)) witnessJoinsCard

/-- THE TIED CARD OF 'lithophanelaw12.WitnessFar'. -/
def witnessFarCard : Claim7 := { stood := { row := witnessFarRow, standIns := [], harness := (true, "f26e41f5aeadde50aff4af9b58ff17b4733b49285bf5fff690746224431b889c"), looks := false }, kinds := [], alts := [], laidByText := true, laidKinds := [.data, .pinned], laidTests := true, laidLooks := .later }
def WitnessFarCardSaid : Prop := Claim7.holds Tryz.pinned (.plain (OpenSpec.ofChange witnessFarSpec)) witnessFarCard

/-- THE TIED CARD OF 'lithophanelaw12.WitnessDelta'. -/
def witnessDeltaCard : Claim7 := { stood := { row := witnessDeltaRow, standIns := [], harness := (true, "f26e41f5aeadde50aff4af9b58ff17b4733b49285bf5fff690746224431b889c"), looks := false }, kinds := [], alts := [], laidByText := true, laidKinds := [.data, .pinned], laidTests := true, laidLooks := .later }
def WitnessDeltaCardSaid : Prop := Claim7.holds Tryz.pinned (.plain (OpenSpec.ofChange witnessDeltaSpec)) witnessDeltaCard

/-- THE SECOND FORM's CARD OF 'lithophanelaw12.WitnessChecks'. -/
def witnessChecksUptoCard : Claim7 := { stood := { row := witnessChecksUptoRow, standIns := [], harness := (true, "f26e41f5aeadde50aff4af9b58ff17b4733b49285bf5fff690746224431b889c"), looks := false }, kinds := [], alts := [], laidByText := true, laidKinds := [.data, .pinned], laidTests := true, laidLooks := .later }
def WitnessChecksUptoCardSaid : Prop := Claim7.holds Tryz.pinned (.plain (OpenSpec.upto witnessChecksSpec)) witnessChecksUptoCard

/-- THE SECOND FORM's CARD OF 'lithophanelaw12.WitnessSelf'. -/
def witnessSelfUptoCard : Claim7 := { stood := { row := witnessSelfUptoRow, standIns := [], harness := (true, "f26e41f5aeadde50aff4af9b58ff17b4733b49285bf5fff690746224431b889c"), looks := false }, kinds := [], alts := [], laidByText := true, laidKinds := [.data, .pinned], laidTests := true, laidLooks := .later }
def WitnessSelfUptoCardSaid : Prop := Claim7.holds Tryz.pinned (.plain (OpenSpec.upto witnessSelfSpec)) witnessSelfUptoCard

/-- THE SECOND FORM's CARD OF 'lithophanelaw12.WitnessMoves'. -/
def witnessMovesUptoCard : Claim7 := { stood := { row := witnessMovesUptoRow, standIns := [], harness := (true, "f26e41f5aeadde50aff4af9b58ff17b4733b49285bf5fff690746224431b889c"), looks := false }, kinds := [], alts := [], laidByText := true, laidKinds := [.data, .pinned], laidTests := true, laidLooks := .later }
def WitnessMovesUptoCardSaid : Prop := Claim7.holds Tryz.pinned (.plain (OpenSpec.upto witnessMovesSpec)) witnessMovesUptoCard

/-- THE SECOND FORM's CARD OF 'lithophanelaw12.WitnessChain'. -/
def witnessChainUptoCard : Claim7 := { stood := { row := witnessChainUptoRow, standIns := [], harness := (true, "f26e41f5aeadde50aff4af9b58ff17b4733b49285bf5fff690746224431b889c"), looks := false }, kinds := [], alts := [], laidByText := true, laidKinds := [.data, .pinned], laidTests := true, laidLooks := .later }
def WitnessChainUptoCardSaid : Prop := Claim7.holds Tryz.pinned (.plain (OpenSpec.upto witnessChainSpec)) witnessChainUptoCard

/-- THE SECOND FORM's CARD OF 'lithophanelaw12.WitnessTurned'. -/
def witnessTurnedUptoCard : Claim7 := { stood := { row := witnessTurnedUptoRow, standIns := [], harness := (true, "f26e41f5aeadde50aff4af9b58ff17b4733b49285bf5fff690746224431b889c"), looks := false }, kinds := [], alts := [], laidByText := true, laidKinds := [.data, .pinned], laidTests := true, laidLooks := .later }
def WitnessTurnedUptoCardSaid : Prop := Claim7.holds Tryz.pinned (.plain (OpenSpec.upto witnessTurnedSpec)) witnessTurnedUptoCard

/-- THE SECOND FORM's CARD OF 'lithophanelaw12.WitnessJoins'. -/
def witnessJoinsUptoCard : Claim7 := { stood := { row := witnessJoinsUptoRow, standIns := [], harness := (true, "f26e41f5aeadde50aff4af9b58ff17b4733b49285bf5fff690746224431b889c"), looks := false }, kinds := [], alts := [], laidByText := true, laidKinds := [.data, .pinned], laidTests := true, laidLooks := .later }
def WitnessJoinsUptoCardSaid : Prop := Claim7.holds Tryz.pinned (.plain (OpenSpec.upto witnessJoinsSpec)) witnessJoinsUptoCard

/-- THE SECOND FORM's CARD OF 'lithophanelaw12.WitnessFar'. -/
def witnessFarUptoCard : Claim7 := { stood := { row := witnessFarUptoRow, standIns := [], harness := (true, "f26e41f5aeadde50aff4af9b58ff17b4733b49285bf5fff690746224431b889c"), looks := false }, kinds := [], alts := [], laidByText := true, laidKinds := [.data, .pinned], laidTests := true, laidLooks := .later }
def WitnessFarUptoCardSaid : Prop := Claim7.holds Tryz.pinned (.plain (OpenSpec.upto witnessFarSpec)) witnessFarUptoCard

/-- THE SECOND FORM's CARD OF 'lithophanelaw12.WitnessDelta'. -/
def witnessDeltaUptoCard : Claim7 := { stood := { row := witnessDeltaUptoRow, standIns := [], harness := (true, "f26e41f5aeadde50aff4af9b58ff17b4733b49285bf5fff690746224431b889c"), looks := false }, kinds := [], alts := [], laidByText := true, laidKinds := [.data, .pinned], laidTests := true, laidLooks := .later }
def WitnessDeltaUptoCardSaid : Prop := Claim7.holds Tryz.pinned (.plain (OpenSpec.upto witnessDeltaSpec)) witnessDeltaUptoCard
end Rows
end Go.Proofs.YtfohfflkhpfjeaaGreatDoor
