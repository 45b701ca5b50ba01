/-
  DERIVED. GIVEN WITH THE SEED: THE CARDS: each row of YtmcgcnpgkkfkoaaDoorRows.lean that lists a variable, with what it lists TIED to the program's text (the seventh form; the later family's looks); each row that meets fmt, with fmt's text TOLD by the authors' own Lean function (tested against real Go, not proved from fmt's source: count such statements apart). THE CARD IS WHAT COUNTS. Prove the row's statement (the work); the ties are given (YtmcgcnpgkkfkoaaDoorTie.lean); close each card by the builder's one call (the guide's Derived/Test/ToyasCard.lean, 'card_holds'). Laid BY PROGRAM, IN A SANDBOX (cutbox-door.mjs). By AI agents, Wed Nov 11 2026. No macro, syntax, notation, axiom, sorry.
-/
import Derived.Test.YtmcgcnpgkkfkoaaDoorRows
import GoSem.ClaimSeven
namespace Go.Proofs.YtmcgcnpgkkfkoaaDoor
namespace Rows

/-- THE TIED CARD OF 'lithophanelaw23.MeasureDivided'. -/
def measureDividedCard : Claim7 := { stood := { row := measureDividedRow, standIns := [], harness := (true, "4165581834b2c28a4f112bd578d9ca28cec3dd839aedf6dd2d28c0745eff46b5"), looks := false }, kinds := [], alts := [], laidByText := true, laidKinds := [.data, .pinned], laidTests := true, laidLooks := .later }
def MeasureDividedCardSaid : Prop := Claim7.holds Tryd.pinned (.plain (OpenSpec.ofChange measureDividedSpec)) measureDividedCard

/-- THE SECOND FORM's CARD OF 'lithophanelaw23.MeasureDivided'. -/
def measureDividedUptoCard : Claim7 := { stood := { row := measureDividedUptoRow, standIns := [], harness := (true, "4165581834b2c28a4f112bd578d9ca28cec3dd839aedf6dd2d28c0745eff46b5"), looks := false }, kinds := [], alts := [], laidByText := true, laidKinds := [.data, .pinned], laidTests := true, laidLooks := .later }
def MeasureDividedUptoCardSaid : Prop := Claim7.holds Tryd.pinned (.plain (OpenSpec.upto measureDividedSpec)) measureDividedUptoCard
end Rows
end Go.Proofs.YtmcgcnpgkkfkoaaDoor
