/-
  DERIVED. GIVEN WITH THE SEED: THE CARDS: each row of YtbbokjbcdkgfgaaGreatDoorRows.lean that lists a variable, with what it lists TIED to the program's text (the seventh form; the later family's looks); each row that meets fmt, with fmt's text TOLD by the authors' own Lean function (tested against real Go, not proved from fmt's source: count such statements apart). THE CARD IS WHAT COUNTS. Prove the row's statement (the work); the ties are given (YtbbokjbcdkgfgaaGreatDoorTie.lean); close each card by the builder's one call (the guide's Derived/Test/ToyasCard.lean, 'card_holds'). Laid BY PROGRAM, IN A SANDBOX (cutbox-door.mjs). By AI agents, Wed Nov 11 2026. No macro, syntax, notation, axiom, sorry.
-/
import Derived.Test.YtbbokjbcdkgfgaaGreatDoorRows
import GoSem.ClaimSeven
namespace Go.Proofs.YtbbokjbcdkgfgaaGreatDoor
namespace Rows

/-- THE TIED CARD OF 'lithophanelaw23.MeasureLies'. -/
def measureLiesCard : Claim7 := { stood := { row := measureLiesRow, standIns := [], harness := (true, "29f127a1ecabb81693c75de87dc1d1b50527469a5afe3dbf28a786a160548d61"), looks := false }, kinds := [], alts := [], laidByText := true, laidKinds := [.data, .pinned], laidTests := true, laidLooks := .later }
def MeasureLiesCardSaid : Prop := Claim7.holds Tryz.pinned (.plain (OpenSpec.ofChange measureLiesSpec)) measureLiesCard

/-- THE SECOND FORM's CARD OF 'lithophanelaw23.MeasureLies'. -/
def measureLiesUptoCard : Claim7 := { stood := { row := measureLiesUptoRow, standIns := [], harness := (true, "29f127a1ecabb81693c75de87dc1d1b50527469a5afe3dbf28a786a160548d61"), looks := false }, kinds := [], alts := [], laidByText := true, laidKinds := [.data, .pinned], laidTests := true, laidLooks := .later }
def MeasureLiesUptoCardSaid : Prop := Claim7.holds Tryz.pinned (.plain (OpenSpec.upto measureLiesSpec)) measureLiesUptoCard
end Rows
end Go.Proofs.YtbbokjbcdkgfgaaGreatDoor
