/-
  DERIVED. GIVEN WITH THE SEED: THE CARDS: each row of YtfekpcimgncioaaGreatDoorRows.lean that lists a variable, with what it lists TIED to the program's text (the seventh form; the later family's looks); each row that meets fmt, with fmt's text TOLD by the authors' own Lean function (tested against real Go, not proved from fmt's source: count such statements apart). THE CARD IS WHAT COUNTS. Prove the row's statement (the work); the ties are given (YtfekpcimgncioaaGreatDoorTie.lean); close each card by the builder's one call (the guide's Derived/Test/ToyasCard.lean, 'card_holds'). Laid BY PROGRAM, IN A SANDBOX (cutbox-door.mjs). By AI agents, Wed Nov 11 2026. No macro, syntax, notation, axiom, sorry.
-/
import Derived.Test.YtfekpcimgncioaaGreatDoorRows
import GoSem.ClaimSeven
namespace Go.Proofs.YtfekpcimgncioaaGreatDoor
namespace Rows

/-- THE TIED CARD OF 'lithophanelaw11.CollapseAllowed'. -/
def collapseAllowedCard : Claim7 := { stood := { row := collapseAllowedRow, standIns := [], harness := (true, "ea8866e41a7932af2ddd24924d8c36afcaa20f64c0d12680244854f15c33d3fd"), looks := false }, kinds := [], alts := [], laidByText := true, laidKinds := [.data, .pinned], laidTests := true, laidLooks := .later }
def CollapseAllowedCardSaid : Prop := Claim7.holds Tryz.pinned (.plain (OpenSpec.ofChange collapseAllowedSpec)) collapseAllowedCard

/-- THE TIED CARD OF 'lithophanelaw11.CollapseMakes'. -/
def collapseMakesCard : Claim7 := { stood := { row := collapseMakesRow, standIns := [], harness := (true, "ea8866e41a7932af2ddd24924d8c36afcaa20f64c0d12680244854f15c33d3fd"), looks := false }, kinds := [], alts := [], laidByText := true, laidKinds := [.data, .pinned], laidTests := true, laidLooks := .later }
def CollapseMakesCardSaid : Prop := Claim7.holds Tryz.pinned (.plain (OpenSpec.ofChange collapseMakesSpec)) collapseMakesCard

/-- THE TIED CARD OF 'lithophanelaw11.CollapseSimplifies'. -/
def collapseSimplifiesCard : Claim7 := { stood := { row := collapseSimplifiesRow, standIns := [], harness := (true, "ea8866e41a7932af2ddd24924d8c36afcaa20f64c0d12680244854f15c33d3fd"), looks := false }, kinds := [], alts := [], laidByText := true, laidKinds := [.data, .pinned], laidTests := true, laidLooks := .later }
def CollapseSimplifiesCardSaid : Prop := Claim7.holds Tryz.pinned (.plain (OpenSpec.ofChange collapseSimplifiesSpec)) collapseSimplifiesCard

/-- THE TIED CARD OF 'lithophanelaw11.CollapseKeeps'. -/
def collapseKeepsCard : Claim7 := { stood := { row := collapseKeepsRow, standIns := [], harness := (true, "ea8866e41a7932af2ddd24924d8c36afcaa20f64c0d12680244854f15c33d3fd"), looks := false }, kinds := [], alts := [], laidByText := true, laidKinds := [.data, .pinned], laidTests := true, laidLooks := .later }
def CollapseKeepsCardSaid : Prop := Claim7.holds Tryz.pinned (.plain (OpenSpec.ofChange collapseKeepsSpec)) collapseKeepsCard

/-- THE TIED CARD OF 'lithophanelaw11.CollapseStops'. -/
def collapseStopsCard : Claim7 := { stood := { row := collapseStopsRow, standIns := [], harness := (true, "ea8866e41a7932af2ddd24924d8c36afcaa20f64c0d12680244854f15c33d3fd"), looks := false }, kinds := [], alts := [], laidByText := true, laidKinds := [.data, .pinned], laidTests := true, laidLooks := .later }
def CollapseStopsCardSaid : Prop := Claim7.holds Tryz.pinned (.plain (OpenSpec.ofChange collapseStopsSpec)) collapseStopsCard

/-- THE TIED CARD OF 'lithophanelaw11.CollapseApart'. -/
def collapseApartCard : Claim7 := { stood := { row := collapseApartRow, standIns := [], harness := (true, "ea8866e41a7932af2ddd24924d8c36afcaa20f64c0d12680244854f15c33d3fd"), looks := false }, kinds := [], alts := [], laidByText := true, laidKinds := [.data, .pinned], laidTests := true, laidLooks := .later }
def CollapseApartCardSaid : Prop := Claim7.holds Tryz.pinned (.plain (OpenSpec.ofChange collapseApartSpec)) collapseApartCard

/-- THE TIED CARD OF 'lithophanelaw11.CollapseMoves'. -/
def collapseMovesCard : Claim7 := { stood := { row := collapseMovesRow, standIns := [], harness := (true, "ea8866e41a7932af2ddd24924d8c36afcaa20f64c0d12680244854f15c33d3fd"), looks := false }, kinds := [], alts := [], laidByText := true, laidKinds := [.data, .pinned], laidTests := true, laidLooks := .later }
def CollapseMovesCardSaid : Prop := Claim7.holds Tryz.pinned (.plain (OpenSpec.ofChange collapseMovesSpec)) collapseMovesCard

/-- THE TIED CARD OF 'lithophanelaw11.CollapseOrder'. -/
def collapseOrderCard : Claim7 := { stood := { row := collapseOrderRow, standIns := [], harness := (true, "ea8866e41a7932af2ddd24924d8c36afcaa20f64c0d12680244854f15c33d3fd"), looks := false }, kinds := [], alts := [], laidByText := true, laidKinds := [.data, .pinned], laidTests := true, laidLooks := .later }
def CollapseOrderCardSaid : Prop := Claim7.holds Tryz.pinned (.plain (OpenSpec.ofChange collapseOrderSpec)) collapseOrderCard

/-- THE TIED CARD OF 'lithophanelaw11.CollapseWrong'. -/
def collapseWrongCard : Claim7 := { stood := { row := collapseWrongRow, standIns := [], harness := (true, "ea8866e41a7932af2ddd24924d8c36afcaa20f64c0d12680244854f15c33d3fd"), looks := false }, kinds := [], alts := [], laidByText := true, laidKinds := [.data, .pinned], laidTests := true, laidLooks := .later }
def CollapseWrongCardSaid : Prop := Claim7.holds Tryz.pinned (.plain (OpenSpec.ofChange collapseWrongSpec)) collapseWrongCard

/-- THE TIED CARD OF 'lithophanelaw12.WitnessAccepts'. -/
def witnessAcceptsCard : Claim7 := { stood := { row := witnessAcceptsRow, standIns := [], harness := (true, "ea8866e41a7932af2ddd24924d8c36afcaa20f64c0d12680244854f15c33d3fd"), looks := false }, kinds := [], alts := [], laidByText := true, laidKinds := [.data, .pinned], laidTests := true, laidLooks := .later }
def WitnessAcceptsCardSaid : Prop := Claim7.holds Tryz.pinned (.plain (OpenSpec.ofChange witnessAcceptsSpec)) witnessAcceptsCard

/-- THE TIED CARD OF 'lithophanelaw12.WitnessFans'. -/
def witnessFansCard : Claim7 := { stood := { row := witnessFansRow, standIns := [], harness := (true, "ea8866e41a7932af2ddd24924d8c36afcaa20f64c0d12680244854f15c33d3fd"), looks := false }, kinds := [], alts := [], laidByText := true, laidKinds := [.data, .pinned], laidTests := true, laidLooks := .later }
def WitnessFansCardSaid : Prop := Claim7.holds Tryz.pinned (.plain (OpenSpec.ofChange witnessFansSpec)) witnessFansCard

/-- THE SECOND FORM's CARD OF 'lithophanelaw11.CollapseAllowed'. -/
def collapseAllowedUptoCard : Claim7 := { stood := { row := collapseAllowedUptoRow, standIns := [], harness := (true, "ea8866e41a7932af2ddd24924d8c36afcaa20f64c0d12680244854f15c33d3fd"), looks := false }, kinds := [], alts := [], laidByText := true, laidKinds := [.data, .pinned], laidTests := true, laidLooks := .later }
def CollapseAllowedUptoCardSaid : Prop := Claim7.holds Tryz.pinned (.plain (OpenSpec.upto collapseAllowedSpec)) collapseAllowedUptoCard

/-- THE SECOND FORM's CARD OF 'lithophanelaw11.CollapseMakes'. -/
def collapseMakesUptoCard : Claim7 := { stood := { row := collapseMakesUptoRow, standIns := [], harness := (true, "ea8866e41a7932af2ddd24924d8c36afcaa20f64c0d12680244854f15c33d3fd"), looks := false }, kinds := [], alts := [], laidByText := true, laidKinds := [.data, .pinned], laidTests := true, laidLooks := .later }
def CollapseMakesUptoCardSaid : Prop := Claim7.holds Tryz.pinned (.plain (OpenSpec.upto collapseMakesSpec)) collapseMakesUptoCard

/-- THE SECOND FORM's CARD OF 'lithophanelaw11.CollapseSimplifies'. -/
def collapseSimplifiesUptoCard : Claim7 := { stood := { row := collapseSimplifiesUptoRow, standIns := [], harness := (true, "ea8866e41a7932af2ddd24924d8c36afcaa20f64c0d12680244854f15c33d3fd"), looks := false }, kinds := [], alts := [], laidByText := true, laidKinds := [.data, .pinned], laidTests := true, laidLooks := .later }
def CollapseSimplifiesUptoCardSaid : Prop := Claim7.holds Tryz.pinned (.plain (OpenSpec.upto collapseSimplifiesSpec)) collapseSimplifiesUptoCard

/-- THE SECOND FORM's CARD OF 'lithophanelaw11.CollapseKeeps'. -/
def collapseKeepsUptoCard : Claim7 := { stood := { row := collapseKeepsUptoRow, standIns := [], harness := (true, "ea8866e41a7932af2ddd24924d8c36afcaa20f64c0d12680244854f15c33d3fd"), looks := false }, kinds := [], alts := [], laidByText := true, laidKinds := [.data, .pinned], laidTests := true, laidLooks := .later }
def CollapseKeepsUptoCardSaid : Prop := Claim7.holds Tryz.pinned (.plain (OpenSpec.upto collapseKeepsSpec)) collapseKeepsUptoCard

/-- THE SECOND FORM's CARD OF 'lithophanelaw11.CollapseStops'. -/
def collapseStopsUptoCard : Claim7 := { stood := { row := collapseStopsUptoRow, standIns := [], harness := (true, "ea8866e41a7932af2ddd24924d8c36afcaa20f64c0d12680244854f15c33d3fd"), looks := false }, kinds := [], alts := [], laidByText := true, laidKinds := [.data, .pinned], laidTests := true, laidLooks := .later }
def CollapseStopsUptoCardSaid : Prop := Claim7.holds Tryz.pinned (.plain (OpenSpec.upto collapseStopsSpec)) collapseStopsUptoCard

/-- THE SECOND FORM's CARD OF 'lithophanelaw11.CollapseApart'. -/
def collapseApartUptoCard : Claim7 := { stood := { row := collapseApartUptoRow, standIns := [], harness := (true, "ea8866e41a7932af2ddd24924d8c36afcaa20f64c0d12680244854f15c33d3fd"), looks := false }, kinds := [], alts := [], laidByText := true, laidKinds := [.data, .pinned], laidTests := true, laidLooks := .later }
def CollapseApartUptoCardSaid : Prop := Claim7.holds Tryz.pinned (.plain (OpenSpec.upto collapseApartSpec)) collapseApartUptoCard

/-- THE SECOND FORM's CARD OF 'lithophanelaw11.CollapseMoves'. -/
def collapseMovesUptoCard : Claim7 := { stood := { row := collapseMovesUptoRow, standIns := [], harness := (true, "ea8866e41a7932af2ddd24924d8c36afcaa20f64c0d12680244854f15c33d3fd"), looks := false }, kinds := [], alts := [], laidByText := true, laidKinds := [.data, .pinned], laidTests := true, laidLooks := .later }
def CollapseMovesUptoCardSaid : Prop := Claim7.holds Tryz.pinned (.plain (OpenSpec.upto collapseMovesSpec)) collapseMovesUptoCard

/-- THE SECOND FORM's CARD OF 'lithophanelaw11.CollapseOrder'. -/
def collapseOrderUptoCard : Claim7 := { stood := { row := collapseOrderUptoRow, standIns := [], harness := (true, "ea8866e41a7932af2ddd24924d8c36afcaa20f64c0d12680244854f15c33d3fd"), looks := false }, kinds := [], alts := [], laidByText := true, laidKinds := [.data, .pinned], laidTests := true, laidLooks := .later }
def CollapseOrderUptoCardSaid : Prop := Claim7.holds Tryz.pinned (.plain (OpenSpec.upto collapseOrderSpec)) collapseOrderUptoCard

/-- THE SECOND FORM's CARD OF 'lithophanelaw11.CollapseWrong'. -/
def collapseWrongUptoCard : Claim7 := { stood := { row := collapseWrongUptoRow, standIns := [], harness := (true, "ea8866e41a7932af2ddd24924d8c36afcaa20f64c0d12680244854f15c33d3fd"), looks := false }, kinds := [], alts := [], laidByText := true, laidKinds := [.data, .pinned], laidTests := true, laidLooks := .later }
def CollapseWrongUptoCardSaid : Prop := Claim7.holds Tryz.pinned (.plain (OpenSpec.upto collapseWrongSpec)) collapseWrongUptoCard

/-- THE SECOND FORM's CARD OF 'lithophanelaw12.WitnessAccepts'. -/
def witnessAcceptsUptoCard : Claim7 := { stood := { row := witnessAcceptsUptoRow, standIns := [], harness := (true, "ea8866e41a7932af2ddd24924d8c36afcaa20f64c0d12680244854f15c33d3fd"), looks := false }, kinds := [], alts := [], laidByText := true, laidKinds := [.data, .pinned], laidTests := true, laidLooks := .later }
def WitnessAcceptsUptoCardSaid : Prop := Claim7.holds Tryz.pinned (.plain (OpenSpec.upto witnessAcceptsSpec)) witnessAcceptsUptoCard

/-- THE SECOND FORM's CARD OF 'lithophanelaw12.WitnessFans'. -/
def witnessFansUptoCard : Claim7 := { stood := { row := witnessFansUptoRow, standIns := [], harness := (true, "ea8866e41a7932af2ddd24924d8c36afcaa20f64c0d12680244854f15c33d3fd"), looks := false }, kinds := [], alts := [], laidByText := true, laidKinds := [.data, .pinned], laidTests := true, laidLooks := .later }
def WitnessFansUptoCardSaid : Prop := Claim7.holds Tryz.pinned (.plain (OpenSpec.upto witnessFansSpec)) witnessFansUptoCard
end Rows
end Go.Proofs.YtfekpcimgncioaaGreatDoor
