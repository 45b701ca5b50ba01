/-
  DERIVED. GIVEN WITH THE SEED: THE CARDS: each row of YtmcgcnpgkkfkoaaGreatDoorRows.lean that lists a variable, with what it lists TIED to the program's text (the seventh form; the later family's looks); each row that meets fmt, with fmt's text TOLD by the authors' own Lean function (tested against real Go, not proved from fmt's source: count such statements apart). THE CARD IS WHAT COUNTS. Prove the row's statement (the work); the ties are given (YtmcgcnpgkkfkoaaGreatDoorTie.lean); close each card by the builder's one call (the guide's Derived/Test/ToyasCard.lean, 'card_holds'). Laid BY PROGRAM, IN A SANDBOX (cutbox-door.mjs). By AI agents, Wed Nov 11 2026. No macro, syntax, notation, axiom, sorry.
-/
import Derived.Test.YtmcgcnpgkkfkoaaGreatDoorRows
import GoSem.ClaimSeven
namespace Go.Proofs.YtmcgcnpgkkfkoaaGreatDoor
namespace Rows

/-- THE TIED CARD OF 'lithophanelaw23.MeasureDistances'. -/
def measureDistancesCard : Claim7 := { stood := { row := measureDistancesRow, standIns := [], harness := (true, "54d24f1fd681397064e14e86b3804dd702e11cd668a865c3ecc705cf64be3822"), looks := false }, kinds := [], alts := [], laidByText := true, laidKinds := [.data, .pinned], laidTests := true, laidLooks := .later }
def MeasureDistancesCardSaid : Prop := Claim7.holds Tryz.pinned (.plain (OpenSpec.ofChange measureDistancesSpec)) measureDistancesCard

/-- THE TIED CARD OF 'lithophanelaw23.MeasureAreas'. -/
def measureAreasCard : Claim7 := { stood := { row := measureAreasRow, standIns := [], harness := (true, "54d24f1fd681397064e14e86b3804dd702e11cd668a865c3ecc705cf64be3822"), looks := false }, kinds := [], alts := [], laidByText := true, laidKinds := [.data, .pinned], laidTests := true, laidLooks := .later }
def MeasureAreasCardSaid : Prop := Claim7.holds Tryz.pinned (.plain (OpenSpec.ofChange measureAreasSpec)) measureAreasCard

/-- THE TIED CARD OF 'lithophanelaw23.MeasureMoves'. -/
def measureMovesCard : Claim7 := { stood := { row := measureMovesRow, standIns := [], harness := (true, "54d24f1fd681397064e14e86b3804dd702e11cd668a865c3ecc705cf64be3822"), looks := false }, kinds := [], alts := [], laidByText := true, laidKinds := [.data, .pinned], laidTests := true, laidLooks := .later }
def MeasureMovesCardSaid : Prop := Claim7.holds Tryz.pinned (.plain (OpenSpec.ofChange measureMovesSpec)) measureMovesCard

/-- THE TIED CARD OF 'lithophanelaw23.MeasureNear'. -/
def measureNearCard : Claim7 := { stood := { row := measureNearRow, standIns := [], harness := (true, "54d24f1fd681397064e14e86b3804dd702e11cd668a865c3ecc705cf64be3822"), looks := false }, kinds := [], alts := [], laidByText := true, laidKinds := [.data, .pinned], laidTests := true, laidLooks := .later }
def MeasureNearCardSaid : Prop := Claim7.holds Tryz.pinned (.plain (OpenSpec.ofChange measureNearSpec)) measureNearCard

/-- THE TIED CARD OF 'lithophanelaw23.MeasureVolumes'. -/
def measureVolumesCard : Claim7 := { stood := { row := measureVolumesRow, standIns := [], harness := (true, "54d24f1fd681397064e14e86b3804dd702e11cd668a865c3ecc705cf64be3822"), looks := false }, kinds := [], alts := [], laidByText := true, laidKinds := [.data, .pinned], laidTests := true, laidLooks := .later }
def MeasureVolumesCardSaid : Prop := Claim7.holds Tryz.pinned (.plain (OpenSpec.ofChange measureVolumesSpec)) measureVolumesCard

/-- THE TIED CARD OF 'lithophanelaw23.MeasureEmpty'. -/
def measureEmptyCard : Claim7 := { stood := { row := measureEmptyRow, standIns := [], harness := (true, "54d24f1fd681397064e14e86b3804dd702e11cd668a865c3ecc705cf64be3822"), looks := false }, kinds := [], alts := [], laidByText := true, laidKinds := [.data, .pinned], laidTests := true, laidLooks := .later }
def MeasureEmptyCardSaid : Prop := Claim7.holds Tryz.pinned (.plain (OpenSpec.ofChange measureEmptySpec)) measureEmptyCard

/-- THE TIED CARD OF 'lithophanelaw23.MeasureScaled'. -/
def measureScaledCard : Claim7 := { stood := { row := measureScaledRow, standIns := [], harness := (true, "54d24f1fd681397064e14e86b3804dd702e11cd668a865c3ecc705cf64be3822"), looks := false }, kinds := [], alts := [], laidByText := true, laidKinds := [.data, .pinned], laidTests := true, laidLooks := .later }
def MeasureScaledCardSaid : Prop := Claim7.holds Tryz.pinned (.plain (OpenSpec.ofChange measureScaledSpec)) measureScaledCard

/-- THE SECOND FORM's CARD OF 'lithophanelaw23.MeasureDistances'. -/
def measureDistancesUptoCard : Claim7 := { stood := { row := measureDistancesUptoRow, standIns := [], harness := (true, "54d24f1fd681397064e14e86b3804dd702e11cd668a865c3ecc705cf64be3822"), looks := false }, kinds := [], alts := [], laidByText := true, laidKinds := [.data, .pinned], laidTests := true, laidLooks := .later }
def MeasureDistancesUptoCardSaid : Prop := Claim7.holds Tryz.pinned (.plain (OpenSpec.upto measureDistancesSpec)) measureDistancesUptoCard

/-- THE SECOND FORM's CARD OF 'lithophanelaw23.MeasureAreas'. -/
def measureAreasUptoCard : Claim7 := { stood := { row := measureAreasUptoRow, standIns := [], harness := (true, "54d24f1fd681397064e14e86b3804dd702e11cd668a865c3ecc705cf64be3822"), looks := false }, kinds := [], alts := [], laidByText := true, laidKinds := [.data, .pinned], laidTests := true, laidLooks := .later }
def MeasureAreasUptoCardSaid : Prop := Claim7.holds Tryz.pinned (.plain (OpenSpec.upto measureAreasSpec)) measureAreasUptoCard

/-- THE SECOND FORM's CARD OF 'lithophanelaw23.MeasureMoves'. -/
def measureMovesUptoCard : Claim7 := { stood := { row := measureMovesUptoRow, standIns := [], harness := (true, "54d24f1fd681397064e14e86b3804dd702e11cd668a865c3ecc705cf64be3822"), looks := false }, kinds := [], alts := [], laidByText := true, laidKinds := [.data, .pinned], laidTests := true, laidLooks := .later }
def MeasureMovesUptoCardSaid : Prop := Claim7.holds Tryz.pinned (.plain (OpenSpec.upto measureMovesSpec)) measureMovesUptoCard

/-- THE SECOND FORM's CARD OF 'lithophanelaw23.MeasureNear'. -/
def measureNearUptoCard : Claim7 := { stood := { row := measureNearUptoRow, standIns := [], harness := (true, "54d24f1fd681397064e14e86b3804dd702e11cd668a865c3ecc705cf64be3822"), looks := false }, kinds := [], alts := [], laidByText := true, laidKinds := [.data, .pinned], laidTests := true, laidLooks := .later }
def MeasureNearUptoCardSaid : Prop := Claim7.holds Tryz.pinned (.plain (OpenSpec.upto measureNearSpec)) measureNearUptoCard

/-- THE SECOND FORM's CARD OF 'lithophanelaw23.MeasureVolumes'. -/
def measureVolumesUptoCard : Claim7 := { stood := { row := measureVolumesUptoRow, standIns := [], harness := (true, "54d24f1fd681397064e14e86b3804dd702e11cd668a865c3ecc705cf64be3822"), looks := false }, kinds := [], alts := [], laidByText := true, laidKinds := [.data, .pinned], laidTests := true, laidLooks := .later }
def MeasureVolumesUptoCardSaid : Prop := Claim7.holds Tryz.pinned (.plain (OpenSpec.upto measureVolumesSpec)) measureVolumesUptoCard

/-- THE SECOND FORM's CARD OF 'lithophanelaw23.MeasureEmpty'. -/
def measureEmptyUptoCard : Claim7 := { stood := { row := measureEmptyUptoRow, standIns := [], harness := (true, "54d24f1fd681397064e14e86b3804dd702e11cd668a865c3ecc705cf64be3822"), looks := false }, kinds := [], alts := [], laidByText := true, laidKinds := [.data, .pinned], laidTests := true, laidLooks := .later }
def MeasureEmptyUptoCardSaid : Prop := Claim7.holds Tryz.pinned (.plain (OpenSpec.upto measureEmptySpec)) measureEmptyUptoCard

/-- THE SECOND FORM's CARD OF 'lithophanelaw23.MeasureScaled'. -/
def measureScaledUptoCard : Claim7 := { stood := { row := measureScaledUptoRow, standIns := [], harness := (true, "54d24f1fd681397064e14e86b3804dd702e11cd668a865c3ecc705cf64be3822"), looks := false }, kinds := [], alts := [], laidByText := true, laidKinds := [.data, .pinned], laidTests := true, laidLooks := .later }
def MeasureScaledUptoCardSaid : Prop := Claim7.holds Tryz.pinned (.plain (OpenSpec.upto measureScaledSpec)) measureScaledUptoCard
end Rows
end Go.Proofs.YtmcgcnpgkkfkoaaGreatDoor
