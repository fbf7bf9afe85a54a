/-
  DERIVED. GIVEN WITH THE SEED: THE CARDS: each row of YtfpecoddgdcaaaaDoorRows.lean that lists a variable, with what it lists TIED to the program's text (the seventh form; the later family's looks); each row that meets fmt, with fmt's text TOLD by the authors' own Lean function (tested against real Go, not proved from fmt's source: count such statements apart). THE CARD IS WHAT COUNTS. Prove the row's statement (the work); the ties are given (YtfpecoddgdcaaaaDoorTie.lean); close each card by the builder's one call (the guide's Derived/Test/ToyasCard.lean, 'card_holds'). Laid BY PROGRAM, IN A SANDBOX (cutbox-door.mjs). By AI agents, Wed Nov 11 2026. No macro, syntax, notation, axiom, sorry.
-/
import Derived.Test.YtfpecoddgdcaaaaDoorRows
import GoSem.ClaimSeven
namespace Go.Proofs.YtfpecoddgdcaaaaDoor
namespace Rows

/-- THE TIED CARD OF 'voxellaw04.PointMatchesSpec'. -/
def pointMatchesSpecCard : Claim7 := { stood := { row := pointMatchesSpecRow, standIns := [], harness := (true, "e06bc72d9a7e7cd65c2c3e37c6b12438da0942b734f801b351da7f25b9e73c95"), looks := false }, kinds := [], alts := [], laidByText := true, laidKinds := [.data], laidTests := true, laidLooks := .later }
def PointMatchesSpecCardSaid : Prop := Claim7.holds Tryd.pinned (.plain (OpenSpec.ofChange pointMatchesSpecSpec)) pointMatchesSpecCard

/-- THE TIED CARD OF 'voxellaw04.PointTurnsMatchSpec'. -/
def pointTurnsMatchSpecCard : Claim7 := { stood := { row := pointTurnsMatchSpecRow, standIns := [], harness := (true, "e06bc72d9a7e7cd65c2c3e37c6b12438da0942b734f801b351da7f25b9e73c95"), looks := false }, kinds := [], alts := [], laidByText := true, laidKinds := [.data], laidTests := true, laidLooks := .later }
def PointTurnsMatchSpecCardSaid : Prop := Claim7.holds Tryd.pinned (.plain (OpenSpec.ofChange pointTurnsMatchSpecSpec)) pointTurnsMatchSpecCard

/-- THE TIED CARD OF 'voxellaw04.PointTurnsAreAGroup'. -/
def pointTurnsAreAGroupCard : Claim7 := { stood := { row := pointTurnsAreAGroupRow, standIns := [], harness := (true, "e06bc72d9a7e7cd65c2c3e37c6b12438da0942b734f801b351da7f25b9e73c95"), looks := false }, kinds := [], alts := [], laidByText := true, laidKinds := [.data], laidTests := true, laidLooks := .later }
def PointTurnsAreAGroupCardSaid : Prop := Claim7.holds Tryd.pinned (.plain (OpenSpec.ofChange pointTurnsAreAGroupSpec)) pointTurnsAreAGroupCard

/-- THE TIED CARD OF 'voxellaw04.PointTurnsKeep'. -/
def pointTurnsKeepCard : Claim7 := { stood := { row := pointTurnsKeepRow, standIns := [], harness := (true, "e06bc72d9a7e7cd65c2c3e37c6b12438da0942b734f801b351da7f25b9e73c95"), looks := false }, kinds := [], alts := [], laidByText := true, laidKinds := [.data], laidTests := true, laidLooks := .later }
def PointTurnsKeepCardSaid : Prop := Claim7.holds Tryd.pinned (.plain (OpenSpec.ofChange pointTurnsKeepSpec)) pointTurnsKeepCard

/-- THE TIED CARD OF 'voxellaw04.PointDistances'. -/
def pointDistancesCard : Claim7 := { stood := { row := pointDistancesRow, standIns := [], harness := (true, "e06bc72d9a7e7cd65c2c3e37c6b12438da0942b734f801b351da7f25b9e73c95"), looks := false }, kinds := [], alts := [], laidByText := true, laidKinds := [.data], laidTests := true, laidLooks := .later }
def PointDistancesCardSaid : Prop := Claim7.holds Tryd.pinned (.plain (OpenSpec.ofChange pointDistancesSpec)) pointDistancesCard

/-- THE TIED CARD OF 'voxellaw04.PointIndices'. -/
def pointIndicesCard : Claim7 := { stood := { row := pointIndicesRow, standIns := [], harness := (true, "e06bc72d9a7e7cd65c2c3e37c6b12438da0942b734f801b351da7f25b9e73c95"), looks := false }, kinds := [], alts := [], laidByText := true, laidKinds := [.data], laidTests := true, laidLooks := .later }
def PointIndicesCardSaid : Prop := Claim7.holds Tryd.pinned (.plain (OpenSpec.ofChange pointIndicesSpec)) pointIndicesCard

/-- THE TIED CARD OF 'voxellaw04.PointBoxesMatchSpec'. -/
def pointBoxesMatchSpecCard : Claim7 := { stood := { row := pointBoxesMatchSpecRow, standIns := [], harness := (true, "e06bc72d9a7e7cd65c2c3e37c6b12438da0942b734f801b351da7f25b9e73c95"), looks := false }, kinds := [], alts := [], laidByText := true, laidKinds := [.data], laidTests := true, laidLooks := .later }
def PointBoxesMatchSpecCardSaid : Prop := Claim7.holds Tryd.pinned (.plain (OpenSpec.ofChange pointBoxesMatchSpecSpec)) pointBoxesMatchSpecCard

/-- THE TIED CARD OF 'voxellaw04.PointBoxesAreSets'. -/
def pointBoxesAreSetsCard : Claim7 := { stood := { row := pointBoxesAreSetsRow, standIns := [], harness := (true, "e06bc72d9a7e7cd65c2c3e37c6b12438da0942b734f801b351da7f25b9e73c95"), looks := false }, kinds := [], alts := [], laidByText := true, laidKinds := [.data], laidTests := true, laidLooks := .later }
def PointBoxesAreSetsCardSaid : Prop := Claim7.holds Tryd.pinned (.plain (OpenSpec.ofChange pointBoxesAreSetsSpec)) pointBoxesAreSetsCard

/-- THE SECOND FORM's CARD OF 'voxellaw04.PointMatchesSpec'. -/
def pointMatchesSpecUptoCard : Claim7 := { stood := { row := pointMatchesSpecUptoRow, standIns := [], harness := (true, "e06bc72d9a7e7cd65c2c3e37c6b12438da0942b734f801b351da7f25b9e73c95"), looks := false }, kinds := [], alts := [], laidByText := true, laidKinds := [.data], laidTests := true, laidLooks := .later }
def PointMatchesSpecUptoCardSaid : Prop := Claim7.holds Tryd.pinned (.plain (OpenSpec.upto pointMatchesSpecSpec)) pointMatchesSpecUptoCard

/-- THE SECOND FORM's CARD OF 'voxellaw04.PointTurnsMatchSpec'. -/
def pointTurnsMatchSpecUptoCard : Claim7 := { stood := { row := pointTurnsMatchSpecUptoRow, standIns := [], harness := (true, "e06bc72d9a7e7cd65c2c3e37c6b12438da0942b734f801b351da7f25b9e73c95"), looks := false }, kinds := [], alts := [], laidByText := true, laidKinds := [.data], laidTests := true, laidLooks := .later }
def PointTurnsMatchSpecUptoCardSaid : Prop := Claim7.holds Tryd.pinned (.plain (OpenSpec.upto pointTurnsMatchSpecSpec)) pointTurnsMatchSpecUptoCard

/-- THE SECOND FORM's CARD OF 'voxellaw04.PointTurnsAreAGroup'. -/
def pointTurnsAreAGroupUptoCard : Claim7 := { stood := { row := pointTurnsAreAGroupUptoRow, standIns := [], harness := (true, "e06bc72d9a7e7cd65c2c3e37c6b12438da0942b734f801b351da7f25b9e73c95"), looks := false }, kinds := [], alts := [], laidByText := true, laidKinds := [.data], laidTests := true, laidLooks := .later }
def PointTurnsAreAGroupUptoCardSaid : Prop := Claim7.holds Tryd.pinned (.plain (OpenSpec.upto pointTurnsAreAGroupSpec)) pointTurnsAreAGroupUptoCard

/-- THE SECOND FORM's CARD OF 'voxellaw04.PointTurnsKeep'. -/
def pointTurnsKeepUptoCard : Claim7 := { stood := { row := pointTurnsKeepUptoRow, standIns := [], harness := (true, "e06bc72d9a7e7cd65c2c3e37c6b12438da0942b734f801b351da7f25b9e73c95"), looks := false }, kinds := [], alts := [], laidByText := true, laidKinds := [.data], laidTests := true, laidLooks := .later }
def PointTurnsKeepUptoCardSaid : Prop := Claim7.holds Tryd.pinned (.plain (OpenSpec.upto pointTurnsKeepSpec)) pointTurnsKeepUptoCard

/-- THE SECOND FORM's CARD OF 'voxellaw04.PointDistances'. -/
def pointDistancesUptoCard : Claim7 := { stood := { row := pointDistancesUptoRow, standIns := [], harness := (true, "e06bc72d9a7e7cd65c2c3e37c6b12438da0942b734f801b351da7f25b9e73c95"), looks := false }, kinds := [], alts := [], laidByText := true, laidKinds := [.data], laidTests := true, laidLooks := .later }
def PointDistancesUptoCardSaid : Prop := Claim7.holds Tryd.pinned (.plain (OpenSpec.upto pointDistancesSpec)) pointDistancesUptoCard

/-- THE SECOND FORM's CARD OF 'voxellaw04.PointIndices'. -/
def pointIndicesUptoCard : Claim7 := { stood := { row := pointIndicesUptoRow, standIns := [], harness := (true, "e06bc72d9a7e7cd65c2c3e37c6b12438da0942b734f801b351da7f25b9e73c95"), looks := false }, kinds := [], alts := [], laidByText := true, laidKinds := [.data], laidTests := true, laidLooks := .later }
def PointIndicesUptoCardSaid : Prop := Claim7.holds Tryd.pinned (.plain (OpenSpec.upto pointIndicesSpec)) pointIndicesUptoCard

/-- THE SECOND FORM's CARD OF 'voxellaw04.PointBoxesMatchSpec'. -/
def pointBoxesMatchSpecUptoCard : Claim7 := { stood := { row := pointBoxesMatchSpecUptoRow, standIns := [], harness := (true, "e06bc72d9a7e7cd65c2c3e37c6b12438da0942b734f801b351da7f25b9e73c95"), looks := false }, kinds := [], alts := [], laidByText := true, laidKinds := [.data], laidTests := true, laidLooks := .later }
def PointBoxesMatchSpecUptoCardSaid : Prop := Claim7.holds Tryd.pinned (.plain (OpenSpec.upto pointBoxesMatchSpecSpec)) pointBoxesMatchSpecUptoCard

/-- THE SECOND FORM's CARD OF 'voxellaw04.PointBoxesAreSets'. -/
def pointBoxesAreSetsUptoCard : Claim7 := { stood := { row := pointBoxesAreSetsUptoRow, standIns := [], harness := (true, "e06bc72d9a7e7cd65c2c3e37c6b12438da0942b734f801b351da7f25b9e73c95"), looks := false }, kinds := [], alts := [], laidByText := true, laidKinds := [.data], laidTests := true, laidLooks := .later }
def PointBoxesAreSetsUptoCardSaid : Prop := Claim7.holds Tryd.pinned (.plain (OpenSpec.upto pointBoxesAreSetsSpec)) pointBoxesAreSetsUptoCard
end Rows
end Go.Proofs.YtfpecoddgdcaaaaDoor
