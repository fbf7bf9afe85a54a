/-
  DERIVED. GIVEN WITH THE SEED: THE CARDS: each row of YtleapeclbkclaaaDoorRows.lean that lists a variable, with what it lists TIED to the program's text (the seventh form; the later family's looks); each row that meets fmt, with fmt's text TOLD by the authors' own Lean function (tested against real Go, not proved from fmt's source: count such statements apart). THE CARD IS WHAT COUNTS. Prove the row's statement (the work); the ties are given (YtleapeclbkclaaaDoorTie.lean); close each card by the builder's one call (the guide's Derived/Test/ToyasCard.lean, 'card_holds'). Laid BY PROGRAM, IN A SANDBOX (cutbox-door.mjs). By AI agents, Wed Nov 11 2026. No macro, syntax, notation, axiom, sorry.
-/
import Derived.Test.YtleapeclbkclaaaDoorRows
import GoSem.ClaimSeven
namespace Go.Proofs.YtleapeclbkclaaaDoor
namespace Rows

/-- THE TIED CARD OF 'voxellaw07.GridMakes'. -/
def gridMakesCard : Claim7 := { stood := { row := gridMakesRow, standIns := [], harness := (true, "127ed38f03d5299d2a50fe8d6cb549502e2ebfd838967b6e2d31f5f549e46494"), looks := false }, kinds := [], alts := [], laidByText := true, laidKinds := [.data], laidTests := true, laidLooks := .later }
def GridMakesCardSaid : Prop := Claim7.holds Tryd.pinned (.plain (OpenSpec.ofChange gridMakesSpec)) gridMakesCard

/-- THE TIED CARD OF 'voxellaw07.GridKeepsTheRest'. -/
def gridKeepsTheRestCard : Claim7 := { stood := { row := gridKeepsTheRestRow, standIns := [], harness := (true, "127ed38f03d5299d2a50fe8d6cb549502e2ebfd838967b6e2d31f5f549e46494"), looks := false }, kinds := [], alts := [], laidByText := true, laidKinds := [.data], laidTests := true, laidLooks := .later }
def GridKeepsTheRestCardSaid : Prop := Claim7.holds Tryd.pinned (.plain (OpenSpec.ofChange gridKeepsTheRestSpec)) gridKeepsTheRestCard

/-- THE TIED CARD OF 'voxellaw07.GridPastes'. -/
def gridPastesCard : Claim7 := { stood := { row := gridPastesRow, standIns := [], harness := (true, "127ed38f03d5299d2a50fe8d6cb549502e2ebfd838967b6e2d31f5f549e46494"), looks := false }, kinds := [], alts := [], laidByText := true, laidKinds := [.data], laidTests := true, laidLooks := .later }
def GridPastesCardSaid : Prop := Claim7.holds Tryd.pinned (.plain (OpenSpec.ofChange gridPastesSpec)) gridPastesCard

/-- THE TIED CARD OF 'voxellaw07.GridTurns'. -/
def gridTurnsCard : Claim7 := { stood := { row := gridTurnsRow, standIns := [], harness := (true, "127ed38f03d5299d2a50fe8d6cb549502e2ebfd838967b6e2d31f5f549e46494"), looks := false }, kinds := [], alts := [], laidByText := true, laidKinds := [.data], laidTests := true, laidLooks := .later }
def GridTurnsCardSaid : Prop := Claim7.holds Tryd.pinned (.plain (OpenSpec.ofChange gridTurnsSpec)) gridTurnsCard

/-- THE TIED CARD OF 'voxellaw07.GridCrops'. -/
def gridCropsCard : Claim7 := { stood := { row := gridCropsRow, standIns := [], harness := (true, "127ed38f03d5299d2a50fe8d6cb549502e2ebfd838967b6e2d31f5f549e46494"), looks := false }, kinds := [], alts := [], laidByText := true, laidKinds := [.data], laidTests := true, laidLooks := .later }
def GridCropsCardSaid : Prop := Claim7.holds Tryd.pinned (.plain (OpenSpec.ofChange gridCropsSpec)) gridCropsCard

/-- THE TIED CARD OF 'voxellaw07.GridVisitsAll'. -/
def gridVisitsAllCard : Claim7 := { stood := { row := gridVisitsAllRow, standIns := [], harness := (true, "127ed38f03d5299d2a50fe8d6cb549502e2ebfd838967b6e2d31f5f549e46494"), looks := false }, kinds := [], alts := [], laidByText := true, laidKinds := [.data], laidTests := true, laidLooks := .later }
def GridVisitsAllCardSaid : Prop := Claim7.holds Tryd.pinned (.plain (OpenSpec.ofChange gridVisitsAllSpec)) gridVisitsAllCard

/-- THE SECOND FORM's CARD OF 'voxellaw07.GridMakes'. -/
def gridMakesUptoCard : Claim7 := { stood := { row := gridMakesUptoRow, standIns := [], harness := (true, "127ed38f03d5299d2a50fe8d6cb549502e2ebfd838967b6e2d31f5f549e46494"), looks := false }, kinds := [], alts := [], laidByText := true, laidKinds := [.data], laidTests := true, laidLooks := .later }
def GridMakesUptoCardSaid : Prop := Claim7.holds Tryd.pinned (.plain (OpenSpec.upto gridMakesSpec)) gridMakesUptoCard

/-- THE SECOND FORM's CARD OF 'voxellaw07.GridKeepsTheRest'. -/
def gridKeepsTheRestUptoCard : Claim7 := { stood := { row := gridKeepsTheRestUptoRow, standIns := [], harness := (true, "127ed38f03d5299d2a50fe8d6cb549502e2ebfd838967b6e2d31f5f549e46494"), looks := false }, kinds := [], alts := [], laidByText := true, laidKinds := [.data], laidTests := true, laidLooks := .later }
def GridKeepsTheRestUptoCardSaid : Prop := Claim7.holds Tryd.pinned (.plain (OpenSpec.upto gridKeepsTheRestSpec)) gridKeepsTheRestUptoCard

/-- THE SECOND FORM's CARD OF 'voxellaw07.GridPastes'. -/
def gridPastesUptoCard : Claim7 := { stood := { row := gridPastesUptoRow, standIns := [], harness := (true, "127ed38f03d5299d2a50fe8d6cb549502e2ebfd838967b6e2d31f5f549e46494"), looks := false }, kinds := [], alts := [], laidByText := true, laidKinds := [.data], laidTests := true, laidLooks := .later }
def GridPastesUptoCardSaid : Prop := Claim7.holds Tryd.pinned (.plain (OpenSpec.upto gridPastesSpec)) gridPastesUptoCard

/-- THE SECOND FORM's CARD OF 'voxellaw07.GridTurns'. -/
def gridTurnsUptoCard : Claim7 := { stood := { row := gridTurnsUptoRow, standIns := [], harness := (true, "127ed38f03d5299d2a50fe8d6cb549502e2ebfd838967b6e2d31f5f549e46494"), looks := false }, kinds := [], alts := [], laidByText := true, laidKinds := [.data], laidTests := true, laidLooks := .later }
def GridTurnsUptoCardSaid : Prop := Claim7.holds Tryd.pinned (.plain (OpenSpec.upto gridTurnsSpec)) gridTurnsUptoCard

/-- THE SECOND FORM's CARD OF 'voxellaw07.GridCrops'. -/
def gridCropsUptoCard : Claim7 := { stood := { row := gridCropsUptoRow, standIns := [], harness := (true, "127ed38f03d5299d2a50fe8d6cb549502e2ebfd838967b6e2d31f5f549e46494"), looks := false }, kinds := [], alts := [], laidByText := true, laidKinds := [.data], laidTests := true, laidLooks := .later }
def GridCropsUptoCardSaid : Prop := Claim7.holds Tryd.pinned (.plain (OpenSpec.upto gridCropsSpec)) gridCropsUptoCard

/-- THE SECOND FORM's CARD OF 'voxellaw07.GridVisitsAll'. -/
def gridVisitsAllUptoCard : Claim7 := { stood := { row := gridVisitsAllUptoRow, standIns := [], harness := (true, "127ed38f03d5299d2a50fe8d6cb549502e2ebfd838967b6e2d31f5f549e46494"), looks := false }, kinds := [], alts := [], laidByText := true, laidKinds := [.data], laidTests := true, laidLooks := .later }
def GridVisitsAllUptoCardSaid : Prop := Claim7.holds Tryd.pinned (.plain (OpenSpec.upto gridVisitsAllSpec)) gridVisitsAllUptoCard
end Rows
end Go.Proofs.YtleapeclbkclaaaDoor
