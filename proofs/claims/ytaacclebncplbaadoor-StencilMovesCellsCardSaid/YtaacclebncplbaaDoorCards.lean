/-
  DERIVED. GIVEN WITH THE SEED: THE CARDS: each row of YtaacclebncplbaaDoorRows.lean that lists a variable, with what it lists TIED to the program's text (the seventh form; the later family's looks); each row that meets fmt, with fmt's text TOLD by the authors' own Lean function (tested against real Go, not proved from fmt's source: count such statements apart). THE CARD IS WHAT COUNTS. Prove the row's statement (the work); the ties are given (YtaacclebncplbaaDoorTie.lean); close each card by the builder's one call (the guide's Derived/Test/ToyasCard.lean, 'card_holds'). Laid BY PROGRAM, IN A SANDBOX (cutbox-door.mjs). By AI agents, Wed Nov 11 2026. No macro, syntax, notation, axiom, sorry.
-/
import Derived.Test.YtaacclebncplbaaDoorRows
import GoSem.ClaimSeven
namespace Go.Proofs.YtaacclebncplbaaDoor
namespace Rows

/-- THE TIED CARD OF 'voxellaw20.StencilPlacesAsSpecified'. -/
def stencilPlacesAsSpecifiedCard : Claim7 := { stood := { row := stencilPlacesAsSpecifiedRow, standIns := [], harness := (true, "9bfe27fa9d84c254ff0571e75aaabbc0b0d4bc58d3ea5bd9174ceb37d1b9be15"), looks := false }, kinds := [], alts := [], laidByText := true, laidKinds := [.data], laidTests := true, laidLooks := .later }
def StencilPlacesAsSpecifiedCardSaid : Prop := Claim7.holds Tryd.pinned (.plain (OpenSpec.ofChange stencilPlacesAsSpecifiedSpec)) stencilPlacesAsSpecifiedCard

/-- THE TIED CARD OF 'voxellaw20.StencilIsOneToOne'. -/
def stencilIsOneToOneCard : Claim7 := { stood := { row := stencilIsOneToOneRow, standIns := [], harness := (true, "9bfe27fa9d84c254ff0571e75aaabbc0b0d4bc58d3ea5bd9174ceb37d1b9be15"), looks := false }, kinds := [], alts := [], laidByText := true, laidKinds := [.data], laidTests := true, laidLooks := .later }
def StencilIsOneToOneCardSaid : Prop := Claim7.holds Tryd.pinned (.plain (OpenSpec.ofChange stencilIsOneToOneSpec)) stencilIsOneToOneCard

/-- THE TIED CARD OF 'voxellaw20.StencilMovesCells'. -/
def stencilMovesCellsCard : Claim7 := { stood := { row := stencilMovesCellsRow, standIns := [], harness := (true, "9bfe27fa9d84c254ff0571e75aaabbc0b0d4bc58d3ea5bd9174ceb37d1b9be15"), looks := false }, kinds := [], alts := [], laidByText := true, laidKinds := [.data], laidTests := true, laidLooks := .later }
def StencilMovesCellsCardSaid : Prop := Claim7.holds Tryd.pinned (.plain (OpenSpec.ofChange stencilMovesCellsSpec)) stencilMovesCellsCard

/-- THE SECOND FORM's CARD OF 'voxellaw20.StencilPlacesAsSpecified'. -/
def stencilPlacesAsSpecifiedUptoCard : Claim7 := { stood := { row := stencilPlacesAsSpecifiedUptoRow, standIns := [], harness := (true, "9bfe27fa9d84c254ff0571e75aaabbc0b0d4bc58d3ea5bd9174ceb37d1b9be15"), looks := false }, kinds := [], alts := [], laidByText := true, laidKinds := [.data], laidTests := true, laidLooks := .later }
def StencilPlacesAsSpecifiedUptoCardSaid : Prop := Claim7.holds Tryd.pinned (.plain (OpenSpec.upto stencilPlacesAsSpecifiedSpec)) stencilPlacesAsSpecifiedUptoCard

/-- THE SECOND FORM's CARD OF 'voxellaw20.StencilIsOneToOne'. -/
def stencilIsOneToOneUptoCard : Claim7 := { stood := { row := stencilIsOneToOneUptoRow, standIns := [], harness := (true, "9bfe27fa9d84c254ff0571e75aaabbc0b0d4bc58d3ea5bd9174ceb37d1b9be15"), looks := false }, kinds := [], alts := [], laidByText := true, laidKinds := [.data], laidTests := true, laidLooks := .later }
def StencilIsOneToOneUptoCardSaid : Prop := Claim7.holds Tryd.pinned (.plain (OpenSpec.upto stencilIsOneToOneSpec)) stencilIsOneToOneUptoCard

/-- THE SECOND FORM's CARD OF 'voxellaw20.StencilMovesCells'. -/
def stencilMovesCellsUptoCard : Claim7 := { stood := { row := stencilMovesCellsUptoRow, standIns := [], harness := (true, "9bfe27fa9d84c254ff0571e75aaabbc0b0d4bc58d3ea5bd9174ceb37d1b9be15"), looks := false }, kinds := [], alts := [], laidByText := true, laidKinds := [.data], laidTests := true, laidLooks := .later }
def StencilMovesCellsUptoCardSaid : Prop := Claim7.holds Tryd.pinned (.plain (OpenSpec.upto stencilMovesCellsSpec)) stencilMovesCellsUptoCard
end Rows
end Go.Proofs.YtaacclebncplbaaDoor
