/-
  DERIVED. GIVEN WITH THE SEED: THE CARDS: each row of YtpmfkelglmgddaaGreatDoorRows.lean that lists a variable, with what it lists TIED to the program's text (the seventh form; the later family's looks); each row that meets fmt, with fmt's text TOLD by the authors' own Lean function (tested against real Go, not proved from fmt's source: count such statements apart). THE CARD IS WHAT COUNTS. Prove the row's statement (the work); the ties are given (YtpmfkelglmgddaaGreatDoorTie.lean); close each card by the builder's one call (the guide's Derived/Test/ToyasCard.lean, 'card_holds'). Laid BY PROGRAM, IN A SANDBOX (cutbox-door.mjs). By AI agents, Wed Nov 11 2026. No macro, syntax, notation, axiom, sorry.
-/
import Derived.Test.YtpmfkelglmgddaaGreatDoorRows
import GoSem.ClaimSeven
namespace Go.Proofs.YtpmfkelglmgddaaGreatDoor
namespace Rows

/-- THE TIED CARD OF 'voxeltop.TopComponentsAreRegions'. -/
def topComponentsAreRegionsCard : Claim7 := { stood := { row := topComponentsAreRegionsRow, standIns := [], harness := (true, "e76df0f54acae3461bf36138cc88364b95037dc36ea9bd491e6bb1f9c719a23e"), looks := false }, kinds := [], alts := [], laidByText := true, laidKinds := [.data, .data], laidTests := true, laidLooks := .later }
def TopComponentsAreRegionsCardSaid : Prop := Claim7.holds Tryz.pinned (.plain (OpenSpec.ofChange topComponentsAreRegionsSpec)) topComponentsAreRegionsCard

/-- THE SECOND FORM's CARD OF 'voxeltop.TopComponentsAreRegions'. -/
def topComponentsAreRegionsUptoCard : Claim7 := { stood := { row := topComponentsAreRegionsUptoRow, standIns := [], harness := (true, "e76df0f54acae3461bf36138cc88364b95037dc36ea9bd491e6bb1f9c719a23e"), looks := false }, kinds := [], alts := [], laidByText := true, laidKinds := [.data, .data], laidTests := true, laidLooks := .later }
def TopComponentsAreRegionsUptoCardSaid : Prop := Claim7.holds Tryz.pinned (.plain (OpenSpec.upto topComponentsAreRegionsSpec)) topComponentsAreRegionsUptoCard
end Rows
end Go.Proofs.YtpmfkelglmgddaaGreatDoor
