/-
  DERIVED. GIVEN WITH THE SEED: THE CARDS: each row of YtleapeclbkclaaaGreatDoorRows.lean that lists a variable, with what it lists TIED to the program's text (the seventh form; the later family's looks); each row that meets fmt, with fmt's text TOLD by the authors' own Lean function (tested against real Go, not proved from fmt's source: count such statements apart). THE CARD IS WHAT COUNTS. Prove the row's statement (the work); the ties are given (YtleapeclbkclaaaGreatDoorTie.lean); close each card by the builder's one call (the guide's Derived/Test/ToyasCard.lean, 'card_holds'). Laid BY PROGRAM, IN A SANDBOX (cutbox-door.mjs). By AI agents, Wed Nov 11 2026. No macro, syntax, notation, axiom, sorry.
-/
import Derived.Test.YtleapeclbkclaaaGreatDoorRows
import GoSem.ClaimSeven
namespace Go.Proofs.YtleapeclbkclaaaGreatDoor
namespace Rows

/-- THE TIED CARD OF 'voxellaw07.GridMatchesSpec'. -/
def gridMatchesSpecCard : Claim7 := { stood := { row := gridMatchesSpecRow, standIns := [], harness := (true, "695d5a8cc51c1624168b82a5ea1d552f2c9c47b69cc422e1904176112a56dde4"), looks := false }, kinds := [], alts := [], laidByText := true, laidKinds := [.data], laidTests := true, laidLooks := .later }
def GridMatchesSpecCardSaid : Prop := Claim7.holds Tryz.pinned (.plain (OpenSpec.ofChange gridMatchesSpecSpec)) gridMatchesSpecCard

/-- THE SECOND FORM's CARD OF 'voxellaw07.GridMatchesSpec'. -/
def gridMatchesSpecUptoCard : Claim7 := { stood := { row := gridMatchesSpecUptoRow, standIns := [], harness := (true, "695d5a8cc51c1624168b82a5ea1d552f2c9c47b69cc422e1904176112a56dde4"), looks := false }, kinds := [], alts := [], laidByText := true, laidKinds := [.data], laidTests := true, laidLooks := .later }
def GridMatchesSpecUptoCardSaid : Prop := Claim7.holds Tryz.pinned (.plain (OpenSpec.upto gridMatchesSpecSpec)) gridMatchesSpecUptoCard
end Rows
end Go.Proofs.YtleapeclbkclaaaGreatDoor
