/-
  DERIVED. GIVEN WITH THE SEED: THE CARDS: each row of YtipcadjfhndcnaaDoorRows.lean that lists a variable, with what it lists TIED to the program's text (the seventh form; the later family's looks); each row that meets fmt, with fmt's text TOLD by the authors' own Lean function (tested against real Go, not proved from fmt's source: count such statements apart). THE CARD IS WHAT COUNTS. Prove the row's statement (the work); the ties are given (YtipcadjfhndcnaaDoorTie.lean); close each card by the builder's one call (the guide's Derived/Test/ToyasCard.lean, 'card_holds'). Laid BY PROGRAM, IN A SANDBOX (cutbox-door.mjs). By AI agents, Wed Nov 11 2026. No macro, syntax, notation, axiom, sorry.
-/
import Derived.Test.YtipcadjfhndcnaaDoorRows
import GoSem.ClaimSeven
namespace Go.Proofs.YtipcadjfhndcnaaDoor
namespace Rows

/-- THE TIED CARD OF 'voxellaw19.BrushMatchesSpec'. -/
def brushMatchesSpecCard : Claim7 := { stood := { row := brushMatchesSpecRow, standIns := [], harness := (true, "fb0e81cf4b9c8844a018cf37c2f05fe586486bc4df72dfad1e5961343b60e0a6"), looks := false }, kinds := [], alts := [], laidByText := true, laidKinds := [.data], laidTests := true, laidLooks := .later }
def BrushMatchesSpecCardSaid : Prop := Claim7.holds Tryd.pinned (.plain (OpenSpec.ofChange brushMatchesSpecSpec)) brushMatchesSpecCard

/-- THE TIED CARD OF 'voxellaw19.BrushMembersMatchSpec'. -/
def brushMembersMatchSpecCard : Claim7 := { stood := { row := brushMembersMatchSpecRow, standIns := [], harness := (true, "fb0e81cf4b9c8844a018cf37c2f05fe586486bc4df72dfad1e5961343b60e0a6"), looks := false }, kinds := [], alts := [], laidByText := true, laidKinds := [.data], laidTests := true, laidLooks := .later }
def BrushMembersMatchSpecCardSaid : Prop := Claim7.holds Tryd.pinned (.plain (OpenSpec.ofChange brushMembersMatchSpecSpec)) brushMembersMatchSpecCard

/-- THE TIED CARD OF 'voxellaw19.BrushListsMembers'. -/
def brushListsMembersCard : Claim7 := { stood := { row := brushListsMembersRow, standIns := [], harness := (true, "fb0e81cf4b9c8844a018cf37c2f05fe586486bc4df72dfad1e5961343b60e0a6"), looks := false }, kinds := [], alts := [], laidByText := true, laidKinds := [.data], laidTests := true, laidLooks := .later }
def BrushListsMembersCardSaid : Prop := Claim7.holds Tryd.pinned (.plain (OpenSpec.ofChange brushListsMembersSpec)) brushListsMembersCard

/-- THE TIED CARD OF 'voxellaw19.BrushBallsAreRound'. -/
def brushBallsAreRoundCard : Claim7 := { stood := { row := brushBallsAreRoundRow, standIns := [], harness := (true, "fb0e81cf4b9c8844a018cf37c2f05fe586486bc4df72dfad1e5961343b60e0a6"), looks := false }, kinds := [], alts := [], laidByText := true, laidKinds := [.data], laidTests := true, laidLooks := .later }
def BrushBallsAreRoundCardSaid : Prop := Claim7.holds Tryd.pinned (.plain (OpenSpec.ofChange brushBallsAreRoundSpec)) brushBallsAreRoundCard

/-- THE TIED CARD OF 'voxellaw19.BrushPrismsTurn'. -/
def brushPrismsTurnCard : Claim7 := { stood := { row := brushPrismsTurnRow, standIns := [], harness := (true, "fb0e81cf4b9c8844a018cf37c2f05fe586486bc4df72dfad1e5961343b60e0a6"), looks := false }, kinds := [], alts := [], laidByText := true, laidKinds := [.data], laidTests := true, laidLooks := .later }
def BrushPrismsTurnCardSaid : Prop := Claim7.holds Tryd.pinned (.plain (OpenSpec.ofChange brushPrismsTurnSpec)) brushPrismsTurnCard

/-- THE TIED CARD OF 'voxellaw19.BrushBoxesCount'. -/
def brushBoxesCountCard : Claim7 := { stood := { row := brushBoxesCountRow, standIns := [], harness := (true, "fb0e81cf4b9c8844a018cf37c2f05fe586486bc4df72dfad1e5961343b60e0a6"), looks := false }, kinds := [], alts := [], laidByText := true, laidKinds := [.data], laidTests := true, laidLooks := .later }
def BrushBoxesCountCardSaid : Prop := Claim7.holds Tryd.pinned (.plain (OpenSpec.ofChange brushBoxesCountSpec)) brushBoxesCountCard

/-- THE SECOND FORM's CARD OF 'voxellaw19.BrushMatchesSpec'. -/
def brushMatchesSpecUptoCard : Claim7 := { stood := { row := brushMatchesSpecUptoRow, standIns := [], harness := (true, "fb0e81cf4b9c8844a018cf37c2f05fe586486bc4df72dfad1e5961343b60e0a6"), looks := false }, kinds := [], alts := [], laidByText := true, laidKinds := [.data], laidTests := true, laidLooks := .later }
def BrushMatchesSpecUptoCardSaid : Prop := Claim7.holds Tryd.pinned (.plain (OpenSpec.upto brushMatchesSpecSpec)) brushMatchesSpecUptoCard

/-- THE SECOND FORM's CARD OF 'voxellaw19.BrushMembersMatchSpec'. -/
def brushMembersMatchSpecUptoCard : Claim7 := { stood := { row := brushMembersMatchSpecUptoRow, standIns := [], harness := (true, "fb0e81cf4b9c8844a018cf37c2f05fe586486bc4df72dfad1e5961343b60e0a6"), looks := false }, kinds := [], alts := [], laidByText := true, laidKinds := [.data], laidTests := true, laidLooks := .later }
def BrushMembersMatchSpecUptoCardSaid : Prop := Claim7.holds Tryd.pinned (.plain (OpenSpec.upto brushMembersMatchSpecSpec)) brushMembersMatchSpecUptoCard

/-- THE SECOND FORM's CARD OF 'voxellaw19.BrushListsMembers'. -/
def brushListsMembersUptoCard : Claim7 := { stood := { row := brushListsMembersUptoRow, standIns := [], harness := (true, "fb0e81cf4b9c8844a018cf37c2f05fe586486bc4df72dfad1e5961343b60e0a6"), looks := false }, kinds := [], alts := [], laidByText := true, laidKinds := [.data], laidTests := true, laidLooks := .later }
def BrushListsMembersUptoCardSaid : Prop := Claim7.holds Tryd.pinned (.plain (OpenSpec.upto brushListsMembersSpec)) brushListsMembersUptoCard

/-- THE SECOND FORM's CARD OF 'voxellaw19.BrushBallsAreRound'. -/
def brushBallsAreRoundUptoCard : Claim7 := { stood := { row := brushBallsAreRoundUptoRow, standIns := [], harness := (true, "fb0e81cf4b9c8844a018cf37c2f05fe586486bc4df72dfad1e5961343b60e0a6"), looks := false }, kinds := [], alts := [], laidByText := true, laidKinds := [.data], laidTests := true, laidLooks := .later }
def BrushBallsAreRoundUptoCardSaid : Prop := Claim7.holds Tryd.pinned (.plain (OpenSpec.upto brushBallsAreRoundSpec)) brushBallsAreRoundUptoCard

/-- THE SECOND FORM's CARD OF 'voxellaw19.BrushPrismsTurn'. -/
def brushPrismsTurnUptoCard : Claim7 := { stood := { row := brushPrismsTurnUptoRow, standIns := [], harness := (true, "fb0e81cf4b9c8844a018cf37c2f05fe586486bc4df72dfad1e5961343b60e0a6"), looks := false }, kinds := [], alts := [], laidByText := true, laidKinds := [.data], laidTests := true, laidLooks := .later }
def BrushPrismsTurnUptoCardSaid : Prop := Claim7.holds Tryd.pinned (.plain (OpenSpec.upto brushPrismsTurnSpec)) brushPrismsTurnUptoCard

/-- THE SECOND FORM's CARD OF 'voxellaw19.BrushBoxesCount'. -/
def brushBoxesCountUptoCard : Claim7 := { stood := { row := brushBoxesCountUptoRow, standIns := [], harness := (true, "fb0e81cf4b9c8844a018cf37c2f05fe586486bc4df72dfad1e5961343b60e0a6"), looks := false }, kinds := [], alts := [], laidByText := true, laidKinds := [.data], laidTests := true, laidLooks := .later }
def BrushBoxesCountUptoCardSaid : Prop := Claim7.holds Tryd.pinned (.plain (OpenSpec.upto brushBoxesCountSpec)) brushBoxesCountUptoCard
end Rows
end Go.Proofs.YtipcadjfhndcnaaDoor
