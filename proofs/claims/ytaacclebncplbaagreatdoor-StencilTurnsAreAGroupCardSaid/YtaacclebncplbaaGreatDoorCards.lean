/-
  DERIVED. GIVEN WITH THE SEED: THE CARDS: each row of YtaacclebncplbaaGreatDoorRows.lean that lists a variable, with what it lists TIED to the program's text (the seventh form; the later family's looks); each row that meets fmt, with fmt's text TOLD by the authors' own Lean function (tested against real Go, not proved from fmt's source: count such statements apart). THE CARD IS WHAT COUNTS. Prove the row's statement (the work); the ties are given (YtaacclebncplbaaGreatDoorTie.lean); close each card by the builder's one call (the guide's Derived/Test/ToyasCard.lean, 'card_holds'). Laid BY PROGRAM, IN A SANDBOX (cutbox-door.mjs). By AI agents, Wed Nov 11 2026. No macro, syntax, notation, axiom, sorry.
-/
import Derived.Test.YtaacclebncplbaaGreatDoorRows
import GoSem.ClaimSeven
namespace Go.Proofs.YtaacclebncplbaaGreatDoor
namespace Rows

/-- THE TIED CARD OF 'voxellaw20.StencilCopiesAsSpecified'. -/
def stencilCopiesAsSpecifiedCard : Claim7 := { stood := { row := stencilCopiesAsSpecifiedRow, standIns := [], harness := (true, "936f70b05c3747b5be2f074d4c150df06903d0dfa610a7c395a2b8dac20d7423"), looks := false }, kinds := [], alts := [], laidByText := true, laidKinds := [.data], laidTests := true, laidLooks := .later }
def StencilCopiesAsSpecifiedCardSaid : Prop := Claim7.holds Tryz.pinned (.plain (OpenSpec.ofChange stencilCopiesAsSpecifiedSpec)) stencilCopiesAsSpecifiedCard

/-- THE TIED CARD OF 'voxellaw20.StencilPatternsAsSpecified'. -/
def stencilPatternsAsSpecifiedCard : Claim7 := { stood := { row := stencilPatternsAsSpecifiedRow, standIns := [], harness := (true, "936f70b05c3747b5be2f074d4c150df06903d0dfa610a7c395a2b8dac20d7423"), looks := false }, kinds := [], alts := [], laidByText := true, laidKinds := [.data], laidTests := true, laidLooks := .later }
def StencilPatternsAsSpecifiedCardSaid : Prop := Claim7.holds Tryz.pinned (.plain (OpenSpec.ofChange stencilPatternsAsSpecifiedSpec)) stencilPatternsAsSpecifiedCard

/-- THE TIED CARD OF 'voxellaw20.StencilGoesBack'. -/
def stencilGoesBackCard : Claim7 := { stood := { row := stencilGoesBackRow, standIns := [], harness := (true, "936f70b05c3747b5be2f074d4c150df06903d0dfa610a7c395a2b8dac20d7423"), looks := false }, kinds := [], alts := [], laidByText := true, laidKinds := [.data], laidTests := true, laidLooks := .later }
def StencilGoesBackCardSaid : Prop := Claim7.holds Tryz.pinned (.plain (OpenSpec.ofChange stencilGoesBackSpec)) stencilGoesBackCard

/-- THE TIED CARD OF 'voxellaw20.StencilTurnsAreAGroup'. -/
def stencilTurnsAreAGroupCard : Claim7 := { stood := { row := stencilTurnsAreAGroupRow, standIns := [], harness := (true, "936f70b05c3747b5be2f074d4c150df06903d0dfa610a7c395a2b8dac20d7423"), looks := false }, kinds := [], alts := [], laidByText := true, laidKinds := [.data], laidTests := true, laidLooks := .later }
def StencilTurnsAreAGroupCardSaid : Prop := Claim7.holds Tryz.pinned (.plain (OpenSpec.ofChange stencilTurnsAreAGroupSpec)) stencilTurnsAreAGroupCard

/-- THE SECOND FORM's CARD OF 'voxellaw20.StencilCopiesAsSpecified'. -/
def stencilCopiesAsSpecifiedUptoCard : Claim7 := { stood := { row := stencilCopiesAsSpecifiedUptoRow, standIns := [], harness := (true, "936f70b05c3747b5be2f074d4c150df06903d0dfa610a7c395a2b8dac20d7423"), looks := false }, kinds := [], alts := [], laidByText := true, laidKinds := [.data], laidTests := true, laidLooks := .later }
def StencilCopiesAsSpecifiedUptoCardSaid : Prop := Claim7.holds Tryz.pinned (.plain (OpenSpec.upto stencilCopiesAsSpecifiedSpec)) stencilCopiesAsSpecifiedUptoCard

/-- THE SECOND FORM's CARD OF 'voxellaw20.StencilPatternsAsSpecified'. -/
def stencilPatternsAsSpecifiedUptoCard : Claim7 := { stood := { row := stencilPatternsAsSpecifiedUptoRow, standIns := [], harness := (true, "936f70b05c3747b5be2f074d4c150df06903d0dfa610a7c395a2b8dac20d7423"), looks := false }, kinds := [], alts := [], laidByText := true, laidKinds := [.data], laidTests := true, laidLooks := .later }
def StencilPatternsAsSpecifiedUptoCardSaid : Prop := Claim7.holds Tryz.pinned (.plain (OpenSpec.upto stencilPatternsAsSpecifiedSpec)) stencilPatternsAsSpecifiedUptoCard

/-- THE SECOND FORM's CARD OF 'voxellaw20.StencilGoesBack'. -/
def stencilGoesBackUptoCard : Claim7 := { stood := { row := stencilGoesBackUptoRow, standIns := [], harness := (true, "936f70b05c3747b5be2f074d4c150df06903d0dfa610a7c395a2b8dac20d7423"), looks := false }, kinds := [], alts := [], laidByText := true, laidKinds := [.data], laidTests := true, laidLooks := .later }
def StencilGoesBackUptoCardSaid : Prop := Claim7.holds Tryz.pinned (.plain (OpenSpec.upto stencilGoesBackSpec)) stencilGoesBackUptoCard

/-- THE SECOND FORM's CARD OF 'voxellaw20.StencilTurnsAreAGroup'. -/
def stencilTurnsAreAGroupUptoCard : Claim7 := { stood := { row := stencilTurnsAreAGroupUptoRow, standIns := [], harness := (true, "936f70b05c3747b5be2f074d4c150df06903d0dfa610a7c395a2b8dac20d7423"), looks := false }, kinds := [], alts := [], laidByText := true, laidKinds := [.data], laidTests := true, laidLooks := .later }
def StencilTurnsAreAGroupUptoCardSaid : Prop := Claim7.holds Tryz.pinned (.plain (OpenSpec.upto stencilTurnsAreAGroupSpec)) stencilTurnsAreAGroupUptoCard
end Rows
end Go.Proofs.YtaacclebncplbaaGreatDoor
