/-
  DERIVED. GIVEN WITH THE SEED: THE CARDS: each row of YtelbilnnmmbmdaaDoorRows.lean that lists a variable, with what it lists TIED to the program's text (the seventh form; the later family's looks); each row that meets fmt, with fmt's text TOLD by the authors' own Lean function (tested against real Go, not proved from fmt's source: count such statements apart). THE CARD IS WHAT COUNTS. Prove the row's statement (the work); the ties are given (YtelbilnnmmbmdaaDoorTie.lean); close each card by the builder's one call (the guide's Derived/Test/ToyasCard.lean, 'card_holds'). Laid BY PROGRAM, IN A SANDBOX (cutbox-door.mjs). By AI agents, Wed Nov 11 2026. No macro, syntax, notation, axiom, sorry.
-/
import Derived.Test.YtelbilnnmmbmdaaDoorRows
import GoSem.ClaimSeven
namespace Go.Proofs.YtelbilnnmmbmdaaDoor
namespace Rows

/-- THE TIED CARD OF 'voxellaw33.LightMatchesSpec'. -/
def lightMatchesSpecCard : Claim7 := { stood := { row := lightMatchesSpecRow, standIns := [], harness := (true, "d519c5fa85da6a69a89afb756553c9a3747c4cf694668013adbe34bf2ce43f55"), looks := false }, kinds := [], alts := [], laidByText := true, laidKinds := [.widerDeep, .data], laidTests := true, laidLooks := .later }
def LightMatchesSpecCardSaid : Prop := Claim7.holds Tryd.pinned (.plain (OpenSpec.ofChange lightMatchesSpecSpec)) lightMatchesSpecCard

/-- THE TIED CARD OF 'voxellaw33.LightStepMatchesSpec'. -/
def lightStepMatchesSpecCard : Claim7 := { stood := { row := lightStepMatchesSpecRow, standIns := [], harness := (true, "d519c5fa85da6a69a89afb756553c9a3747c4cf694668013adbe34bf2ce43f55"), looks := false }, kinds := [], alts := [], laidByText := true, laidKinds := [.widerDeep, .data], laidTests := true, laidLooks := .later }
def LightStepMatchesSpecCardSaid : Prop := Claim7.holds Tryd.pinned (.plain (OpenSpec.ofChange lightStepMatchesSpecSpec)) lightStepMatchesSpecCard

/-- THE TIED CARD OF 'voxellaw33.LightIsLeast'. -/
def lightIsLeastCard : Claim7 := { stood := { row := lightIsLeastRow, standIns := [], harness := (true, "d519c5fa85da6a69a89afb756553c9a3747c4cf694668013adbe34bf2ce43f55"), looks := false }, kinds := [], alts := [], laidByText := true, laidKinds := [.widerDeep, .data], laidTests := true, laidLooks := .later }
def LightIsLeastCardSaid : Prop := Claim7.holds Tryd.pinned (.plain (OpenSpec.ofChange lightIsLeastSpec)) lightIsLeastCard

/-- THE TIED CARD OF 'voxellaw33.LightStepIsMonotone'. -/
def lightStepIsMonotoneCard : Claim7 := { stood := { row := lightStepIsMonotoneRow, standIns := [], harness := (true, "d519c5fa85da6a69a89afb756553c9a3747c4cf694668013adbe34bf2ce43f55"), looks := false }, kinds := [], alts := [], laidByText := true, laidKinds := [.widerDeep, .data], laidTests := true, laidLooks := .later }
def LightStepIsMonotoneCardSaid : Prop := Claim7.holds Tryd.pinned (.plain (OpenSpec.ofChange lightStepIsMonotoneSpec)) lightStepIsMonotoneCard

/-- THE TIED CARD OF 'voxellaw33.LightGrows'. -/
def lightGrowsCard : Claim7 := { stood := { row := lightGrowsRow, standIns := [], harness := (true, "d519c5fa85da6a69a89afb756553c9a3747c4cf694668013adbe34bf2ce43f55"), looks := false }, kinds := [], alts := [], laidByText := true, laidKinds := [.widerDeep, .data], laidTests := true, laidLooks := .later }
def LightGrowsCardSaid : Prop := Claim7.holds Tryd.pinned (.plain (OpenSpec.ofChange lightGrowsSpec)) lightGrowsCard

/-- THE TIED CARD OF 'voxellaw33.LightMirrors'. -/
def lightMirrorsCard : Claim7 := { stood := { row := lightMirrorsRow, standIns := [], harness := (true, "d519c5fa85da6a69a89afb756553c9a3747c4cf694668013adbe34bf2ce43f55"), looks := false }, kinds := [], alts := [], laidByText := true, laidKinds := [.widerDeep, .data], laidTests := true, laidLooks := .later }
def LightMirrorsCardSaid : Prop := Claim7.holds Tryd.pinned (.plain (OpenSpec.ofChange lightMirrorsSpec)) lightMirrorsCard

/-- THE SECOND FORM's CARD OF 'voxellaw33.LightMatchesSpec'. -/
def lightMatchesSpecUptoCard : Claim7 := { stood := { row := lightMatchesSpecUptoRow, standIns := [], harness := (true, "d519c5fa85da6a69a89afb756553c9a3747c4cf694668013adbe34bf2ce43f55"), looks := false }, kinds := [], alts := [], laidByText := true, laidKinds := [.widerDeep, .data], laidTests := true, laidLooks := .later }
def LightMatchesSpecUptoCardSaid : Prop := Claim7.holds Tryd.pinned (.plain (OpenSpec.upto lightMatchesSpecSpec)) lightMatchesSpecUptoCard

/-- THE SECOND FORM's CARD OF 'voxellaw33.LightStepMatchesSpec'. -/
def lightStepMatchesSpecUptoCard : Claim7 := { stood := { row := lightStepMatchesSpecUptoRow, standIns := [], harness := (true, "d519c5fa85da6a69a89afb756553c9a3747c4cf694668013adbe34bf2ce43f55"), looks := false }, kinds := [], alts := [], laidByText := true, laidKinds := [.widerDeep, .data], laidTests := true, laidLooks := .later }
def LightStepMatchesSpecUptoCardSaid : Prop := Claim7.holds Tryd.pinned (.plain (OpenSpec.upto lightStepMatchesSpecSpec)) lightStepMatchesSpecUptoCard

/-- THE SECOND FORM's CARD OF 'voxellaw33.LightIsLeast'. -/
def lightIsLeastUptoCard : Claim7 := { stood := { row := lightIsLeastUptoRow, standIns := [], harness := (true, "d519c5fa85da6a69a89afb756553c9a3747c4cf694668013adbe34bf2ce43f55"), looks := false }, kinds := [], alts := [], laidByText := true, laidKinds := [.widerDeep, .data], laidTests := true, laidLooks := .later }
def LightIsLeastUptoCardSaid : Prop := Claim7.holds Tryd.pinned (.plain (OpenSpec.upto lightIsLeastSpec)) lightIsLeastUptoCard

/-- THE SECOND FORM's CARD OF 'voxellaw33.LightStepIsMonotone'. -/
def lightStepIsMonotoneUptoCard : Claim7 := { stood := { row := lightStepIsMonotoneUptoRow, standIns := [], harness := (true, "d519c5fa85da6a69a89afb756553c9a3747c4cf694668013adbe34bf2ce43f55"), looks := false }, kinds := [], alts := [], laidByText := true, laidKinds := [.widerDeep, .data], laidTests := true, laidLooks := .later }
def LightStepIsMonotoneUptoCardSaid : Prop := Claim7.holds Tryd.pinned (.plain (OpenSpec.upto lightStepIsMonotoneSpec)) lightStepIsMonotoneUptoCard

/-- THE SECOND FORM's CARD OF 'voxellaw33.LightGrows'. -/
def lightGrowsUptoCard : Claim7 := { stood := { row := lightGrowsUptoRow, standIns := [], harness := (true, "d519c5fa85da6a69a89afb756553c9a3747c4cf694668013adbe34bf2ce43f55"), looks := false }, kinds := [], alts := [], laidByText := true, laidKinds := [.widerDeep, .data], laidTests := true, laidLooks := .later }
def LightGrowsUptoCardSaid : Prop := Claim7.holds Tryd.pinned (.plain (OpenSpec.upto lightGrowsSpec)) lightGrowsUptoCard

/-- THE SECOND FORM's CARD OF 'voxellaw33.LightMirrors'. -/
def lightMirrorsUptoCard : Claim7 := { stood := { row := lightMirrorsUptoRow, standIns := [], harness := (true, "d519c5fa85da6a69a89afb756553c9a3747c4cf694668013adbe34bf2ce43f55"), looks := false }, kinds := [], alts := [], laidByText := true, laidKinds := [.widerDeep, .data], laidTests := true, laidLooks := .later }
def LightMirrorsUptoCardSaid : Prop := Claim7.holds Tryd.pinned (.plain (OpenSpec.upto lightMirrorsSpec)) lightMirrorsUptoCard
end Rows
end Go.Proofs.YtelbilnnmmbmdaaDoor
