/-
  No cell of these rows narrows 'for every input' (looked for: loops, veiled, ifaces, maps, wideKeys, modest, calm, conditions, laid).
  DERIVED. THE GIVEN ROWS OF THIS SEAT. 5 by the template 'for every input the law returns true; each argument reads behind the call as it read before'; 0 by the template 'total and deterministic' (their statements: YtokicaoapclicaaTotals.lean).
  GIVEN WITH THE SEED: the statements are not yours to turn. If you find one false, say at which input.
  Laid BY PROGRAM, IN A SANDBOX (cutbox-rows.mjs): the forced cells as the released guide's own fill.sh prints them over the translation c1734ec91660f40b… (all of the seat's roots in one cut). By AI agents, Wed Nov 11 2026. No macro, syntax, notation, axiom, sorry.
-/
import Derived.Test.YtokicaoapclicaaChecked
import GoSem.Claim
import GoSem.ClaimJoined
import GoSem.ClaimMapViews
import Derived.JoinedTies
import Derived.KernelRfl
namespace Go.Proofs.Ytokicaoapclicaa
/- THE CELL 'sum', in the pinned program and in every row, IS THE sha256 OF THE DUMP (.gsa) THAT YtokicaoapclicaaProg.lean LOADS. Nothing in Lean hashes anything: it is a label: what it is worth is what the hold of that sum in a sandbox is worth. -/
noncomputable def Try.pinned : Pinned := { name := "ytokicaoapclicaa", sum := "c1734ec91660f40b12bd73b72a32b4180c7f38cfa0ebd9e8f30fe25e20afaffd", checked := Try.checked }
namespace Rows
def none {H : Type} : Left H := { results := [], args := [] }

/-- 'voxellaw41.CollideMovesAsSpecified': WHATEVER THE INPUT: true; the input reads as it did. -/
def collideMovesAsSpecifiedSpec : ChangeSpec := { name := "collideMovesAsSpecified", fn := fun _ => fun
  | [d1, d2, d3, d4, d5] => { results := [.lit (.bool true)], args := [d1, d2, d3, d4, d5] }
  | _ => none }
def collideMovesAsSpecifiedRow : OpenClaim := { program := "ytokicaoapclicaa", sum := "c1734ec91660f40b12bd73b72a32b4180c7f38cfa0ebd9e8f30fe25e20afaffd", func := "voxel/voxellaw41.CollideMovesAsSpecified", spec := "collideMovesAsSpecified", unfollowed := true, recurses := true, apart := false }
def CollideMovesAsSpecifiedSaid : Prop := collideMovesAsSpecifiedRow.holds Try.pinned (OpenSpec.ofChange collideMovesAsSpecifiedSpec)

/-- ITS FALSE NEIGHBOUR: 'it returns false'. Refute it at one input. -/
def collideMovesAsSpecifiedWrong : ChangeSpec := { name := "collideMovesAsSpecified", fn := fun _ => fun
  | [d1, d2, d3, d4, d5] => { results := [.lit (.bool false)], args := [d1, d2, d3, d4, d5] }
  | _ => none }
def CollideMovesAsSpecifiedWrongFalsely : Prop := collideMovesAsSpecifiedRow.holds Try.pinned (OpenSpec.ofChange collideMovesAsSpecifiedWrong)

/-- 'voxellaw41.CollideBoxesTile': WHATEVER THE INPUT: true; the input reads as it did. -/
def collideBoxesTileSpec : ChangeSpec := { name := "collideBoxesTile", fn := fun _ => fun
  | [d1, d2, d3] => { results := [.lit (.bool true)], args := [d1, d2, d3] }
  | _ => none }
def collideBoxesTileRow : OpenClaim := { program := "ytokicaoapclicaa", sum := "c1734ec91660f40b12bd73b72a32b4180c7f38cfa0ebd9e8f30fe25e20afaffd", func := "voxel/voxellaw41.CollideBoxesTile", spec := "collideBoxesTile", unfollowed := true, recurses := true, apart := false }
def CollideBoxesTileSaid : Prop := collideBoxesTileRow.holds Try.pinned (OpenSpec.ofChange collideBoxesTileSpec)

/-- ITS FALSE NEIGHBOUR: 'it returns false'. Refute it at one input. -/
def collideBoxesTileWrong : ChangeSpec := { name := "collideBoxesTile", fn := fun _ => fun
  | [d1, d2, d3] => { results := [.lit (.bool false)], args := [d1, d2, d3] }
  | _ => none }
def CollideBoxesTileWrongFalsely : Prop := collideBoxesTileRow.holds Try.pinned (OpenSpec.ofChange collideBoxesTileWrong)

/-- 'voxellaw41.CollideSlides': WHATEVER THE INPUT: true; the input reads as it did. -/
def collideSlidesSpec : ChangeSpec := { name := "collideSlides", fn := fun _ => fun
  | [d1, d2, d3, d4] => { results := [.lit (.bool true)], args := [d1, d2, d3, d4] }
  | _ => none }
def collideSlidesRow : OpenClaim := { program := "ytokicaoapclicaa", sum := "c1734ec91660f40b12bd73b72a32b4180c7f38cfa0ebd9e8f30fe25e20afaffd", func := "voxel/voxellaw41.CollideSlides", spec := "collideSlides", unfollowed := true, recurses := true, apart := false }
def CollideSlidesSaid : Prop := collideSlidesRow.holds Try.pinned (OpenSpec.ofChange collideSlidesSpec)

/-- ITS FALSE NEIGHBOUR: 'it returns false'. Refute it at one input. -/
def collideSlidesWrong : ChangeSpec := { name := "collideSlides", fn := fun _ => fun
  | [d1, d2, d3, d4] => { results := [.lit (.bool false)], args := [d1, d2, d3, d4] }
  | _ => none }
def CollideSlidesWrongFalsely : Prop := collideSlidesRow.holds Try.pinned (OpenSpec.ofChange collideSlidesWrong)

/-- 'voxellaw41.CollideNeverEnters': WHATEVER THE INPUT: true; the input reads as it did. -/
def collideNeverEntersSpec : ChangeSpec := { name := "collideNeverEnters", fn := fun _ => fun
  | [d1, d2, d3] => { results := [.lit (.bool true)], args := [d1, d2, d3] }
  | _ => none }
def collideNeverEntersRow : OpenClaim := { program := "ytokicaoapclicaa", sum := "c1734ec91660f40b12bd73b72a32b4180c7f38cfa0ebd9e8f30fe25e20afaffd", func := "voxel/voxellaw41.CollideNeverEnters", spec := "collideNeverEnters", unfollowed := true, recurses := true, apart := false }
def CollideNeverEntersSaid : Prop := collideNeverEntersRow.holds Try.pinned (OpenSpec.ofChange collideNeverEntersSpec)

/-- ITS FALSE NEIGHBOUR: 'it returns false'. Refute it at one input. -/
def collideNeverEntersWrong : ChangeSpec := { name := "collideNeverEnters", fn := fun _ => fun
  | [d1, d2, d3] => { results := [.lit (.bool false)], args := [d1, d2, d3] }
  | _ => none }
def CollideNeverEntersWrongFalsely : Prop := collideNeverEntersRow.holds Try.pinned (OpenSpec.ofChange collideNeverEntersWrong)

/-- 'voxellaw41.CollideLocal': WHATEVER THE INPUT: true; the input reads as it did. -/
def collideLocalSpec : ChangeSpec := { name := "collideLocal", fn := fun _ => fun
  | [d1, d2, d3, d4, d5] => { results := [.lit (.bool true)], args := [d1, d2, d3, d4, d5] }
  | _ => none }
def collideLocalRow : OpenClaim := { program := "ytokicaoapclicaa", sum := "c1734ec91660f40b12bd73b72a32b4180c7f38cfa0ebd9e8f30fe25e20afaffd", func := "voxel/voxellaw41.CollideLocal", spec := "collideLocal", unfollowed := true, recurses := true, apart := false }
def CollideLocalSaid : Prop := collideLocalRow.holds Try.pinned (OpenSpec.ofChange collideLocalSpec)

/-- ITS FALSE NEIGHBOUR: 'it returns false'. Refute it at one input. -/
def collideLocalWrong : ChangeSpec := { name := "collideLocal", fn := fun _ => fun
  | [d1, d2, d3, d4, d5] => { results := [.lit (.bool false)], args := [d1, d2, d3, d4, d5] }
  | _ => none }
def CollideLocalWrongFalsely : Prop := collideLocalRow.holds Try.pinned (OpenSpec.ofChange collideLocalWrong)

/- THE SECOND FORM. 'bulk': how many values and letters a reading holds, each counted each time it is reached (what is shared counts as often as it is met; a slice's spare places count too). A statement '..UptoSaid' is the law's where the arguments, and the package variables that the reading takes, are together of bulk at most 1048576: NARROWER than '..Said'. Prove '..Said' where nothing that the law and all that it calls make is longer than what came in: it says more and counts as full. Else prove '..UptoSaid'. A law counts once. -/
mutual
def uptoBulk {H : Type} : DataW H → Nat
  | .lit (.string bytes) => bytes.length + 1
  | .lit _ => 1
  | .nil => 1
  | .ptr d => uptoBulk d + 1
  | .slice elems spare => uptoBulkAll elems + uptoBulkAll spare + 1
  | .agg parts => uptoBulkAll parts + 1
  | .iface _ d => uptoBulk d + 1
  | .map entries => uptoBulkEntries entries + 1
  | .held _ => 1
def uptoBulkAll {H : Type} : List (DataW H) → Nat
  | [] => 0
  | d :: r => uptoBulk d + uptoBulkAll r
def uptoBulkEntries {H : Type} : List (Lit × DataW H) → Nat
  | [] => 0
  | x :: r => uptoBulkEntry x + uptoBulkEntries r
def uptoBulkEntry {H : Type} : Lit × DataW H → Nat
  | (.string bytes, d) => bytes.length + uptoBulk d + 1
  | (_, d) => uptoBulk d + 1
 end
def uptoSmall : (H : Type) → List (DataW H) → Bool := fun _ ds => decide (uptoBulkAll ds ≤ 1048576)
def OpenSpec.upto (s : _root_.Go.ChangeSpec) : _root_.Go.OpenSpec := { _root_.Go.OpenSpec.ofChange s with cond := some uptoSmall }

/-- 'voxellaw41.CollideMovesAsSpecified', WHERE WHAT IT READS IS OF BULK AT MOST 1048576: true; the input reads as it did. -/
def collideMovesAsSpecifiedUptoRow : OpenClaim := { program := "ytokicaoapclicaa", sum := "c1734ec91660f40b12bd73b72a32b4180c7f38cfa0ebd9e8f30fe25e20afaffd", func := "voxel/voxellaw41.CollideMovesAsSpecified", spec := "collideMovesAsSpecified", unfollowed := true, recurses := true, apart := false, narrowed := true }
def CollideMovesAsSpecifiedUptoSaid : Prop := collideMovesAsSpecifiedUptoRow.holds Try.pinned (OpenSpec.upto collideMovesAsSpecifiedSpec)

/-- 'voxellaw41.CollideBoxesTile', WHERE WHAT IT READS IS OF BULK AT MOST 1048576: true; the input reads as it did. -/
def collideBoxesTileUptoRow : OpenClaim := { program := "ytokicaoapclicaa", sum := "c1734ec91660f40b12bd73b72a32b4180c7f38cfa0ebd9e8f30fe25e20afaffd", func := "voxel/voxellaw41.CollideBoxesTile", spec := "collideBoxesTile", unfollowed := true, recurses := true, apart := false, narrowed := true }
def CollideBoxesTileUptoSaid : Prop := collideBoxesTileUptoRow.holds Try.pinned (OpenSpec.upto collideBoxesTileSpec)

/-- 'voxellaw41.CollideSlides', WHERE WHAT IT READS IS OF BULK AT MOST 1048576: true; the input reads as it did. -/
def collideSlidesUptoRow : OpenClaim := { program := "ytokicaoapclicaa", sum := "c1734ec91660f40b12bd73b72a32b4180c7f38cfa0ebd9e8f30fe25e20afaffd", func := "voxel/voxellaw41.CollideSlides", spec := "collideSlides", unfollowed := true, recurses := true, apart := false, narrowed := true }
def CollideSlidesUptoSaid : Prop := collideSlidesUptoRow.holds Try.pinned (OpenSpec.upto collideSlidesSpec)

/-- 'voxellaw41.CollideNeverEnters', WHERE WHAT IT READS IS OF BULK AT MOST 1048576: true; the input reads as it did. -/
def collideNeverEntersUptoRow : OpenClaim := { program := "ytokicaoapclicaa", sum := "c1734ec91660f40b12bd73b72a32b4180c7f38cfa0ebd9e8f30fe25e20afaffd", func := "voxel/voxellaw41.CollideNeverEnters", spec := "collideNeverEnters", unfollowed := true, recurses := true, apart := false, narrowed := true }
def CollideNeverEntersUptoSaid : Prop := collideNeverEntersUptoRow.holds Try.pinned (OpenSpec.upto collideNeverEntersSpec)

/-- 'voxellaw41.CollideLocal', WHERE WHAT IT READS IS OF BULK AT MOST 1048576: true; the input reads as it did. -/
def collideLocalUptoRow : OpenClaim := { program := "ytokicaoapclicaa", sum := "c1734ec91660f40b12bd73b72a32b4180c7f38cfa0ebd9e8f30fe25e20afaffd", func := "voxel/voxellaw41.CollideLocal", spec := "collideLocal", unfollowed := true, recurses := true, apart := false, narrowed := true }
def CollideLocalUptoSaid : Prop := collideLocalUptoRow.holds Try.pinned (OpenSpec.upto collideLocalSpec)

end Rows
end Go.Proofs.Ytokicaoapclicaa
