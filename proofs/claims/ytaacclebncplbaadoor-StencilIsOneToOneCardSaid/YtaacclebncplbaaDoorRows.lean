/-
  NARROWER THAN 'FOR EVERY INPUT', by the rows' own cells (each row's printed sentence says how): StencilPlacesAsSpecified: laid · StencilIsOneToOne: laid · StencilMovesCells: laid.
  DERIVED. THE GIVEN ROWS OF THIS SEAT. 3 by the template 'for every input the law returns true; each argument reads behind the call as it read before'; 0 by the template 'total and deterministic' (their statements: YtaacclebncplbaaDoorTotals.lean).
  GIVEN WITH THE SEED: the statements are not yours to turn. If you find one false, say at which input.
  Laid BY PROGRAM, IN A SANDBOX (cutbox-rows.mjs): the forced cells as the released guide's own fill.sh prints them over the translation ee883e155688be28… (all of the seat's roots in one cut). By AI agents, Wed Nov 11 2026. No macro, syntax, notation, axiom, sorry.
-/
import Derived.Test.YtaacclebncplbaaDoorChecked
import GoSem.Claim
import GoSem.ClaimJoined
import GoSem.ClaimMapViews
import Derived.JoinedTies
import Derived.KernelRfl
namespace Go.Proofs.YtaacclebncplbaaDoor
/- THE CELL 'sum', in the pinned program and in every row, IS THE sha256 OF THE DUMP (.gsa) THAT YtaacclebncplbaaDoorProg.lean LOADS. Nothing in Lean hashes anything: it is a label: what it is worth is what the hold of that sum in a sandbox is worth. -/
noncomputable def Tryd.pinned : Pinned := { name := "ytaacclebncplbaadoor", sum := "ee883e155688be283055416965c6a5e70e536615544bed324fc7e24c5bff54f3", checked := Tryd.checked }
namespace Rows
def none {H : Type} : Left H := { results := [], args := [] }

/- WHAT THE LISTED PACKAGE-LEVEL VARIABLES READ AS WHEN THE CALL BEGINS. Each datum BY PROGRAM (the guide's laid-datum.mjs) off the statement by which the dump's own 'gosem.cut.vars' lays the variable. In a bare row this is a premise. The card (YtaacclebncplbaaDoorCards.lean) ties it to the program's text. -/
def laid_voxel_point_axes {H : Type} : DataW H := .agg [.lit (.string [120, 121, 122]), .lit (.string [120, 122, 121]), .lit (.string [121, 120, 122]), .lit (.string [121, 122, 120]), .lit (.string [122, 120, 121]), .lit (.string [122, 121, 120])]

/-- 'voxellaw20.StencilPlacesAsSpecified': WHATEVER THE INPUT: true; the input reads as it did. -/
def stencilPlacesAsSpecifiedSpec : ChangeSpec := { name := "stencilPlacesAsSpecified", fn := fun _ => fun
  | [d1, d2, d3, d4] => { results := [.lit (.bool true)], args := [d1, d2, d3, d4] }
  | _ => none }
def stencilPlacesAsSpecifiedRow : OpenClaim := { program := "ytaacclebncplbaadoor", sum := "ee883e155688be283055416965c6a5e70e536615544bed324fc7e24c5bff54f3", func := "voxel/voxellaw20.StencilPlacesAsSpecified", spec := "stencilPlacesAsSpecified", unfollowed := true, recurses := true, named := ["voxel/point.axes"], apart := false, laid := [("voxel/point.axes", laid_voxel_point_axes)] }
def StencilPlacesAsSpecifiedSaid : Prop := stencilPlacesAsSpecifiedRow.holds Tryd.pinned (OpenSpec.ofChange stencilPlacesAsSpecifiedSpec)

/-- ITS FALSE NEIGHBOUR: 'it returns false'. Refute it at one input. -/
def stencilPlacesAsSpecifiedWrong : ChangeSpec := { name := "stencilPlacesAsSpecified", fn := fun _ => fun
  | [d1, d2, d3, d4] => { results := [.lit (.bool false)], args := [d1, d2, d3, d4] }
  | _ => none }
def StencilPlacesAsSpecifiedWrongFalsely : Prop := stencilPlacesAsSpecifiedRow.holds Tryd.pinned (OpenSpec.ofChange stencilPlacesAsSpecifiedWrong)

/-- 'voxellaw20.StencilIsOneToOne': WHATEVER THE INPUT: true; the input reads as it did. -/
def stencilIsOneToOneSpec : ChangeSpec := { name := "stencilIsOneToOne", fn := fun _ => fun
  | [d1, d2, d3] => { results := [.lit (.bool true)], args := [d1, d2, d3] }
  | _ => none }
def stencilIsOneToOneRow : OpenClaim := { program := "ytaacclebncplbaadoor", sum := "ee883e155688be283055416965c6a5e70e536615544bed324fc7e24c5bff54f3", func := "voxel/voxellaw20.StencilIsOneToOne", spec := "stencilIsOneToOne", unfollowed := true, recurses := true, named := ["voxel/point.axes"], apart := false, laid := [("voxel/point.axes", laid_voxel_point_axes)] }
def StencilIsOneToOneSaid : Prop := stencilIsOneToOneRow.holds Tryd.pinned (OpenSpec.ofChange stencilIsOneToOneSpec)

/-- ITS FALSE NEIGHBOUR: 'it returns false'. Refute it at one input. -/
def stencilIsOneToOneWrong : ChangeSpec := { name := "stencilIsOneToOne", fn := fun _ => fun
  | [d1, d2, d3] => { results := [.lit (.bool false)], args := [d1, d2, d3] }
  | _ => none }
def StencilIsOneToOneWrongFalsely : Prop := stencilIsOneToOneRow.holds Tryd.pinned (OpenSpec.ofChange stencilIsOneToOneWrong)

/-- 'voxellaw20.StencilMovesCells': WHATEVER THE INPUT: true; the input reads as it did. -/
def stencilMovesCellsSpec : ChangeSpec := { name := "stencilMovesCells", fn := fun _ => fun
  | [d1, d2, d3, d4] => { results := [.lit (.bool true)], args := [d1, d2, d3, d4] }
  | _ => none }
def stencilMovesCellsRow : OpenClaim := { program := "ytaacclebncplbaadoor", sum := "ee883e155688be283055416965c6a5e70e536615544bed324fc7e24c5bff54f3", func := "voxel/voxellaw20.StencilMovesCells", spec := "stencilMovesCells", unfollowed := true, recurses := true, named := ["voxel/point.axes"], apart := false, laid := [("voxel/point.axes", laid_voxel_point_axes)] }
def StencilMovesCellsSaid : Prop := stencilMovesCellsRow.holds Tryd.pinned (OpenSpec.ofChange stencilMovesCellsSpec)

/-- ITS FALSE NEIGHBOUR: 'it returns false'. Refute it at one input. -/
def stencilMovesCellsWrong : ChangeSpec := { name := "stencilMovesCells", fn := fun _ => fun
  | [d1, d2, d3, d4] => { results := [.lit (.bool false)], args := [d1, d2, d3, d4] }
  | _ => none }
def StencilMovesCellsWrongFalsely : Prop := stencilMovesCellsRow.holds Tryd.pinned (OpenSpec.ofChange stencilMovesCellsWrong)

/- THE SECOND FORM. 'bulk': how many values and letters a reading holds, each counted each time it is reached (what is shared counts as often as it is met; a slice's spare places count too). A statement '..UptoSaid' is the law's where the arguments, and the package variables that the reading takes, are together of bulk at most 1048576: NARROWER than '..Said'. Prove '..Said' where nothing that the law and all that it calls make is longer than what came in: it says more and counts as full. Else prove '..UptoSaid'. A law counts once. -/
mutual
def uptoBulk {H : Type} : DataW H → Nat
  | .lit (.string bytes) => bytes.length + 1
  | .lit _ => 1
  | .nil => 1
  | .ptr d => uptoBulk d + 1
  | .slice elems spare => uptoBulkAll elems + uptoBulkAll spare + 1
  | .agg parts => uptoBulkAll parts + 1
  | .iface _ d => uptoBulk d + 1
  | .map entries => uptoBulkEntries entries + 1
  | .held _ => 1
def uptoBulkAll {H : Type} : List (DataW H) → Nat
  | [] => 0
  | d :: r => uptoBulk d + uptoBulkAll r
def uptoBulkEntries {H : Type} : List (Lit × DataW H) → Nat
  | [] => 0
  | x :: r => uptoBulkEntry x + uptoBulkEntries r
def uptoBulkEntry {H : Type} : Lit × DataW H → Nat
  | (.string bytes, d) => bytes.length + uptoBulk d + 1
  | (_, d) => uptoBulk d + 1
 end
def uptoSmall : (H : Type) → List (DataW H) → Bool := fun _ ds => decide (uptoBulkAll ds ≤ 1048576)
def OpenSpec.upto (s : _root_.Go.ChangeSpec) : _root_.Go.OpenSpec := { _root_.Go.OpenSpec.ofChange s with cond := some uptoSmall }

/-- 'voxellaw20.StencilPlacesAsSpecified', WHERE WHAT IT READS IS OF BULK AT MOST 1048576: true; the input reads as it did. -/
def stencilPlacesAsSpecifiedUptoRow : OpenClaim := { program := "ytaacclebncplbaadoor", sum := "ee883e155688be283055416965c6a5e70e536615544bed324fc7e24c5bff54f3", func := "voxel/voxellaw20.StencilPlacesAsSpecified", spec := "stencilPlacesAsSpecified", unfollowed := true, recurses := true, named := ["voxel/point.axes"], apart := false, laid := [("voxel/point.axes", laid_voxel_point_axes)], narrowed := true }
def StencilPlacesAsSpecifiedUptoSaid : Prop := stencilPlacesAsSpecifiedUptoRow.holds Tryd.pinned (OpenSpec.upto stencilPlacesAsSpecifiedSpec)

/-- 'voxellaw20.StencilIsOneToOne', WHERE WHAT IT READS IS OF BULK AT MOST 1048576: true; the input reads as it did. -/
def stencilIsOneToOneUptoRow : OpenClaim := { program := "ytaacclebncplbaadoor", sum := "ee883e155688be283055416965c6a5e70e536615544bed324fc7e24c5bff54f3", func := "voxel/voxellaw20.StencilIsOneToOne", spec := "stencilIsOneToOne", unfollowed := true, recurses := true, named := ["voxel/point.axes"], apart := false, laid := [("voxel/point.axes", laid_voxel_point_axes)], narrowed := true }
def StencilIsOneToOneUptoSaid : Prop := stencilIsOneToOneUptoRow.holds Tryd.pinned (OpenSpec.upto stencilIsOneToOneSpec)

/-- 'voxellaw20.StencilMovesCells', WHERE WHAT IT READS IS OF BULK AT MOST 1048576: true; the input reads as it did. -/
def stencilMovesCellsUptoRow : OpenClaim := { program := "ytaacclebncplbaadoor", sum := "ee883e155688be283055416965c6a5e70e536615544bed324fc7e24c5bff54f3", func := "voxel/voxellaw20.StencilMovesCells", spec := "stencilMovesCells", unfollowed := true, recurses := true, named := ["voxel/point.axes"], apart := false, laid := [("voxel/point.axes", laid_voxel_point_axes)], narrowed := true }
def StencilMovesCellsUptoSaid : Prop := stencilMovesCellsUptoRow.holds Tryd.pinned (OpenSpec.upto stencilMovesCellsSpec)

end Rows
end Go.Proofs.YtaacclebncplbaaDoor
