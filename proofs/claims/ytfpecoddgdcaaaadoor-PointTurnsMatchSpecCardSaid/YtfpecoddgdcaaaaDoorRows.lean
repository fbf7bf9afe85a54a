/-
  NARROWER THAN 'FOR EVERY INPUT', by the rows' own cells (each row's printed sentence says how): PointMatchesSpec: laid · PointTurnsMatchSpec: laid · PointTurnsAreAGroup: laid · PointTurnsKeep: laid · PointDistances: laid · PointIndices: laid · PointBoxesMatchSpec: laid · PointBoxesAreSets: laid.
  DERIVED. THE GIVEN ROWS OF THIS SEAT. 8 by the template 'for every input the law returns true; each argument reads behind the call as it read before'; 0 by the template 'total and deterministic' (their statements: YtfpecoddgdcaaaaDoorTotals.lean).
  GIVEN WITH THE SEED: the statements are not yours to turn. If you find one false, say at which input.
  Laid BY PROGRAM, IN A SANDBOX (cutbox-rows.mjs): the forced cells as the released guide's own fill.sh prints them over the translation 68eb0d2ed3dcfc4a… (all of the seat's roots in one cut). By AI agents, Wed Nov 11 2026. No macro, syntax, notation, axiom, sorry.
-/
import Derived.Test.YtfpecoddgdcaaaaDoorChecked
import GoSem.Claim
import GoSem.ClaimJoined
import GoSem.ClaimMapViews
import Derived.JoinedTies
import Derived.KernelRfl
namespace Go.Proofs.YtfpecoddgdcaaaaDoor
/- THE CELL 'sum', in the pinned program and in every row, IS THE sha256 OF THE DUMP (.gsa) THAT YtfpecoddgdcaaaaDoorProg.lean LOADS. Nothing in Lean hashes anything: it is a label: what it is worth is what the hold of that sum in a sandbox is worth. -/
noncomputable def Tryd.pinned : Pinned := { name := "ytfpecoddgdcaaaadoor", sum := "68eb0d2ed3dcfc4a69316c1fb4628017b612c4f93bf52957df1ccde400586d2f", checked := Tryd.checked }
namespace Rows
def none {H : Type} : Left H := { results := [], args := [] }

/- WHAT THE LISTED PACKAGE-LEVEL VARIABLES READ AS WHEN THE CALL BEGINS. Each datum BY PROGRAM (the guide's laid-datum.mjs) off the statement by which the dump's own 'gosem.cut.vars' lays the variable. In a bare row this is a premise. The card (YtfpecoddgdcaaaaDoorCards.lean) ties it to the program's text. -/
def laid_voxel_point_axes {H : Type} : DataW H := .agg [.lit (.string [120, 121, 122]), .lit (.string [120, 122, 121]), .lit (.string [121, 120, 122]), .lit (.string [121, 122, 120]), .lit (.string [122, 120, 121]), .lit (.string [122, 121, 120])]

/-- 'voxellaw04.PointMatchesSpec': WHATEVER THE INPUT: true; the input reads as it did. -/
def pointMatchesSpecSpec : ChangeSpec := { name := "pointMatchesSpec", fn := fun _ => fun
  | [d1, d2, d3] => { results := [.lit (.bool true)], args := [d1, d2, d3] }
  | _ => none }
def pointMatchesSpecRow : OpenClaim := { program := "ytfpecoddgdcaaaadoor", sum := "68eb0d2ed3dcfc4a69316c1fb4628017b612c4f93bf52957df1ccde400586d2f", func := "voxel/voxellaw04.PointMatchesSpec", spec := "pointMatchesSpec", unfollowed := true, recurses := true, named := ["voxel/point.axes"], apart := false, laid := [("voxel/point.axes", laid_voxel_point_axes)] }
def PointMatchesSpecSaid : Prop := pointMatchesSpecRow.holds Tryd.pinned (OpenSpec.ofChange pointMatchesSpecSpec)

/-- ITS FALSE NEIGHBOUR: 'it returns false'. Refute it at one input. -/
def pointMatchesSpecWrong : ChangeSpec := { name := "pointMatchesSpec", fn := fun _ => fun
  | [d1, d2, d3] => { results := [.lit (.bool false)], args := [d1, d2, d3] }
  | _ => none }
def PointMatchesSpecWrongFalsely : Prop := pointMatchesSpecRow.holds Tryd.pinned (OpenSpec.ofChange pointMatchesSpecWrong)

/-- 'voxellaw04.PointTurnsMatchSpec': WHATEVER THE INPUT: true; the input reads as it did. -/
def pointTurnsMatchSpecSpec : ChangeSpec := { name := "pointTurnsMatchSpec", fn := fun _ => fun
  | [d1, d2, d3, d4, d5] => { results := [.lit (.bool true)], args := [d1, d2, d3, d4, d5] }
  | _ => none }
def pointTurnsMatchSpecRow : OpenClaim := { program := "ytfpecoddgdcaaaadoor", sum := "68eb0d2ed3dcfc4a69316c1fb4628017b612c4f93bf52957df1ccde400586d2f", func := "voxel/voxellaw04.PointTurnsMatchSpec", spec := "pointTurnsMatchSpec", unfollowed := true, recurses := true, named := ["voxel/point.axes"], apart := false, laid := [("voxel/point.axes", laid_voxel_point_axes)] }
def PointTurnsMatchSpecSaid : Prop := pointTurnsMatchSpecRow.holds Tryd.pinned (OpenSpec.ofChange pointTurnsMatchSpecSpec)

/-- ITS FALSE NEIGHBOUR: 'it returns false'. Refute it at one input. -/
def pointTurnsMatchSpecWrong : ChangeSpec := { name := "pointTurnsMatchSpec", fn := fun _ => fun
  | [d1, d2, d3, d4, d5] => { results := [.lit (.bool false)], args := [d1, d2, d3, d4, d5] }
  | _ => none }
def PointTurnsMatchSpecWrongFalsely : Prop := pointTurnsMatchSpecRow.holds Tryd.pinned (OpenSpec.ofChange pointTurnsMatchSpecWrong)

/-- 'voxellaw04.PointTurnsAreAGroup': WHATEVER THE INPUT: true; the input reads as it did. -/
def pointTurnsAreAGroupSpec : ChangeSpec := { name := "pointTurnsAreAGroup", fn := fun _ => fun
  | [d1, d2, d3, d4] => { results := [.lit (.bool true)], args := [d1, d2, d3, d4] }
  | _ => none }
def pointTurnsAreAGroupRow : OpenClaim := { program := "ytfpecoddgdcaaaadoor", sum := "68eb0d2ed3dcfc4a69316c1fb4628017b612c4f93bf52957df1ccde400586d2f", func := "voxel/voxellaw04.PointTurnsAreAGroup", spec := "pointTurnsAreAGroup", unfollowed := true, recurses := true, named := ["voxel/point.axes"], apart := false, laid := [("voxel/point.axes", laid_voxel_point_axes)] }
def PointTurnsAreAGroupSaid : Prop := pointTurnsAreAGroupRow.holds Tryd.pinned (OpenSpec.ofChange pointTurnsAreAGroupSpec)

/-- ITS FALSE NEIGHBOUR: 'it returns false'. Refute it at one input. -/
def pointTurnsAreAGroupWrong : ChangeSpec := { name := "pointTurnsAreAGroup", fn := fun _ => fun
  | [d1, d2, d3, d4] => { results := [.lit (.bool false)], args := [d1, d2, d3, d4] }
  | _ => none }
def PointTurnsAreAGroupWrongFalsely : Prop := pointTurnsAreAGroupRow.holds Tryd.pinned (OpenSpec.ofChange pointTurnsAreAGroupWrong)

/-- 'voxellaw04.PointTurnsKeep': WHATEVER THE INPUT: true; the input reads as it did. -/
def pointTurnsKeepSpec : ChangeSpec := { name := "pointTurnsKeep", fn := fun _ => fun
  | [d1, d2, d3, d4] => { results := [.lit (.bool true)], args := [d1, d2, d3, d4] }
  | _ => none }
def pointTurnsKeepRow : OpenClaim := { program := "ytfpecoddgdcaaaadoor", sum := "68eb0d2ed3dcfc4a69316c1fb4628017b612c4f93bf52957df1ccde400586d2f", func := "voxel/voxellaw04.PointTurnsKeep", spec := "pointTurnsKeep", unfollowed := true, recurses := true, named := ["voxel/point.axes"], apart := false, laid := [("voxel/point.axes", laid_voxel_point_axes)] }
def PointTurnsKeepSaid : Prop := pointTurnsKeepRow.holds Tryd.pinned (OpenSpec.ofChange pointTurnsKeepSpec)

/-- ITS FALSE NEIGHBOUR: 'it returns false'. Refute it at one input. -/
def pointTurnsKeepWrong : ChangeSpec := { name := "pointTurnsKeep", fn := fun _ => fun
  | [d1, d2, d3, d4] => { results := [.lit (.bool false)], args := [d1, d2, d3, d4] }
  | _ => none }
def PointTurnsKeepWrongFalsely : Prop := pointTurnsKeepRow.holds Tryd.pinned (OpenSpec.ofChange pointTurnsKeepWrong)

/-- 'voxellaw04.PointDistances': WHATEVER THE INPUT: true; the input reads as it did. -/
def pointDistancesSpec : ChangeSpec := { name := "pointDistances", fn := fun _ => fun
  | [d1, d2, d3, d4] => { results := [.lit (.bool true)], args := [d1, d2, d3, d4] }
  | _ => none }
def pointDistancesRow : OpenClaim := { program := "ytfpecoddgdcaaaadoor", sum := "68eb0d2ed3dcfc4a69316c1fb4628017b612c4f93bf52957df1ccde400586d2f", func := "voxel/voxellaw04.PointDistances", spec := "pointDistances", unfollowed := true, recurses := true, named := ["voxel/point.axes"], apart := false, laid := [("voxel/point.axes", laid_voxel_point_axes)] }
def PointDistancesSaid : Prop := pointDistancesRow.holds Tryd.pinned (OpenSpec.ofChange pointDistancesSpec)

/-- ITS FALSE NEIGHBOUR: 'it returns false'. Refute it at one input. -/
def pointDistancesWrong : ChangeSpec := { name := "pointDistances", fn := fun _ => fun
  | [d1, d2, d3, d4] => { results := [.lit (.bool false)], args := [d1, d2, d3, d4] }
  | _ => none }
def PointDistancesWrongFalsely : Prop := pointDistancesRow.holds Tryd.pinned (OpenSpec.ofChange pointDistancesWrong)

/-- 'voxellaw04.PointIndices': WHATEVER THE INPUT: true; the input reads as it did. -/
def pointIndicesSpec : ChangeSpec := { name := "pointIndices", fn := fun _ => fun
  | [d1, d2, d3] => { results := [.lit (.bool true)], args := [d1, d2, d3] }
  | _ => none }
def pointIndicesRow : OpenClaim := { program := "ytfpecoddgdcaaaadoor", sum := "68eb0d2ed3dcfc4a69316c1fb4628017b612c4f93bf52957df1ccde400586d2f", func := "voxel/voxellaw04.PointIndices", spec := "pointIndices", unfollowed := true, recurses := true, named := ["voxel/point.axes"], apart := false, laid := [("voxel/point.axes", laid_voxel_point_axes)] }
def PointIndicesSaid : Prop := pointIndicesRow.holds Tryd.pinned (OpenSpec.ofChange pointIndicesSpec)

/-- ITS FALSE NEIGHBOUR: 'it returns false'. Refute it at one input. -/
def pointIndicesWrong : ChangeSpec := { name := "pointIndices", fn := fun _ => fun
  | [d1, d2, d3] => { results := [.lit (.bool false)], args := [d1, d2, d3] }
  | _ => none }
def PointIndicesWrongFalsely : Prop := pointIndicesRow.holds Tryd.pinned (OpenSpec.ofChange pointIndicesWrong)

/-- 'voxellaw04.PointBoxesMatchSpec': WHATEVER THE INPUT: true; the input reads as it did. -/
def pointBoxesMatchSpecSpec : ChangeSpec := { name := "pointBoxesMatchSpec", fn := fun _ => fun
  | [d1, d2, d3, d4, d5] => { results := [.lit (.bool true)], args := [d1, d2, d3, d4, d5] }
  | _ => none }
def pointBoxesMatchSpecRow : OpenClaim := { program := "ytfpecoddgdcaaaadoor", sum := "68eb0d2ed3dcfc4a69316c1fb4628017b612c4f93bf52957df1ccde400586d2f", func := "voxel/voxellaw04.PointBoxesMatchSpec", spec := "pointBoxesMatchSpec", unfollowed := true, recurses := true, named := ["voxel/point.axes"], apart := false, laid := [("voxel/point.axes", laid_voxel_point_axes)] }
def PointBoxesMatchSpecSaid : Prop := pointBoxesMatchSpecRow.holds Tryd.pinned (OpenSpec.ofChange pointBoxesMatchSpecSpec)

/-- ITS FALSE NEIGHBOUR: 'it returns false'. Refute it at one input. -/
def pointBoxesMatchSpecWrong : ChangeSpec := { name := "pointBoxesMatchSpec", fn := fun _ => fun
  | [d1, d2, d3, d4, d5] => { results := [.lit (.bool false)], args := [d1, d2, d3, d4, d5] }
  | _ => none }
def PointBoxesMatchSpecWrongFalsely : Prop := pointBoxesMatchSpecRow.holds Tryd.pinned (OpenSpec.ofChange pointBoxesMatchSpecWrong)

/-- 'voxellaw04.PointBoxesAreSets': WHATEVER THE INPUT: true; the input reads as it did. -/
def pointBoxesAreSetsSpec : ChangeSpec := { name := "pointBoxesAreSets", fn := fun _ => fun
  | [d1, d2, d3, d4] => { results := [.lit (.bool true)], args := [d1, d2, d3, d4] }
  | _ => none }
def pointBoxesAreSetsRow : OpenClaim := { program := "ytfpecoddgdcaaaadoor", sum := "68eb0d2ed3dcfc4a69316c1fb4628017b612c4f93bf52957df1ccde400586d2f", func := "voxel/voxellaw04.PointBoxesAreSets", spec := "pointBoxesAreSets", unfollowed := true, recurses := true, named := ["voxel/point.axes"], apart := false, laid := [("voxel/point.axes", laid_voxel_point_axes)] }
def PointBoxesAreSetsSaid : Prop := pointBoxesAreSetsRow.holds Tryd.pinned (OpenSpec.ofChange pointBoxesAreSetsSpec)

/-- ITS FALSE NEIGHBOUR: 'it returns false'. Refute it at one input. -/
def pointBoxesAreSetsWrong : ChangeSpec := { name := "pointBoxesAreSets", fn := fun _ => fun
  | [d1, d2, d3, d4] => { results := [.lit (.bool false)], args := [d1, d2, d3, d4] }
  | _ => none }
def PointBoxesAreSetsWrongFalsely : Prop := pointBoxesAreSetsRow.holds Tryd.pinned (OpenSpec.ofChange pointBoxesAreSetsWrong)

/- THE SECOND FORM. 'bulk': how many values and letters a reading holds, each counted each time it is reached (what is shared counts as often as it is met; a slice's spare places count too). A statement '..UptoSaid' is the law's where the arguments, and the package variables that the reading takes, are together of bulk at most 1048576: NARROWER than '..Said'. Prove '..Said' where nothing that the law and all that it calls make is longer than what came in: it says more and counts as full. Else prove '..UptoSaid'. A law counts once. -/
mutual
def uptoBulk {H : Type} : DataW H → Nat
  | .lit (.string bytes) => bytes.length + 1
  | .lit _ => 1
  | .nil => 1
  | .ptr d => uptoBulk d + 1
  | .slice elems spare => uptoBulkAll elems + uptoBulkAll spare + 1
  | .agg parts => uptoBulkAll parts + 1
  | .iface _ d => uptoBulk d + 1
  | .map entries => uptoBulkEntries entries + 1
  | .held _ => 1
def uptoBulkAll {H : Type} : List (DataW H) → Nat
  | [] => 0
  | d :: r => uptoBulk d + uptoBulkAll r
def uptoBulkEntries {H : Type} : List (Lit × DataW H) → Nat
  | [] => 0
  | x :: r => uptoBulkEntry x + uptoBulkEntries r
def uptoBulkEntry {H : Type} : Lit × DataW H → Nat
  | (.string bytes, d) => bytes.length + uptoBulk d + 1
  | (_, d) => uptoBulk d + 1
 end
def uptoSmall : (H : Type) → List (DataW H) → Bool := fun _ ds => decide (uptoBulkAll ds ≤ 1048576)
def OpenSpec.upto (s : _root_.Go.ChangeSpec) : _root_.Go.OpenSpec := { _root_.Go.OpenSpec.ofChange s with cond := some uptoSmall }

/-- 'voxellaw04.PointMatchesSpec', WHERE WHAT IT READS IS OF BULK AT MOST 1048576: true; the input reads as it did. -/
def pointMatchesSpecUptoRow : OpenClaim := { program := "ytfpecoddgdcaaaadoor", sum := "68eb0d2ed3dcfc4a69316c1fb4628017b612c4f93bf52957df1ccde400586d2f", func := "voxel/voxellaw04.PointMatchesSpec", spec := "pointMatchesSpec", unfollowed := true, recurses := true, named := ["voxel/point.axes"], apart := false, laid := [("voxel/point.axes", laid_voxel_point_axes)], narrowed := true }
def PointMatchesSpecUptoSaid : Prop := pointMatchesSpecUptoRow.holds Tryd.pinned (OpenSpec.upto pointMatchesSpecSpec)

/-- 'voxellaw04.PointTurnsMatchSpec', WHERE WHAT IT READS IS OF BULK AT MOST 1048576: true; the input reads as it did. -/
def pointTurnsMatchSpecUptoRow : OpenClaim := { program := "ytfpecoddgdcaaaadoor", sum := "68eb0d2ed3dcfc4a69316c1fb4628017b612c4f93bf52957df1ccde400586d2f", func := "voxel/voxellaw04.PointTurnsMatchSpec", spec := "pointTurnsMatchSpec", unfollowed := true, recurses := true, named := ["voxel/point.axes"], apart := false, laid := [("voxel/point.axes", laid_voxel_point_axes)], narrowed := true }
def PointTurnsMatchSpecUptoSaid : Prop := pointTurnsMatchSpecUptoRow.holds Tryd.pinned (OpenSpec.upto pointTurnsMatchSpecSpec)

/-- 'voxellaw04.PointTurnsAreAGroup', WHERE WHAT IT READS IS OF BULK AT MOST 1048576: true; the input reads as it did. -/
def pointTurnsAreAGroupUptoRow : OpenClaim := { program := "ytfpecoddgdcaaaadoor", sum := "68eb0d2ed3dcfc4a69316c1fb4628017b612c4f93bf52957df1ccde400586d2f", func := "voxel/voxellaw04.PointTurnsAreAGroup", spec := "pointTurnsAreAGroup", unfollowed := true, recurses := true, named := ["voxel/point.axes"], apart := false, laid := [("voxel/point.axes", laid_voxel_point_axes)], narrowed := true }
def PointTurnsAreAGroupUptoSaid : Prop := pointTurnsAreAGroupUptoRow.holds Tryd.pinned (OpenSpec.upto pointTurnsAreAGroupSpec)

/-- 'voxellaw04.PointTurnsKeep', WHERE WHAT IT READS IS OF BULK AT MOST 1048576: true; the input reads as it did. -/
def pointTurnsKeepUptoRow : OpenClaim := { program := "ytfpecoddgdcaaaadoor", sum := "68eb0d2ed3dcfc4a69316c1fb4628017b612c4f93bf52957df1ccde400586d2f", func := "voxel/voxellaw04.PointTurnsKeep", spec := "pointTurnsKeep", unfollowed := true, recurses := true, named := ["voxel/point.axes"], apart := false, laid := [("voxel/point.axes", laid_voxel_point_axes)], narrowed := true }
def PointTurnsKeepUptoSaid : Prop := pointTurnsKeepUptoRow.holds Tryd.pinned (OpenSpec.upto pointTurnsKeepSpec)

/-- 'voxellaw04.PointDistances', WHERE WHAT IT READS IS OF BULK AT MOST 1048576: true; the input reads as it did. -/
def pointDistancesUptoRow : OpenClaim := { program := "ytfpecoddgdcaaaadoor", sum := "68eb0d2ed3dcfc4a69316c1fb4628017b612c4f93bf52957df1ccde400586d2f", func := "voxel/voxellaw04.PointDistances", spec := "pointDistances", unfollowed := true, recurses := true, named := ["voxel/point.axes"], apart := false, laid := [("voxel/point.axes", laid_voxel_point_axes)], narrowed := true }
def PointDistancesUptoSaid : Prop := pointDistancesUptoRow.holds Tryd.pinned (OpenSpec.upto pointDistancesSpec)

/-- 'voxellaw04.PointIndices', WHERE WHAT IT READS IS OF BULK AT MOST 1048576: true; the input reads as it did. -/
def pointIndicesUptoRow : OpenClaim := { program := "ytfpecoddgdcaaaadoor", sum := "68eb0d2ed3dcfc4a69316c1fb4628017b612c4f93bf52957df1ccde400586d2f", func := "voxel/voxellaw04.PointIndices", spec := "pointIndices", unfollowed := true, recurses := true, named := ["voxel/point.axes"], apart := false, laid := [("voxel/point.axes", laid_voxel_point_axes)], narrowed := true }
def PointIndicesUptoSaid : Prop := pointIndicesUptoRow.holds Tryd.pinned (OpenSpec.upto pointIndicesSpec)

/-- 'voxellaw04.PointBoxesMatchSpec', WHERE WHAT IT READS IS OF BULK AT MOST 1048576: true; the input reads as it did. -/
def pointBoxesMatchSpecUptoRow : OpenClaim := { program := "ytfpecoddgdcaaaadoor", sum := "68eb0d2ed3dcfc4a69316c1fb4628017b612c4f93bf52957df1ccde400586d2f", func := "voxel/voxellaw04.PointBoxesMatchSpec", spec := "pointBoxesMatchSpec", unfollowed := true, recurses := true, named := ["voxel/point.axes"], apart := false, laid := [("voxel/point.axes", laid_voxel_point_axes)], narrowed := true }
def PointBoxesMatchSpecUptoSaid : Prop := pointBoxesMatchSpecUptoRow.holds Tryd.pinned (OpenSpec.upto pointBoxesMatchSpecSpec)

/-- 'voxellaw04.PointBoxesAreSets', WHERE WHAT IT READS IS OF BULK AT MOST 1048576: true; the input reads as it did. -/
def pointBoxesAreSetsUptoRow : OpenClaim := { program := "ytfpecoddgdcaaaadoor", sum := "68eb0d2ed3dcfc4a69316c1fb4628017b612c4f93bf52957df1ccde400586d2f", func := "voxel/voxellaw04.PointBoxesAreSets", spec := "pointBoxesAreSets", unfollowed := true, recurses := true, named := ["voxel/point.axes"], apart := false, laid := [("voxel/point.axes", laid_voxel_point_axes)], narrowed := true }
def PointBoxesAreSetsUptoSaid : Prop := pointBoxesAreSetsUptoRow.holds Tryd.pinned (OpenSpec.upto pointBoxesAreSetsSpec)

end Rows
end Go.Proofs.YtfpecoddgdcaaaaDoor
