/-
  NARROWER THAN 'FOR EVERY INPUT', by the rows' own cells (each row's printed sentence says how): GridMakes: laid · GridKeepsTheRest: laid · GridPastes: laid · GridTurns: laid · GridCrops: laid · GridVisitsAll: laid.
  DERIVED. THE GIVEN ROWS OF THIS SEAT. 6 by the template 'for every input the law returns true; each argument reads behind the call as it read before'; 0 by the template 'total and deterministic' (their statements: YtleapeclbkclaaaDoorTotals.lean).
  GIVEN WITH THE SEED: the statements are not yours to turn. If you find one false, say at which input.
  Laid BY PROGRAM, IN A SANDBOX (cutbox-rows.mjs): the forced cells as the released guide's own fill.sh prints them over the translation a9ea3bd6374b8211… (all of the seat's roots in one cut). By AI agents, Wed Nov 11 2026. No macro, syntax, notation, axiom, sorry.
-/
import Derived.Test.YtleapeclbkclaaaDoorChecked
import GoSem.Claim
import GoSem.ClaimJoined
import GoSem.ClaimMapViews
import Derived.JoinedTies
import Derived.KernelRfl
namespace Go.Proofs.YtleapeclbkclaaaDoor
/- THE CELL 'sum', in the pinned program and in every row, IS THE sha256 OF THE DUMP (.gsa) THAT YtleapeclbkclaaaDoorProg.lean LOADS. Nothing in Lean hashes anything: it is a label: what it is worth is what the hold of that sum in a sandbox is worth. -/
noncomputable def Tryd.pinned : Pinned := { name := "ytleapeclbkclaaadoor", sum := "a9ea3bd6374b82119c0792d9a61389de44156dbfb4f2dc728746100e0bcf9871", checked := Tryd.checked }
namespace Rows
def none {H : Type} : Left H := { results := [], args := [] }

/- WHAT THE LISTED PACKAGE-LEVEL VARIABLES READ AS WHEN THE CALL BEGINS. Each datum BY PROGRAM (the guide's laid-datum.mjs) off the statement by which the dump's own 'gosem.cut.vars' lays the variable. In a bare row this is a premise. The card (YtleapeclbkclaaaDoorCards.lean) ties it to the program's text. -/
def laid_voxel_point_axes {H : Type} : DataW H := .agg [.lit (.string [120, 121, 122]), .lit (.string [120, 122, 121]), .lit (.string [121, 120, 122]), .lit (.string [121, 122, 120]), .lit (.string [122, 120, 121]), .lit (.string [122, 121, 120])]

/-- 'voxellaw07.GridMakes': WHATEVER THE INPUT: true; the input reads as it did. -/
def gridMakesSpec : ChangeSpec := { name := "gridMakes", fn := fun _ => fun
  | [d1, d2, d3] => { results := [.lit (.bool true)], args := [d1, d2, d3] }
  | _ => none }
def gridMakesRow : OpenClaim := { program := "ytleapeclbkclaaadoor", sum := "a9ea3bd6374b82119c0792d9a61389de44156dbfb4f2dc728746100e0bcf9871", func := "voxel/voxellaw07.GridMakes", spec := "gridMakes", unfollowed := true, recurses := true, named := ["voxel/point.axes"], apart := false, laid := [("voxel/point.axes", laid_voxel_point_axes)] }
def GridMakesSaid : Prop := gridMakesRow.holds Tryd.pinned (OpenSpec.ofChange gridMakesSpec)

/-- ITS FALSE NEIGHBOUR: 'it returns false'. Refute it at one input. -/
def gridMakesWrong : ChangeSpec := { name := "gridMakes", fn := fun _ => fun
  | [d1, d2, d3] => { results := [.lit (.bool false)], args := [d1, d2, d3] }
  | _ => none }
def GridMakesWrongFalsely : Prop := gridMakesRow.holds Tryd.pinned (OpenSpec.ofChange gridMakesWrong)

/-- 'voxellaw07.GridKeepsTheRest': WHATEVER THE INPUT: true; the input reads as it did. -/
def gridKeepsTheRestSpec : ChangeSpec := { name := "gridKeepsTheRest", fn := fun _ => fun
  | [d1, d2, d3, d4] => { results := [.lit (.bool true)], args := [d1, d2, d3, d4] }
  | _ => none }
def gridKeepsTheRestRow : OpenClaim := { program := "ytleapeclbkclaaadoor", sum := "a9ea3bd6374b82119c0792d9a61389de44156dbfb4f2dc728746100e0bcf9871", func := "voxel/voxellaw07.GridKeepsTheRest", spec := "gridKeepsTheRest", unfollowed := true, recurses := true, named := ["voxel/point.axes"], apart := false, laid := [("voxel/point.axes", laid_voxel_point_axes)] }
def GridKeepsTheRestSaid : Prop := gridKeepsTheRestRow.holds Tryd.pinned (OpenSpec.ofChange gridKeepsTheRestSpec)

/-- ITS FALSE NEIGHBOUR: 'it returns false'. Refute it at one input. -/
def gridKeepsTheRestWrong : ChangeSpec := { name := "gridKeepsTheRest", fn := fun _ => fun
  | [d1, d2, d3, d4] => { results := [.lit (.bool false)], args := [d1, d2, d3, d4] }
  | _ => none }
def GridKeepsTheRestWrongFalsely : Prop := gridKeepsTheRestRow.holds Tryd.pinned (OpenSpec.ofChange gridKeepsTheRestWrong)

/-- 'voxellaw07.GridPastes': WHATEVER THE INPUT: true; the input reads as it did. -/
def gridPastesSpec : ChangeSpec := { name := "gridPastes", fn := fun _ => fun
  | [d1, d2, d3] => { results := [.lit (.bool true)], args := [d1, d2, d3] }
  | _ => none }
def gridPastesRow : OpenClaim := { program := "ytleapeclbkclaaadoor", sum := "a9ea3bd6374b82119c0792d9a61389de44156dbfb4f2dc728746100e0bcf9871", func := "voxel/voxellaw07.GridPastes", spec := "gridPastes", unfollowed := true, recurses := true, named := ["voxel/point.axes"], apart := false, laid := [("voxel/point.axes", laid_voxel_point_axes)] }
def GridPastesSaid : Prop := gridPastesRow.holds Tryd.pinned (OpenSpec.ofChange gridPastesSpec)

/-- ITS FALSE NEIGHBOUR: 'it returns false'. Refute it at one input. -/
def gridPastesWrong : ChangeSpec := { name := "gridPastes", fn := fun _ => fun
  | [d1, d2, d3] => { results := [.lit (.bool false)], args := [d1, d2, d3] }
  | _ => none }
def GridPastesWrongFalsely : Prop := gridPastesRow.holds Tryd.pinned (OpenSpec.ofChange gridPastesWrong)

/-- 'voxellaw07.GridTurns': WHATEVER THE INPUT: true; the input reads as it did. -/
def gridTurnsSpec : ChangeSpec := { name := "gridTurns", fn := fun _ => fun
  | [d1, d2, d3, d4] => { results := [.lit (.bool true)], args := [d1, d2, d3, d4] }
  | _ => none }
def gridTurnsRow : OpenClaim := { program := "ytleapeclbkclaaadoor", sum := "a9ea3bd6374b82119c0792d9a61389de44156dbfb4f2dc728746100e0bcf9871", func := "voxel/voxellaw07.GridTurns", spec := "gridTurns", unfollowed := true, recurses := true, named := ["voxel/point.axes"], apart := false, laid := [("voxel/point.axes", laid_voxel_point_axes)] }
def GridTurnsSaid : Prop := gridTurnsRow.holds Tryd.pinned (OpenSpec.ofChange gridTurnsSpec)

/-- ITS FALSE NEIGHBOUR: 'it returns false'. Refute it at one input. -/
def gridTurnsWrong : ChangeSpec := { name := "gridTurns", fn := fun _ => fun
  | [d1, d2, d3, d4] => { results := [.lit (.bool false)], args := [d1, d2, d3, d4] }
  | _ => none }
def GridTurnsWrongFalsely : Prop := gridTurnsRow.holds Tryd.pinned (OpenSpec.ofChange gridTurnsWrong)

/-- 'voxellaw07.GridCrops': WHATEVER THE INPUT: true; the input reads as it did. -/
def gridCropsSpec : ChangeSpec := { name := "gridCrops", fn := fun _ => fun
  | [d1, d2, d3, d4] => { results := [.lit (.bool true)], args := [d1, d2, d3, d4] }
  | _ => none }
def gridCropsRow : OpenClaim := { program := "ytleapeclbkclaaadoor", sum := "a9ea3bd6374b82119c0792d9a61389de44156dbfb4f2dc728746100e0bcf9871", func := "voxel/voxellaw07.GridCrops", spec := "gridCrops", unfollowed := true, recurses := true, named := ["voxel/point.axes"], apart := false, laid := [("voxel/point.axes", laid_voxel_point_axes)] }
def GridCropsSaid : Prop := gridCropsRow.holds Tryd.pinned (OpenSpec.ofChange gridCropsSpec)

/-- ITS FALSE NEIGHBOUR: 'it returns false'. Refute it at one input. -/
def gridCropsWrong : ChangeSpec := { name := "gridCrops", fn := fun _ => fun
  | [d1, d2, d3, d4] => { results := [.lit (.bool false)], args := [d1, d2, d3, d4] }
  | _ => none }
def GridCropsWrongFalsely : Prop := gridCropsRow.holds Tryd.pinned (OpenSpec.ofChange gridCropsWrong)

/-- 'voxellaw07.GridVisitsAll': WHATEVER THE INPUT: true; the input reads as it did. -/
def gridVisitsAllSpec : ChangeSpec := { name := "gridVisitsAll", fn := fun _ => fun
  | [d1, d2] => { results := [.lit (.bool true)], args := [d1, d2] }
  | _ => none }
def gridVisitsAllRow : OpenClaim := { program := "ytleapeclbkclaaadoor", sum := "a9ea3bd6374b82119c0792d9a61389de44156dbfb4f2dc728746100e0bcf9871", func := "voxel/voxellaw07.GridVisitsAll", spec := "gridVisitsAll", unfollowed := true, recurses := true, named := ["voxel/point.axes"], apart := false, laid := [("voxel/point.axes", laid_voxel_point_axes)] }
def GridVisitsAllSaid : Prop := gridVisitsAllRow.holds Tryd.pinned (OpenSpec.ofChange gridVisitsAllSpec)

/-- ITS FALSE NEIGHBOUR: 'it returns false'. Refute it at one input. -/
def gridVisitsAllWrong : ChangeSpec := { name := "gridVisitsAll", fn := fun _ => fun
  | [d1, d2] => { results := [.lit (.bool false)], args := [d1, d2] }
  | _ => none }
def GridVisitsAllWrongFalsely : Prop := gridVisitsAllRow.holds Tryd.pinned (OpenSpec.ofChange gridVisitsAllWrong)

/- THE SECOND FORM. 'bulk': how many values and letters a reading holds, each counted each time it is reached (what is shared counts as often as it is met; a slice's spare places count too). A statement '..UptoSaid' is the law's where the arguments, and the package variables that the reading takes, are together of bulk at most 1048576: NARROWER than '..Said'. Prove '..Said' where nothing that the law and all that it calls make is longer than what came in: it says more and counts as full. Else prove '..UptoSaid'. A law counts once. -/
mutual
def uptoBulk {H : Type} : DataW H → Nat
  | .lit (.string bytes) => bytes.length + 1
  | .lit _ => 1
  | .nil => 1
  | .ptr d => uptoBulk d + 1
  | .slice elems spare => uptoBulkAll elems + uptoBulkAll spare + 1
  | .agg parts => uptoBulkAll parts + 1
  | .iface _ d => uptoBulk d + 1
  | .map entries => uptoBulkEntries entries + 1
  | .held _ => 1
def uptoBulkAll {H : Type} : List (DataW H) → Nat
  | [] => 0
  | d :: r => uptoBulk d + uptoBulkAll r
def uptoBulkEntries {H : Type} : List (Lit × DataW H) → Nat
  | [] => 0
  | x :: r => uptoBulkEntry x + uptoBulkEntries r
def uptoBulkEntry {H : Type} : Lit × DataW H → Nat
  | (.string bytes, d) => bytes.length + uptoBulk d + 1
  | (_, d) => uptoBulk d + 1
 end
def uptoSmall : (H : Type) → List (DataW H) → Bool := fun _ ds => decide (uptoBulkAll ds ≤ 1048576)
def OpenSpec.upto (s : _root_.Go.ChangeSpec) : _root_.Go.OpenSpec := { _root_.Go.OpenSpec.ofChange s with cond := some uptoSmall }

/-- 'voxellaw07.GridMakes', WHERE WHAT IT READS IS OF BULK AT MOST 1048576: true; the input reads as it did. -/
def gridMakesUptoRow : OpenClaim := { program := "ytleapeclbkclaaadoor", sum := "a9ea3bd6374b82119c0792d9a61389de44156dbfb4f2dc728746100e0bcf9871", func := "voxel/voxellaw07.GridMakes", spec := "gridMakes", unfollowed := true, recurses := true, named := ["voxel/point.axes"], apart := false, laid := [("voxel/point.axes", laid_voxel_point_axes)], narrowed := true }
def GridMakesUptoSaid : Prop := gridMakesUptoRow.holds Tryd.pinned (OpenSpec.upto gridMakesSpec)

/-- 'voxellaw07.GridKeepsTheRest', WHERE WHAT IT READS IS OF BULK AT MOST 1048576: true; the input reads as it did. -/
def gridKeepsTheRestUptoRow : OpenClaim := { program := "ytleapeclbkclaaadoor", sum := "a9ea3bd6374b82119c0792d9a61389de44156dbfb4f2dc728746100e0bcf9871", func := "voxel/voxellaw07.GridKeepsTheRest", spec := "gridKeepsTheRest", unfollowed := true, recurses := true, named := ["voxel/point.axes"], apart := false, laid := [("voxel/point.axes", laid_voxel_point_axes)], narrowed := true }
def GridKeepsTheRestUptoSaid : Prop := gridKeepsTheRestUptoRow.holds Tryd.pinned (OpenSpec.upto gridKeepsTheRestSpec)

/-- 'voxellaw07.GridPastes', WHERE WHAT IT READS IS OF BULK AT MOST 1048576: true; the input reads as it did. -/
def gridPastesUptoRow : OpenClaim := { program := "ytleapeclbkclaaadoor", sum := "a9ea3bd6374b82119c0792d9a61389de44156dbfb4f2dc728746100e0bcf9871", func := "voxel/voxellaw07.GridPastes", spec := "gridPastes", unfollowed := true, recurses := true, named := ["voxel/point.axes"], apart := false, laid := [("voxel/point.axes", laid_voxel_point_axes)], narrowed := true }
def GridPastesUptoSaid : Prop := gridPastesUptoRow.holds Tryd.pinned (OpenSpec.upto gridPastesSpec)

/-- 'voxellaw07.GridTurns', WHERE WHAT IT READS IS OF BULK AT MOST 1048576: true; the input reads as it did. -/
def gridTurnsUptoRow : OpenClaim := { program := "ytleapeclbkclaaadoor", sum := "a9ea3bd6374b82119c0792d9a61389de44156dbfb4f2dc728746100e0bcf9871", func := "voxel/voxellaw07.GridTurns", spec := "gridTurns", unfollowed := true, recurses := true, named := ["voxel/point.axes"], apart := false, laid := [("voxel/point.axes", laid_voxel_point_axes)], narrowed := true }
def GridTurnsUptoSaid : Prop := gridTurnsUptoRow.holds Tryd.pinned (OpenSpec.upto gridTurnsSpec)

/-- 'voxellaw07.GridCrops', WHERE WHAT IT READS IS OF BULK AT MOST 1048576: true; the input reads as it did. -/
def gridCropsUptoRow : OpenClaim := { program := "ytleapeclbkclaaadoor", sum := "a9ea3bd6374b82119c0792d9a61389de44156dbfb4f2dc728746100e0bcf9871", func := "voxel/voxellaw07.GridCrops", spec := "gridCrops", unfollowed := true, recurses := true, named := ["voxel/point.axes"], apart := false, laid := [("voxel/point.axes", laid_voxel_point_axes)], narrowed := true }
def GridCropsUptoSaid : Prop := gridCropsUptoRow.holds Tryd.pinned (OpenSpec.upto gridCropsSpec)

/-- 'voxellaw07.GridVisitsAll', WHERE WHAT IT READS IS OF BULK AT MOST 1048576: true; the input reads as it did. -/
def gridVisitsAllUptoRow : OpenClaim := { program := "ytleapeclbkclaaadoor", sum := "a9ea3bd6374b82119c0792d9a61389de44156dbfb4f2dc728746100e0bcf9871", func := "voxel/voxellaw07.GridVisitsAll", spec := "gridVisitsAll", unfollowed := true, recurses := true, named := ["voxel/point.axes"], apart := false, laid := [("voxel/point.axes", laid_voxel_point_axes)], narrowed := true }
def GridVisitsAllUptoSaid : Prop := gridVisitsAllUptoRow.holds Tryd.pinned (OpenSpec.upto gridVisitsAllSpec)

end Rows
end Go.Proofs.YtleapeclbkclaaaDoor
