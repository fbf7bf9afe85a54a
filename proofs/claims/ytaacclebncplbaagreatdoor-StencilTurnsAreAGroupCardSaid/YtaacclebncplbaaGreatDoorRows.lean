/-
  NARROWER THAN 'FOR EVERY INPUT', by the rows' own cells (each row's printed sentence says how): StencilCopiesAsSpecified: laid · StencilPatternsAsSpecified: laid · StencilGoesBack: laid · StencilTurnsAreAGroup: laid.
  DERIVED. THE GIVEN ROWS OF THIS SEAT. 4 by the template 'for every input the law returns true; each argument reads behind the call as it read before'; 0 by the template 'total and deterministic' (their statements: YtaacclebncplbaaGreatDoorTotals.lean).
  GIVEN WITH THE SEED: the statements are not yours to turn. If you find one false, say at which input.
  Laid BY PROGRAM, IN A SANDBOX (cutbox-rows.mjs): the forced cells as the released guide's own fill.sh prints them over the translation 6591c50f04fe7438… (all of the seat's roots in one cut). By AI agents, Wed Nov 11 2026. No macro, syntax, notation, axiom, sorry.
-/
import Derived.Test.YtaacclebncplbaaGreatDoorChecked
import GoSem.Claim
import GoSem.ClaimJoined
import GoSem.ClaimMapViews
import Derived.JoinedTies
import Derived.KernelRfl
namespace Go.Proofs.YtaacclebncplbaaGreatDoor
/- THE CELL 'sum', in the pinned program and in every row, IS THE sha256 OF THE DUMP (.gsa) THAT YtaacclebncplbaaGreatDoorProg.lean LOADS. Nothing in Lean hashes anything: it is a label: what it is worth is what the hold of that sum in a sandbox is worth. -/
noncomputable def Tryz.pinned : Pinned := { name := "ytaacclebncplbaagreatdoor", sum := "6591c50f04fe74384ccab8a76dbf82131e7c5f44e9bc8dbde4699b9591d90ee0", checked := Tryz.checked }
namespace Rows
def none {H : Type} : Left H := { results := [], args := [] }

/- WHAT THE LISTED PACKAGE-LEVEL VARIABLES READ AS WHEN THE CALL BEGINS. Each datum BY PROGRAM (the guide's laid-datum.mjs) off the statement by which the dump's own 'gosem.cut.vars' lays the variable. In a bare row this is a premise. The card (YtaacclebncplbaaGreatDoorCards.lean) ties it to the program's text. -/
def laid_voxel_point_axes {H : Type} : DataW H := .agg [.lit (.string [120, 121, 122]), .lit (.string [120, 122, 121]), .lit (.string [121, 120, 122]), .lit (.string [121, 122, 120]), .lit (.string [122, 120, 121]), .lit (.string [122, 121, 120])]

/-- 'voxellaw20.StencilCopiesAsSpecified': WHATEVER THE INPUT: true; the input reads as it did. -/
def stencilCopiesAsSpecifiedSpec : ChangeSpec := { name := "stencilCopiesAsSpecified", fn := fun _ => fun
  | [d1, d2, d3, d4, d5] => { results := [.lit (.bool true)], args := [d1, d2, d3, d4, d5] }
  | _ => none }
def stencilCopiesAsSpecifiedRow : OpenClaim := { program := "ytaacclebncplbaagreatdoor", sum := "6591c50f04fe74384ccab8a76dbf82131e7c5f44e9bc8dbde4699b9591d90ee0", func := "voxel/voxellaw20.StencilCopiesAsSpecified", spec := "stencilCopiesAsSpecified", unfollowed := true, recurses := true, named := ["voxel/point.axes"], apart := false, laid := [("voxel/point.axes", laid_voxel_point_axes)] }
def StencilCopiesAsSpecifiedSaid : Prop := stencilCopiesAsSpecifiedRow.holds Tryz.pinned (OpenSpec.ofChange stencilCopiesAsSpecifiedSpec)

/-- ITS FALSE NEIGHBOUR: 'it returns false'. Refute it at one input. -/
def stencilCopiesAsSpecifiedWrong : ChangeSpec := { name := "stencilCopiesAsSpecified", fn := fun _ => fun
  | [d1, d2, d3, d4, d5] => { results := [.lit (.bool false)], args := [d1, d2, d3, d4, d5] }
  | _ => none }
def StencilCopiesAsSpecifiedWrongFalsely : Prop := stencilCopiesAsSpecifiedRow.holds Tryz.pinned (OpenSpec.ofChange stencilCopiesAsSpecifiedWrong)

/-- 'voxellaw20.StencilPatternsAsSpecified': WHATEVER THE INPUT: true; the input reads as it did. -/
def stencilPatternsAsSpecifiedSpec : ChangeSpec := { name := "stencilPatternsAsSpecified", fn := fun _ => fun
  | [d1, d2] => { results := [.lit (.bool true)], args := [d1, d2] }
  | _ => none }
def stencilPatternsAsSpecifiedRow : OpenClaim := { program := "ytaacclebncplbaagreatdoor", sum := "6591c50f04fe74384ccab8a76dbf82131e7c5f44e9bc8dbde4699b9591d90ee0", func := "voxel/voxellaw20.StencilPatternsAsSpecified", spec := "stencilPatternsAsSpecified", unfollowed := true, recurses := true, named := ["voxel/point.axes"], apart := false, laid := [("voxel/point.axes", laid_voxel_point_axes)] }
def StencilPatternsAsSpecifiedSaid : Prop := stencilPatternsAsSpecifiedRow.holds Tryz.pinned (OpenSpec.ofChange stencilPatternsAsSpecifiedSpec)

/-- ITS FALSE NEIGHBOUR: 'it returns false'. Refute it at one input. -/
def stencilPatternsAsSpecifiedWrong : ChangeSpec := { name := "stencilPatternsAsSpecified", fn := fun _ => fun
  | [d1, d2] => { results := [.lit (.bool false)], args := [d1, d2] }
  | _ => none }
def StencilPatternsAsSpecifiedWrongFalsely : Prop := stencilPatternsAsSpecifiedRow.holds Tryz.pinned (OpenSpec.ofChange stencilPatternsAsSpecifiedWrong)

/-- 'voxellaw20.StencilGoesBack': WHATEVER THE INPUT: true; the input reads as it did. -/
def stencilGoesBackSpec : ChangeSpec := { name := "stencilGoesBack", fn := fun _ => fun
  | [d1, d2, d3] => { results := [.lit (.bool true)], args := [d1, d2, d3] }
  | _ => none }
def stencilGoesBackRow : OpenClaim := { program := "ytaacclebncplbaagreatdoor", sum := "6591c50f04fe74384ccab8a76dbf82131e7c5f44e9bc8dbde4699b9591d90ee0", func := "voxel/voxellaw20.StencilGoesBack", spec := "stencilGoesBack", unfollowed := true, recurses := true, named := ["voxel/point.axes"], apart := false, laid := [("voxel/point.axes", laid_voxel_point_axes)] }
def StencilGoesBackSaid : Prop := stencilGoesBackRow.holds Tryz.pinned (OpenSpec.ofChange stencilGoesBackSpec)

/-- ITS FALSE NEIGHBOUR: 'it returns false'. Refute it at one input. -/
def stencilGoesBackWrong : ChangeSpec := { name := "stencilGoesBack", fn := fun _ => fun
  | [d1, d2, d3] => { results := [.lit (.bool false)], args := [d1, d2, d3] }
  | _ => none }
def StencilGoesBackWrongFalsely : Prop := stencilGoesBackRow.holds Tryz.pinned (OpenSpec.ofChange stencilGoesBackWrong)

/-- 'voxellaw20.StencilTurnsAreAGroup': WHATEVER THE INPUT: true; the input reads as it did. -/
def stencilTurnsAreAGroupSpec : ChangeSpec := { name := "stencilTurnsAreAGroup", fn := fun _ => fun
  | [d1, d2, d3] => { results := [.lit (.bool true)], args := [d1, d2, d3] }
  | _ => none }
def stencilTurnsAreAGroupRow : OpenClaim := { program := "ytaacclebncplbaagreatdoor", sum := "6591c50f04fe74384ccab8a76dbf82131e7c5f44e9bc8dbde4699b9591d90ee0", func := "voxel/voxellaw20.StencilTurnsAreAGroup", spec := "stencilTurnsAreAGroup", unfollowed := true, recurses := true, named := ["voxel/point.axes"], apart := false, laid := [("voxel/point.axes", laid_voxel_point_axes)] }
def StencilTurnsAreAGroupSaid : Prop := stencilTurnsAreAGroupRow.holds Tryz.pinned (OpenSpec.ofChange stencilTurnsAreAGroupSpec)

/-- ITS FALSE NEIGHBOUR: 'it returns false'. Refute it at one input. -/
def stencilTurnsAreAGroupWrong : ChangeSpec := { name := "stencilTurnsAreAGroup", fn := fun _ => fun
  | [d1, d2, d3] => { results := [.lit (.bool false)], args := [d1, d2, d3] }
  | _ => none }
def StencilTurnsAreAGroupWrongFalsely : Prop := stencilTurnsAreAGroupRow.holds Tryz.pinned (OpenSpec.ofChange stencilTurnsAreAGroupWrong)

/- THE SECOND FORM. 'bulk': how many values and letters a reading holds, each counted each time it is reached (what is shared counts as often as it is met; a slice's spare places count too). A statement '..UptoSaid' is the law's where the arguments, and the package variables that the reading takes, are together of bulk at most 1048576: NARROWER than '..Said'. Prove '..Said' where nothing that the law and all that it calls make is longer than what came in: it says more and counts as full. Else prove '..UptoSaid'. A law counts once. -/
mutual
def uptoBulk {H : Type} : DataW H → Nat
  | .lit (.string bytes) => bytes.length + 1
  | .lit _ => 1
  | .nil => 1
  | .ptr d => uptoBulk d + 1
  | .slice elems spare => uptoBulkAll elems + uptoBulkAll spare + 1
  | .agg parts => uptoBulkAll parts + 1
  | .iface _ d => uptoBulk d + 1
  | .map entries => uptoBulkEntries entries + 1
  | .held _ => 1
def uptoBulkAll {H : Type} : List (DataW H) → Nat
  | [] => 0
  | d :: r => uptoBulk d + uptoBulkAll r
def uptoBulkEntries {H : Type} : List (Lit × DataW H) → Nat
  | [] => 0
  | x :: r => uptoBulkEntry x + uptoBulkEntries r
def uptoBulkEntry {H : Type} : Lit × DataW H → Nat
  | (.string bytes, d) => bytes.length + uptoBulk d + 1
  | (_, d) => uptoBulk d + 1
 end
def uptoSmall : (H : Type) → List (DataW H) → Bool := fun _ ds => decide (uptoBulkAll ds ≤ 1048576)
def OpenSpec.upto (s : _root_.Go.ChangeSpec) : _root_.Go.OpenSpec := { _root_.Go.OpenSpec.ofChange s with cond := some uptoSmall }

/-- 'voxellaw20.StencilCopiesAsSpecified', WHERE WHAT IT READS IS OF BULK AT MOST 1048576: true; the input reads as it did. -/
def stencilCopiesAsSpecifiedUptoRow : OpenClaim := { program := "ytaacclebncplbaagreatdoor", sum := "6591c50f04fe74384ccab8a76dbf82131e7c5f44e9bc8dbde4699b9591d90ee0", func := "voxel/voxellaw20.StencilCopiesAsSpecified", spec := "stencilCopiesAsSpecified", unfollowed := true, recurses := true, named := ["voxel/point.axes"], apart := false, laid := [("voxel/point.axes", laid_voxel_point_axes)], narrowed := true }
def StencilCopiesAsSpecifiedUptoSaid : Prop := stencilCopiesAsSpecifiedUptoRow.holds Tryz.pinned (OpenSpec.upto stencilCopiesAsSpecifiedSpec)

/-- 'voxellaw20.StencilPatternsAsSpecified', WHERE WHAT IT READS IS OF BULK AT MOST 1048576: true; the input reads as it did. -/
def stencilPatternsAsSpecifiedUptoRow : OpenClaim := { program := "ytaacclebncplbaagreatdoor", sum := "6591c50f04fe74384ccab8a76dbf82131e7c5f44e9bc8dbde4699b9591d90ee0", func := "voxel/voxellaw20.StencilPatternsAsSpecified", spec := "stencilPatternsAsSpecified", unfollowed := true, recurses := true, named := ["voxel/point.axes"], apart := false, laid := [("voxel/point.axes", laid_voxel_point_axes)], narrowed := true }
def StencilPatternsAsSpecifiedUptoSaid : Prop := stencilPatternsAsSpecifiedUptoRow.holds Tryz.pinned (OpenSpec.upto stencilPatternsAsSpecifiedSpec)

/-- 'voxellaw20.StencilGoesBack', WHERE WHAT IT READS IS OF BULK AT MOST 1048576: true; the input reads as it did. -/
def stencilGoesBackUptoRow : OpenClaim := { program := "ytaacclebncplbaagreatdoor", sum := "6591c50f04fe74384ccab8a76dbf82131e7c5f44e9bc8dbde4699b9591d90ee0", func := "voxel/voxellaw20.StencilGoesBack", spec := "stencilGoesBack", unfollowed := true, recurses := true, named := ["voxel/point.axes"], apart := false, laid := [("voxel/point.axes", laid_voxel_point_axes)], narrowed := true }
def StencilGoesBackUptoSaid : Prop := stencilGoesBackUptoRow.holds Tryz.pinned (OpenSpec.upto stencilGoesBackSpec)

/-- 'voxellaw20.StencilTurnsAreAGroup', WHERE WHAT IT READS IS OF BULK AT MOST 1048576: true; the input reads as it did. -/
def stencilTurnsAreAGroupUptoRow : OpenClaim := { program := "ytaacclebncplbaagreatdoor", sum := "6591c50f04fe74384ccab8a76dbf82131e7c5f44e9bc8dbde4699b9591d90ee0", func := "voxel/voxellaw20.StencilTurnsAreAGroup", spec := "stencilTurnsAreAGroup", unfollowed := true, recurses := true, named := ["voxel/point.axes"], apart := false, laid := [("voxel/point.axes", laid_voxel_point_axes)], narrowed := true }
def StencilTurnsAreAGroupUptoSaid : Prop := stencilTurnsAreAGroupUptoRow.holds Tryz.pinned (OpenSpec.upto stencilTurnsAreAGroupSpec)

end Rows
end Go.Proofs.YtaacclebncplbaaGreatDoor
