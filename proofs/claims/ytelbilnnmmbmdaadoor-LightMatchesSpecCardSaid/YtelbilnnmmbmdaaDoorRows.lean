/-
  NARROWER THAN 'FOR EVERY INPUT', by the rows' own cells (each row's printed sentence says how): LightMatchesSpec: laid · LightStepMatchesSpec: laid · LightIsLeast: laid · LightStepIsMonotone: laid · LightGrows: laid · LightMirrors: laid.
  DERIVED. THE GIVEN ROWS OF THIS SEAT. 6 by the template 'for every input the law returns true; each argument reads behind the call as it read before'; 0 by the template 'total and deterministic' (their statements: YtelbilnnmmbmdaaDoorTotals.lean).
  GIVEN WITH THE SEED: the statements are not yours to turn. If you find one false, say at which input.
  Laid BY PROGRAM, IN A SANDBOX (cutbox-rows.mjs): the forced cells as the released guide's own fill.sh prints them over the translation 935cefaa3a52d9e0… (all of the seat's roots in one cut). By AI agents, Wed Nov 11 2026. No macro, syntax, notation, axiom, sorry.
-/
import Derived.Test.YtelbilnnmmbmdaaDoorChecked
import GoSem.Claim
import GoSem.ClaimJoined
import GoSem.ClaimMapViews
import Derived.JoinedTies
import Derived.KernelRfl
namespace Go.Proofs.YtelbilnnmmbmdaaDoor
/- THE CELL 'sum', in the pinned program and in every row, IS THE sha256 OF THE DUMP (.gsa) THAT YtelbilnnmmbmdaaDoorProg.lean LOADS. Nothing in Lean hashes anything: it is a label: what it is worth is what the hold of that sum in a sandbox is worth. -/
noncomputable def Tryd.pinned : Pinned := { name := "ytelbilnnmmbmdaadoor", sum := "935cefaa3a52d9e0f5d68b80d81fe211fc554b73f4234a127e7f14834153b0ef", checked := Tryd.checked }
namespace Rows
def none {H : Type} : Left H := { results := [], args := [] }

/- WHAT THE LISTED PACKAGE-LEVEL VARIABLES READ AS WHEN THE CALL BEGINS. Each datum BY PROGRAM (the guide's laid-datum.mjs) off the statement by which the dump's own 'gosem.cut.vars' lays the variable. In a bare row this is a premise. The card (YtelbilnnmmbmdaaDoorCards.lean) ties it to the program's text. -/
def laid_voxel_material_kinds {H : Type} : DataW H := .agg [.agg [.lit (.string [103, 97, 115]), .lit (.bool false), .lit (.bool false), .lit (.bool false)], .agg [.lit (.string [115, 111, 108, 105, 100]), .lit (.bool true), .lit (.bool false), .lit (.bool false)], .agg [.lit (.string [102, 97, 108, 108, 105, 110, 103]), .lit (.bool true), .lit (.bool false), .lit (.bool true)], .agg [.lit (.string [108, 105, 113, 117, 105, 100]), .lit (.bool false), .lit (.bool true), .lit (.bool false)]]
def laid_voxel_light_steps {H : Type} : DataW H := .agg [.agg [.lit (.int .i64 (-1)), .lit (.int .i64 0), .lit (.int .i64 0)], .agg [.lit (.int .i64 1), .lit (.int .i64 0), .lit (.int .i64 0)], .agg [.lit (.int .i64 0), .lit (.int .i64 (-1)), .lit (.int .i64 0)], .agg [.lit (.int .i64 0), .lit (.int .i64 1), .lit (.int .i64 0)], .agg [.lit (.int .i64 0), .lit (.int .i64 0), .lit (.int .i64 (-1))], .agg [.lit (.int .i64 0), .lit (.int .i64 0), .lit (.int .i64 1)]]

/-- 'voxellaw33.LightMatchesSpec': WHATEVER THE INPUT: true; the input reads as it did. -/
def lightMatchesSpecSpec : ChangeSpec := { name := "lightMatchesSpec", fn := fun _ => fun
  | [d1, d2, d3] => { results := [.lit (.bool true)], args := [d1, d2, d3] }
  | _ => none }
def lightMatchesSpecRow : OpenClaim := { program := "ytelbilnnmmbmdaadoor", sum := "935cefaa3a52d9e0f5d68b80d81fe211fc554b73f4234a127e7f14834153b0ef", func := "voxel/voxellaw33.LightMatchesSpec", spec := "lightMatchesSpec", unfollowed := true, recurses := true, named := ["voxel/material.kinds", "voxel/light.steps"], apart := false, laid := [("voxel/material.kinds", laid_voxel_material_kinds), ("voxel/light.steps", laid_voxel_light_steps)] }
def LightMatchesSpecSaid : Prop := lightMatchesSpecRow.holds Tryd.pinned (OpenSpec.ofChange lightMatchesSpecSpec)

/-- ITS FALSE NEIGHBOUR: 'it returns false'. Refute it at one input. -/
def lightMatchesSpecWrong : ChangeSpec := { name := "lightMatchesSpec", fn := fun _ => fun
  | [d1, d2, d3] => { results := [.lit (.bool false)], args := [d1, d2, d3] }
  | _ => none }
def LightMatchesSpecWrongFalsely : Prop := lightMatchesSpecRow.holds Tryd.pinned (OpenSpec.ofChange lightMatchesSpecWrong)

/-- 'voxellaw33.LightStepMatchesSpec': WHATEVER THE INPUT: true; the input reads as it did. -/
def lightStepMatchesSpecSpec : ChangeSpec := { name := "lightStepMatchesSpec", fn := fun _ => fun
  | [d1, d2, d3, d4, d5] => { results := [.lit (.bool true)], args := [d1, d2, d3, d4, d5] }
  | _ => none }
def lightStepMatchesSpecRow : OpenClaim := { program := "ytelbilnnmmbmdaadoor", sum := "935cefaa3a52d9e0f5d68b80d81fe211fc554b73f4234a127e7f14834153b0ef", func := "voxel/voxellaw33.LightStepMatchesSpec", spec := "lightStepMatchesSpec", unfollowed := true, recurses := true, named := ["voxel/material.kinds", "voxel/light.steps"], apart := false, laid := [("voxel/material.kinds", laid_voxel_material_kinds), ("voxel/light.steps", laid_voxel_light_steps)] }
def LightStepMatchesSpecSaid : Prop := lightStepMatchesSpecRow.holds Tryd.pinned (OpenSpec.ofChange lightStepMatchesSpecSpec)

/-- ITS FALSE NEIGHBOUR: 'it returns false'. Refute it at one input. -/
def lightStepMatchesSpecWrong : ChangeSpec := { name := "lightStepMatchesSpec", fn := fun _ => fun
  | [d1, d2, d3, d4, d5] => { results := [.lit (.bool false)], args := [d1, d2, d3, d4, d5] }
  | _ => none }
def LightStepMatchesSpecWrongFalsely : Prop := lightStepMatchesSpecRow.holds Tryd.pinned (OpenSpec.ofChange lightStepMatchesSpecWrong)

/-- 'voxellaw33.LightIsLeast': WHATEVER THE INPUT: true; the input reads as it did. -/
def lightIsLeastSpec : ChangeSpec := { name := "lightIsLeast", fn := fun _ => fun
  | [d1, d2, d3, d4] => { results := [.lit (.bool true)], args := [d1, d2, d3, d4] }
  | _ => none }
def lightIsLeastRow : OpenClaim := { program := "ytelbilnnmmbmdaadoor", sum := "935cefaa3a52d9e0f5d68b80d81fe211fc554b73f4234a127e7f14834153b0ef", func := "voxel/voxellaw33.LightIsLeast", spec := "lightIsLeast", unfollowed := true, recurses := true, named := ["voxel/material.kinds", "voxel/light.steps"], apart := false, laid := [("voxel/material.kinds", laid_voxel_material_kinds), ("voxel/light.steps", laid_voxel_light_steps)] }
def LightIsLeastSaid : Prop := lightIsLeastRow.holds Tryd.pinned (OpenSpec.ofChange lightIsLeastSpec)

/-- ITS FALSE NEIGHBOUR: 'it returns false'. Refute it at one input. -/
def lightIsLeastWrong : ChangeSpec := { name := "lightIsLeast", fn := fun _ => fun
  | [d1, d2, d3, d4] => { results := [.lit (.bool false)], args := [d1, d2, d3, d4] }
  | _ => none }
def LightIsLeastWrongFalsely : Prop := lightIsLeastRow.holds Tryd.pinned (OpenSpec.ofChange lightIsLeastWrong)

/-- 'voxellaw33.LightStepIsMonotone': WHATEVER THE INPUT: true; the input reads as it did. -/
def lightStepIsMonotoneSpec : ChangeSpec := { name := "lightStepIsMonotone", fn := fun _ => fun
  | [d1, d2, d3, d4, d5] => { results := [.lit (.bool true)], args := [d1, d2, d3, d4, d5] }
  | _ => none }
def lightStepIsMonotoneRow : OpenClaim := { program := "ytelbilnnmmbmdaadoor", sum := "935cefaa3a52d9e0f5d68b80d81fe211fc554b73f4234a127e7f14834153b0ef", func := "voxel/voxellaw33.LightStepIsMonotone", spec := "lightStepIsMonotone", unfollowed := true, recurses := true, named := ["voxel/material.kinds", "voxel/light.steps"], apart := false, laid := [("voxel/material.kinds", laid_voxel_material_kinds), ("voxel/light.steps", laid_voxel_light_steps)] }
def LightStepIsMonotoneSaid : Prop := lightStepIsMonotoneRow.holds Tryd.pinned (OpenSpec.ofChange lightStepIsMonotoneSpec)

/-- ITS FALSE NEIGHBOUR: 'it returns false'. Refute it at one input. -/
def lightStepIsMonotoneWrong : ChangeSpec := { name := "lightStepIsMonotone", fn := fun _ => fun
  | [d1, d2, d3, d4, d5] => { results := [.lit (.bool false)], args := [d1, d2, d3, d4, d5] }
  | _ => none }
def LightStepIsMonotoneWrongFalsely : Prop := lightStepIsMonotoneRow.holds Tryd.pinned (OpenSpec.ofChange lightStepIsMonotoneWrong)

/-- 'voxellaw33.LightGrows': WHATEVER THE INPUT: true; the input reads as it did. -/
def lightGrowsSpec : ChangeSpec := { name := "lightGrows", fn := fun _ => fun
  | [d1, d2, d3, d4, d5] => { results := [.lit (.bool true)], args := [d1, d2, d3, d4, d5] }
  | _ => none }
def lightGrowsRow : OpenClaim := { program := "ytelbilnnmmbmdaadoor", sum := "935cefaa3a52d9e0f5d68b80d81fe211fc554b73f4234a127e7f14834153b0ef", func := "voxel/voxellaw33.LightGrows", spec := "lightGrows", unfollowed := true, recurses := true, named := ["voxel/material.kinds", "voxel/light.steps"], apart := false, laid := [("voxel/material.kinds", laid_voxel_material_kinds), ("voxel/light.steps", laid_voxel_light_steps)] }
def LightGrowsSaid : Prop := lightGrowsRow.holds Tryd.pinned (OpenSpec.ofChange lightGrowsSpec)

/-- ITS FALSE NEIGHBOUR: 'it returns false'. Refute it at one input. -/
def lightGrowsWrong : ChangeSpec := { name := "lightGrows", fn := fun _ => fun
  | [d1, d2, d3, d4, d5] => { results := [.lit (.bool false)], args := [d1, d2, d3, d4, d5] }
  | _ => none }
def LightGrowsWrongFalsely : Prop := lightGrowsRow.holds Tryd.pinned (OpenSpec.ofChange lightGrowsWrong)

/-- 'voxellaw33.LightMirrors': WHATEVER THE INPUT: true; the input reads as it did. -/
def lightMirrorsSpec : ChangeSpec := { name := "lightMirrors", fn := fun _ => fun
  | [d1, d2, d3] => { results := [.lit (.bool true)], args := [d1, d2, d3] }
  | _ => none }
def lightMirrorsRow : OpenClaim := { program := "ytelbilnnmmbmdaadoor", sum := "935cefaa3a52d9e0f5d68b80d81fe211fc554b73f4234a127e7f14834153b0ef", func := "voxel/voxellaw33.LightMirrors", spec := "lightMirrors", unfollowed := true, recurses := true, named := ["voxel/material.kinds", "voxel/light.steps"], apart := false, laid := [("voxel/material.kinds", laid_voxel_material_kinds), ("voxel/light.steps", laid_voxel_light_steps)] }
def LightMirrorsSaid : Prop := lightMirrorsRow.holds Tryd.pinned (OpenSpec.ofChange lightMirrorsSpec)

/-- ITS FALSE NEIGHBOUR: 'it returns false'. Refute it at one input. -/
def lightMirrorsWrong : ChangeSpec := { name := "lightMirrors", fn := fun _ => fun
  | [d1, d2, d3] => { results := [.lit (.bool false)], args := [d1, d2, d3] }
  | _ => none }
def LightMirrorsWrongFalsely : Prop := lightMirrorsRow.holds Tryd.pinned (OpenSpec.ofChange lightMirrorsWrong)

/- THE SECOND FORM. 'bulk': how many values and letters a reading holds, each counted each time it is reached (what is shared counts as often as it is met; a slice's spare places count too). A statement '..UptoSaid' is the law's where the arguments, and the package variables that the reading takes, are together of bulk at most 1048576: NARROWER than '..Said'. Prove '..Said' where nothing that the law and all that it calls make is longer than what came in: it says more and counts as full. Else prove '..UptoSaid'. A law counts once. -/
mutual
def uptoBulk {H : Type} : DataW H → Nat
  | .lit (.string bytes) => bytes.length + 1
  | .lit _ => 1
  | .nil => 1
  | .ptr d => uptoBulk d + 1
  | .slice elems spare => uptoBulkAll elems + uptoBulkAll spare + 1
  | .agg parts => uptoBulkAll parts + 1
  | .iface _ d => uptoBulk d + 1
  | .map entries => uptoBulkEntries entries + 1
  | .held _ => 1
def uptoBulkAll {H : Type} : List (DataW H) → Nat
  | [] => 0
  | d :: r => uptoBulk d + uptoBulkAll r
def uptoBulkEntries {H : Type} : List (Lit × DataW H) → Nat
  | [] => 0
  | x :: r => uptoBulkEntry x + uptoBulkEntries r
def uptoBulkEntry {H : Type} : Lit × DataW H → Nat
  | (.string bytes, d) => bytes.length + uptoBulk d + 1
  | (_, d) => uptoBulk d + 1
 end
def uptoSmall : (H : Type) → List (DataW H) → Bool := fun _ ds => decide (uptoBulkAll ds ≤ 1048576)
def OpenSpec.upto (s : _root_.Go.ChangeSpec) : _root_.Go.OpenSpec := { _root_.Go.OpenSpec.ofChange s with cond := some uptoSmall }

/-- 'voxellaw33.LightMatchesSpec', WHERE WHAT IT READS IS OF BULK AT MOST 1048576: true; the input reads as it did. -/
def lightMatchesSpecUptoRow : OpenClaim := { program := "ytelbilnnmmbmdaadoor", sum := "935cefaa3a52d9e0f5d68b80d81fe211fc554b73f4234a127e7f14834153b0ef", func := "voxel/voxellaw33.LightMatchesSpec", spec := "lightMatchesSpec", unfollowed := true, recurses := true, named := ["voxel/material.kinds", "voxel/light.steps"], apart := false, laid := [("voxel/material.kinds", laid_voxel_material_kinds), ("voxel/light.steps", laid_voxel_light_steps)], narrowed := true }
def LightMatchesSpecUptoSaid : Prop := lightMatchesSpecUptoRow.holds Tryd.pinned (OpenSpec.upto lightMatchesSpecSpec)

/-- 'voxellaw33.LightStepMatchesSpec', WHERE WHAT IT READS IS OF BULK AT MOST 1048576: true; the input reads as it did. -/
def lightStepMatchesSpecUptoRow : OpenClaim := { program := "ytelbilnnmmbmdaadoor", sum := "935cefaa3a52d9e0f5d68b80d81fe211fc554b73f4234a127e7f14834153b0ef", func := "voxel/voxellaw33.LightStepMatchesSpec", spec := "lightStepMatchesSpec", unfollowed := true, recurses := true, named := ["voxel/material.kinds", "voxel/light.steps"], apart := false, laid := [("voxel/material.kinds", laid_voxel_material_kinds), ("voxel/light.steps", laid_voxel_light_steps)], narrowed := true }
def LightStepMatchesSpecUptoSaid : Prop := lightStepMatchesSpecUptoRow.holds Tryd.pinned (OpenSpec.upto lightStepMatchesSpecSpec)

/-- 'voxellaw33.LightIsLeast', WHERE WHAT IT READS IS OF BULK AT MOST 1048576: true; the input reads as it did. -/
def lightIsLeastUptoRow : OpenClaim := { program := "ytelbilnnmmbmdaadoor", sum := "935cefaa3a52d9e0f5d68b80d81fe211fc554b73f4234a127e7f14834153b0ef", func := "voxel/voxellaw33.LightIsLeast", spec := "lightIsLeast", unfollowed := true, recurses := true, named := ["voxel/material.kinds", "voxel/light.steps"], apart := false, laid := [("voxel/material.kinds", laid_voxel_material_kinds), ("voxel/light.steps", laid_voxel_light_steps)], narrowed := true }
def LightIsLeastUptoSaid : Prop := lightIsLeastUptoRow.holds Tryd.pinned (OpenSpec.upto lightIsLeastSpec)

/-- 'voxellaw33.LightStepIsMonotone', WHERE WHAT IT READS IS OF BULK AT MOST 1048576: true; the input reads as it did. -/
def lightStepIsMonotoneUptoRow : OpenClaim := { program := "ytelbilnnmmbmdaadoor", sum := "935cefaa3a52d9e0f5d68b80d81fe211fc554b73f4234a127e7f14834153b0ef", func := "voxel/voxellaw33.LightStepIsMonotone", spec := "lightStepIsMonotone", unfollowed := true, recurses := true, named := ["voxel/material.kinds", "voxel/light.steps"], apart := false, laid := [("voxel/material.kinds", laid_voxel_material_kinds), ("voxel/light.steps", laid_voxel_light_steps)], narrowed := true }
def LightStepIsMonotoneUptoSaid : Prop := lightStepIsMonotoneUptoRow.holds Tryd.pinned (OpenSpec.upto lightStepIsMonotoneSpec)

/-- 'voxellaw33.LightGrows', WHERE WHAT IT READS IS OF BULK AT MOST 1048576: true; the input reads as it did. -/
def lightGrowsUptoRow : OpenClaim := { program := "ytelbilnnmmbmdaadoor", sum := "935cefaa3a52d9e0f5d68b80d81fe211fc554b73f4234a127e7f14834153b0ef", func := "voxel/voxellaw33.LightGrows", spec := "lightGrows", unfollowed := true, recurses := true, named := ["voxel/material.kinds", "voxel/light.steps"], apart := false, laid := [("voxel/material.kinds", laid_voxel_material_kinds), ("voxel/light.steps", laid_voxel_light_steps)], narrowed := true }
def LightGrowsUptoSaid : Prop := lightGrowsUptoRow.holds Tryd.pinned (OpenSpec.upto lightGrowsSpec)

/-- 'voxellaw33.LightMirrors', WHERE WHAT IT READS IS OF BULK AT MOST 1048576: true; the input reads as it did. -/
def lightMirrorsUptoRow : OpenClaim := { program := "ytelbilnnmmbmdaadoor", sum := "935cefaa3a52d9e0f5d68b80d81fe211fc554b73f4234a127e7f14834153b0ef", func := "voxel/voxellaw33.LightMirrors", spec := "lightMirrors", unfollowed := true, recurses := true, named := ["voxel/material.kinds", "voxel/light.steps"], apart := false, laid := [("voxel/material.kinds", laid_voxel_material_kinds), ("voxel/light.steps", laid_voxel_light_steps)], narrowed := true }
def LightMirrorsUptoSaid : Prop := lightMirrorsUptoRow.holds Tryd.pinned (OpenSpec.upto lightMirrorsSpec)

end Rows
end Go.Proofs.YtelbilnnmmbmdaaDoor
