/-
  NARROWER THAN 'FOR EVERY INPUT', by the rows' own cells (each row's printed sentence says how): TopComponentsAreRegions: laid.
  DERIVED. THE GIVEN ROWS OF THIS SEAT. 1 by the template 'for every input the law returns true; each argument reads behind the call as it read before'; 0 by the template 'total and deterministic' (their statements: YtpmfkelglmgddaaGreatDoorTotals.lean).
  GIVEN WITH THE SEED: the statements are not yours to turn. If you find one false, say at which input.
  Laid BY PROGRAM, IN A SANDBOX (cutbox-rows.mjs): the forced cells as the released guide's own fill.sh prints them over the translation 2ca2b4d2b5f8a79c… (all of the seat's roots in one cut). By AI agents, Wed Nov 11 2026. No macro, syntax, notation, axiom, sorry.
-/
import Derived.Test.YtpmfkelglmgddaaGreatDoorChecked
import GoSem.Claim
import GoSem.ClaimJoined
import GoSem.ClaimMapViews
import Derived.JoinedTies
import Derived.KernelRfl
namespace Go.Proofs.YtpmfkelglmgddaaGreatDoor
/- THE CELL 'sum', in the pinned program and in every row, IS THE sha256 OF THE DUMP (.gsa) THAT YtpmfkelglmgddaaGreatDoorProg.lean LOADS. Nothing in Lean hashes anything: it is a label: what it is worth is what the hold of that sum in a sandbox is worth. -/
noncomputable def Tryz.pinned : Pinned := { name := "ytpmfkelglmgddaagreatdoor", sum := "2ca2b4d2b5f8a79c08f9177ed55238cb6e8bfcf68559209474d99b1b35b030a2", checked := Tryz.checked }
namespace Rows
def none {H : Type} : Left H := { results := [], args := [] }

/- WHAT THE LISTED PACKAGE-LEVEL VARIABLES READ AS WHEN THE CALL BEGINS. Each datum BY PROGRAM (the guide's laid-datum.mjs) off the statement by which the dump's own 'gosem.cut.vars' lays the variable. In a bare row this is a premise. The card (YtpmfkelglmgddaaGreatDoorCards.lean) ties it to the program's text. -/
def laid_voxel_fill_steps {H : Type} : DataW H := .agg [.agg [.lit (.int .i64 1), .lit (.int .i64 0), .lit (.int .i64 0)], .agg [.lit (.int .i64 (-1)), .lit (.int .i64 0), .lit (.int .i64 0)], .agg [.lit (.int .i64 0), .lit (.int .i64 1), .lit (.int .i64 0)], .agg [.lit (.int .i64 0), .lit (.int .i64 (-1)), .lit (.int .i64 0)], .agg [.lit (.int .i64 0), .lit (.int .i64 0), .lit (.int .i64 1)], .agg [.lit (.int .i64 0), .lit (.int .i64 0), .lit (.int .i64 (-1))]]
def laid_voxel_faces_sides {H : Type} : DataW H := .agg [.agg [.lit (.int .i64 0), .lit (.bool false), .agg [.lit (.int .i64 (-1)), .lit (.int .i64 0), .lit (.int .i64 0)]], .agg [.lit (.int .i64 0), .lit (.bool true), .agg [.lit (.int .i64 1), .lit (.int .i64 0), .lit (.int .i64 0)]], .agg [.lit (.int .i64 1), .lit (.bool false), .agg [.lit (.int .i64 0), .lit (.int .i64 (-1)), .lit (.int .i64 0)]], .agg [.lit (.int .i64 1), .lit (.bool true), .agg [.lit (.int .i64 0), .lit (.int .i64 1), .lit (.int .i64 0)]], .agg [.lit (.int .i64 2), .lit (.bool false), .agg [.lit (.int .i64 0), .lit (.int .i64 0), .lit (.int .i64 (-1))]], .agg [.lit (.int .i64 2), .lit (.bool true), .agg [.lit (.int .i64 0), .lit (.int .i64 0), .lit (.int .i64 1)]]]

/-- 'voxeltop.TopComponentsAreRegions': WHATEVER THE INPUT: true; the input reads as it did. -/
def topComponentsAreRegionsSpec : ChangeSpec := { name := "topComponentsAreRegions", fn := fun _ => fun
  | [d1, d2, d3, d4, d5] => { results := [.lit (.bool true)], args := [d1, d2, d3, d4, d5] }
  | _ => none }
def topComponentsAreRegionsRow : OpenClaim := { program := "ytpmfkelglmgddaagreatdoor", sum := "2ca2b4d2b5f8a79c08f9177ed55238cb6e8bfcf68559209474d99b1b35b030a2", func := "voxel/voxeltop.TopComponentsAreRegions", spec := "topComponentsAreRegions", unfollowed := true, recurses := true, named := ["voxel/faces.sides", "voxel/fill.steps"], plainKeys := false, apart := false, laid := [("voxel/fill.steps", laid_voxel_fill_steps), ("voxel/faces.sides", laid_voxel_faces_sides)] }
def TopComponentsAreRegionsSaid : Prop := topComponentsAreRegionsRow.holds Tryz.pinned (OpenSpec.ofChange topComponentsAreRegionsSpec)

/-- ITS FALSE NEIGHBOUR: 'it returns false'. Refute it at one input. -/
def topComponentsAreRegionsWrong : ChangeSpec := { name := "topComponentsAreRegions", fn := fun _ => fun
  | [d1, d2, d3, d4, d5] => { results := [.lit (.bool false)], args := [d1, d2, d3, d4, d5] }
  | _ => none }
def TopComponentsAreRegionsWrongFalsely : Prop := topComponentsAreRegionsRow.holds Tryz.pinned (OpenSpec.ofChange topComponentsAreRegionsWrong)

/- THE SECOND FORM. 'bulk': how many values and letters a reading holds, each counted each time it is reached (what is shared counts as often as it is met; a slice's spare places count too). A statement '..UptoSaid' is the law's where the arguments, and the package variables that the reading takes, are together of bulk at most 1048576: NARROWER than '..Said'. Prove '..Said' where nothing that the law and all that it calls make is longer than what came in: it says more and counts as full. Else prove '..UptoSaid'. A law counts once. -/
mutual
def uptoBulk {H : Type} : DataW H → Nat
  | .lit (.string bytes) => bytes.length + 1
  | .lit _ => 1
  | .nil => 1
  | .ptr d => uptoBulk d + 1
  | .slice elems spare => uptoBulkAll elems + uptoBulkAll spare + 1
  | .agg parts => uptoBulkAll parts + 1
  | .iface _ d => uptoBulk d + 1
  | .map entries => uptoBulkEntries entries + 1
  | .held _ => 1
def uptoBulkAll {H : Type} : List (DataW H) → Nat
  | [] => 0
  | d :: r => uptoBulk d + uptoBulkAll r
def uptoBulkEntries {H : Type} : List (Lit × DataW H) → Nat
  | [] => 0
  | x :: r => uptoBulkEntry x + uptoBulkEntries r
def uptoBulkEntry {H : Type} : Lit × DataW H → Nat
  | (.string bytes, d) => bytes.length + uptoBulk d + 1
  | (_, d) => uptoBulk d + 1
 end
def uptoSmall : (H : Type) → List (DataW H) → Bool := fun _ ds => decide (uptoBulkAll ds ≤ 1048576)
def OpenSpec.upto (s : _root_.Go.ChangeSpec) : _root_.Go.OpenSpec := { _root_.Go.OpenSpec.ofChange s with cond := some uptoSmall }

/-- 'voxeltop.TopComponentsAreRegions', WHERE WHAT IT READS IS OF BULK AT MOST 1048576: true; the input reads as it did. -/
def topComponentsAreRegionsUptoRow : OpenClaim := { program := "ytpmfkelglmgddaagreatdoor", sum := "2ca2b4d2b5f8a79c08f9177ed55238cb6e8bfcf68559209474d99b1b35b030a2", func := "voxel/voxeltop.TopComponentsAreRegions", spec := "topComponentsAreRegions", unfollowed := true, recurses := true, named := ["voxel/faces.sides", "voxel/fill.steps"], plainKeys := false, apart := false, laid := [("voxel/fill.steps", laid_voxel_fill_steps), ("voxel/faces.sides", laid_voxel_faces_sides)], narrowed := true }
def TopComponentsAreRegionsUptoSaid : Prop := topComponentsAreRegionsUptoRow.holds Tryz.pinned (OpenSpec.upto topComponentsAreRegionsSpec)

end Rows
end Go.Proofs.YtpmfkelglmgddaaGreatDoor
