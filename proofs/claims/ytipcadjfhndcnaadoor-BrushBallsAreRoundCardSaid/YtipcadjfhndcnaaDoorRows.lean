/-
  NARROWER THAN 'FOR EVERY INPUT', by the rows' own cells (each row's printed sentence says how): BrushMatchesSpec: laid · BrushMembersMatchSpec: laid · BrushListsMembers: laid · BrushBallsAreRound: laid · BrushPrismsTurn: laid · BrushBoxesCount: laid.
  DERIVED. THE GIVEN ROWS OF THIS SEAT. 6 by the template 'for every input the law returns true; each argument reads behind the call as it read before'; 0 by the template 'total and deterministic' (their statements: YtipcadjfhndcnaaDoorTotals.lean).
  GIVEN WITH THE SEED: the statements are not yours to turn. If you find one false, say at which input.
  Laid BY PROGRAM, IN A SANDBOX (cutbox-rows.mjs): the forced cells as the released guide's own fill.sh prints them over the translation 087c90f99d523474… (all of the seat's roots in one cut). By AI agents, Wed Nov 11 2026. No macro, syntax, notation, axiom, sorry.
-/
import Derived.Test.YtipcadjfhndcnaaDoorChecked
import GoSem.Claim
import GoSem.ClaimJoined
import GoSem.ClaimMapViews
import Derived.JoinedTies
import Derived.KernelRfl
namespace Go.Proofs.YtipcadjfhndcnaaDoor
/- THE CELL 'sum', in the pinned program and in every row, IS THE sha256 OF THE DUMP (.gsa) THAT YtipcadjfhndcnaaDoorProg.lean LOADS. Nothing in Lean hashes anything: it is a label: what it is worth is what the hold of that sum in a sandbox is worth. -/
noncomputable def Tryd.pinned : Pinned := { name := "ytipcadjfhndcnaadoor", sum := "087c90f99d5234747ae53281fc23c8e1a0a5b772576504e528ddf9893fc50e4b", checked := Tryd.checked }
namespace Rows
def none {H : Type} : Left H := { results := [], args := [] }

/- WHAT THE LISTED PACKAGE-LEVEL VARIABLES READ AS WHEN THE CALL BEGINS. Each datum BY PROGRAM (the guide's laid-datum.mjs) off the statement by which the dump's own 'gosem.cut.vars' lays the variable. In a bare row this is a premise. The card (YtipcadjfhndcnaaDoorCards.lean) ties it to the program's text. -/
def laid_voxel_point_axes {H : Type} : DataW H := .agg [.lit (.string [120, 121, 122]), .lit (.string [120, 122, 121]), .lit (.string [121, 120, 122]), .lit (.string [121, 122, 120]), .lit (.string [122, 120, 121]), .lit (.string [122, 121, 120])]

/-- 'voxellaw19.BrushMatchesSpec': WHATEVER THE INPUT: true; the input reads as it did. -/
def brushMatchesSpecSpec : ChangeSpec := { name := "brushMatchesSpec", fn := fun _ => fun
  | [d1, d2, d3, d4, d5] => { results := [.lit (.bool true)], args := [d1, d2, d3, d4, d5] }
  | _ => none }
def brushMatchesSpecRow : OpenClaim := { program := "ytipcadjfhndcnaadoor", sum := "087c90f99d5234747ae53281fc23c8e1a0a5b772576504e528ddf9893fc50e4b", func := "voxel/voxellaw19.BrushMatchesSpec", spec := "brushMatchesSpec", unfollowed := true, recurses := true, named := ["voxel/point.axes"], apart := false, laid := [("voxel/point.axes", laid_voxel_point_axes)] }
def BrushMatchesSpecSaid : Prop := brushMatchesSpecRow.holds Tryd.pinned (OpenSpec.ofChange brushMatchesSpecSpec)

/-- ITS FALSE NEIGHBOUR: 'it returns false'. Refute it at one input. -/
def brushMatchesSpecWrong : ChangeSpec := { name := "brushMatchesSpec", fn := fun _ => fun
  | [d1, d2, d3, d4, d5] => { results := [.lit (.bool false)], args := [d1, d2, d3, d4, d5] }
  | _ => none }
def BrushMatchesSpecWrongFalsely : Prop := brushMatchesSpecRow.holds Tryd.pinned (OpenSpec.ofChange brushMatchesSpecWrong)

/-- 'voxellaw19.BrushMembersMatchSpec': WHATEVER THE INPUT: true; the input reads as it did. -/
def brushMembersMatchSpecSpec : ChangeSpec := { name := "brushMembersMatchSpec", fn := fun _ => fun
  | [d1, d2, d3, d4, d5] => { results := [.lit (.bool true)], args := [d1, d2, d3, d4, d5] }
  | _ => none }
def brushMembersMatchSpecRow : OpenClaim := { program := "ytipcadjfhndcnaadoor", sum := "087c90f99d5234747ae53281fc23c8e1a0a5b772576504e528ddf9893fc50e4b", func := "voxel/voxellaw19.BrushMembersMatchSpec", spec := "brushMembersMatchSpec", unfollowed := true, recurses := true, named := ["voxel/point.axes"], apart := false, laid := [("voxel/point.axes", laid_voxel_point_axes)] }
def BrushMembersMatchSpecSaid : Prop := brushMembersMatchSpecRow.holds Tryd.pinned (OpenSpec.ofChange brushMembersMatchSpecSpec)

/-- ITS FALSE NEIGHBOUR: 'it returns false'. Refute it at one input. -/
def brushMembersMatchSpecWrong : ChangeSpec := { name := "brushMembersMatchSpec", fn := fun _ => fun
  | [d1, d2, d3, d4, d5] => { results := [.lit (.bool false)], args := [d1, d2, d3, d4, d5] }
  | _ => none }
def BrushMembersMatchSpecWrongFalsely : Prop := brushMembersMatchSpecRow.holds Tryd.pinned (OpenSpec.ofChange brushMembersMatchSpecWrong)

/-- 'voxellaw19.BrushListsMembers': WHATEVER THE INPUT: true; the input reads as it did. -/
def brushListsMembersSpec : ChangeSpec := { name := "brushListsMembers", fn := fun _ => fun
  | [d1, d2, d3, d4, d5, d6] => { results := [.lit (.bool true)], args := [d1, d2, d3, d4, d5, d6] }
  | _ => none }
def brushListsMembersRow : OpenClaim := { program := "ytipcadjfhndcnaadoor", sum := "087c90f99d5234747ae53281fc23c8e1a0a5b772576504e528ddf9893fc50e4b", func := "voxel/voxellaw19.BrushListsMembers", spec := "brushListsMembers", unfollowed := true, recurses := true, named := ["voxel/point.axes"], apart := false, laid := [("voxel/point.axes", laid_voxel_point_axes)] }
def BrushListsMembersSaid : Prop := brushListsMembersRow.holds Tryd.pinned (OpenSpec.ofChange brushListsMembersSpec)

/-- ITS FALSE NEIGHBOUR: 'it returns false'. Refute it at one input. -/
def brushListsMembersWrong : ChangeSpec := { name := "brushListsMembers", fn := fun _ => fun
  | [d1, d2, d3, d4, d5, d6] => { results := [.lit (.bool false)], args := [d1, d2, d3, d4, d5, d6] }
  | _ => none }
def BrushListsMembersWrongFalsely : Prop := brushListsMembersRow.holds Tryd.pinned (OpenSpec.ofChange brushListsMembersWrong)

/-- 'voxellaw19.BrushBallsAreRound': WHATEVER THE INPUT: true; the input reads as it did. -/
def brushBallsAreRoundSpec : ChangeSpec := { name := "brushBallsAreRound", fn := fun _ => fun
  | [d1, d2, d3, d4, d5] => { results := [.lit (.bool true)], args := [d1, d2, d3, d4, d5] }
  | _ => none }
def brushBallsAreRoundRow : OpenClaim := { program := "ytipcadjfhndcnaadoor", sum := "087c90f99d5234747ae53281fc23c8e1a0a5b772576504e528ddf9893fc50e4b", func := "voxel/voxellaw19.BrushBallsAreRound", spec := "brushBallsAreRound", unfollowed := true, recurses := true, named := ["voxel/point.axes"], apart := false, laid := [("voxel/point.axes", laid_voxel_point_axes)] }
def BrushBallsAreRoundSaid : Prop := brushBallsAreRoundRow.holds Tryd.pinned (OpenSpec.ofChange brushBallsAreRoundSpec)

/-- ITS FALSE NEIGHBOUR: 'it returns false'. Refute it at one input. -/
def brushBallsAreRoundWrong : ChangeSpec := { name := "brushBallsAreRound", fn := fun _ => fun
  | [d1, d2, d3, d4, d5] => { results := [.lit (.bool false)], args := [d1, d2, d3, d4, d5] }
  | _ => none }
def BrushBallsAreRoundWrongFalsely : Prop := brushBallsAreRoundRow.holds Tryd.pinned (OpenSpec.ofChange brushBallsAreRoundWrong)

/-- 'voxellaw19.BrushPrismsTurn': WHATEVER THE INPUT: true; the input reads as it did. -/
def brushPrismsTurnSpec : ChangeSpec := { name := "brushPrismsTurn", fn := fun _ => fun
  | [d1, d2, d3, d4] => { results := [.lit (.bool true)], args := [d1, d2, d3, d4] }
  | _ => none }
def brushPrismsTurnRow : OpenClaim := { program := "ytipcadjfhndcnaadoor", sum := "087c90f99d5234747ae53281fc23c8e1a0a5b772576504e528ddf9893fc50e4b", func := "voxel/voxellaw19.BrushPrismsTurn", spec := "brushPrismsTurn", unfollowed := true, recurses := true, named := ["voxel/point.axes"], apart := false, laid := [("voxel/point.axes", laid_voxel_point_axes)] }
def BrushPrismsTurnSaid : Prop := brushPrismsTurnRow.holds Tryd.pinned (OpenSpec.ofChange brushPrismsTurnSpec)

/-- ITS FALSE NEIGHBOUR: 'it returns false'. Refute it at one input. -/
def brushPrismsTurnWrong : ChangeSpec := { name := "brushPrismsTurn", fn := fun _ => fun
  | [d1, d2, d3, d4] => { results := [.lit (.bool false)], args := [d1, d2, d3, d4] }
  | _ => none }
def BrushPrismsTurnWrongFalsely : Prop := brushPrismsTurnRow.holds Tryd.pinned (OpenSpec.ofChange brushPrismsTurnWrong)

/-- 'voxellaw19.BrushBoxesCount': WHATEVER THE INPUT: true; the input reads as it did. -/
def brushBoxesCountSpec : ChangeSpec := { name := "brushBoxesCount", fn := fun _ => fun
  | [d1, d2] => { results := [.lit (.bool true)], args := [d1, d2] }
  | _ => none }
def brushBoxesCountRow : OpenClaim := { program := "ytipcadjfhndcnaadoor", sum := "087c90f99d5234747ae53281fc23c8e1a0a5b772576504e528ddf9893fc50e4b", func := "voxel/voxellaw19.BrushBoxesCount", spec := "brushBoxesCount", unfollowed := true, recurses := true, named := ["voxel/point.axes"], apart := false, laid := [("voxel/point.axes", laid_voxel_point_axes)] }
def BrushBoxesCountSaid : Prop := brushBoxesCountRow.holds Tryd.pinned (OpenSpec.ofChange brushBoxesCountSpec)

/-- ITS FALSE NEIGHBOUR: 'it returns false'. Refute it at one input. -/
def brushBoxesCountWrong : ChangeSpec := { name := "brushBoxesCount", fn := fun _ => fun
  | [d1, d2] => { results := [.lit (.bool false)], args := [d1, d2] }
  | _ => none }
def BrushBoxesCountWrongFalsely : Prop := brushBoxesCountRow.holds Tryd.pinned (OpenSpec.ofChange brushBoxesCountWrong)

/- THE SECOND FORM. 'bulk': how many values and letters a reading holds, each counted each time it is reached (what is shared counts as often as it is met; a slice's spare places count too). A statement '..UptoSaid' is the law's where the arguments, and the package variables that the reading takes, are together of bulk at most 1048576: NARROWER than '..Said'. Prove '..Said' where nothing that the law and all that it calls make is longer than what came in: it says more and counts as full. Else prove '..UptoSaid'. A law counts once. -/
mutual
def uptoBulk {H : Type} : DataW H → Nat
  | .lit (.string bytes) => bytes.length + 1
  | .lit _ => 1
  | .nil => 1
  | .ptr d => uptoBulk d + 1
  | .slice elems spare => uptoBulkAll elems + uptoBulkAll spare + 1
  | .agg parts => uptoBulkAll parts + 1
  | .iface _ d => uptoBulk d + 1
  | .map entries => uptoBulkEntries entries + 1
  | .held _ => 1
def uptoBulkAll {H : Type} : List (DataW H) → Nat
  | [] => 0
  | d :: r => uptoBulk d + uptoBulkAll r
def uptoBulkEntries {H : Type} : List (Lit × DataW H) → Nat
  | [] => 0
  | x :: r => uptoBulkEntry x + uptoBulkEntries r
def uptoBulkEntry {H : Type} : Lit × DataW H → Nat
  | (.string bytes, d) => bytes.length + uptoBulk d + 1
  | (_, d) => uptoBulk d + 1
 end
def uptoSmall : (H : Type) → List (DataW H) → Bool := fun _ ds => decide (uptoBulkAll ds ≤ 1048576)
def OpenSpec.upto (s : _root_.Go.ChangeSpec) : _root_.Go.OpenSpec := { _root_.Go.OpenSpec.ofChange s with cond := some uptoSmall }

/-- 'voxellaw19.BrushMatchesSpec', WHERE WHAT IT READS IS OF BULK AT MOST 1048576: true; the input reads as it did. -/
def brushMatchesSpecUptoRow : OpenClaim := { program := "ytipcadjfhndcnaadoor", sum := "087c90f99d5234747ae53281fc23c8e1a0a5b772576504e528ddf9893fc50e4b", func := "voxel/voxellaw19.BrushMatchesSpec", spec := "brushMatchesSpec", unfollowed := true, recurses := true, named := ["voxel/point.axes"], apart := false, laid := [("voxel/point.axes", laid_voxel_point_axes)], narrowed := true }
def BrushMatchesSpecUptoSaid : Prop := brushMatchesSpecUptoRow.holds Tryd.pinned (OpenSpec.upto brushMatchesSpecSpec)

/-- 'voxellaw19.BrushMembersMatchSpec', WHERE WHAT IT READS IS OF BULK AT MOST 1048576: true; the input reads as it did. -/
def brushMembersMatchSpecUptoRow : OpenClaim := { program := "ytipcadjfhndcnaadoor", sum := "087c90f99d5234747ae53281fc23c8e1a0a5b772576504e528ddf9893fc50e4b", func := "voxel/voxellaw19.BrushMembersMatchSpec", spec := "brushMembersMatchSpec", unfollowed := true, recurses := true, named := ["voxel/point.axes"], apart := false, laid := [("voxel/point.axes", laid_voxel_point_axes)], narrowed := true }
def BrushMembersMatchSpecUptoSaid : Prop := brushMembersMatchSpecUptoRow.holds Tryd.pinned (OpenSpec.upto brushMembersMatchSpecSpec)

/-- 'voxellaw19.BrushListsMembers', WHERE WHAT IT READS IS OF BULK AT MOST 1048576: true; the input reads as it did. -/
def brushListsMembersUptoRow : OpenClaim := { program := "ytipcadjfhndcnaadoor", sum := "087c90f99d5234747ae53281fc23c8e1a0a5b772576504e528ddf9893fc50e4b", func := "voxel/voxellaw19.BrushListsMembers", spec := "brushListsMembers", unfollowed := true, recurses := true, named := ["voxel/point.axes"], apart := false, laid := [("voxel/point.axes", laid_voxel_point_axes)], narrowed := true }
def BrushListsMembersUptoSaid : Prop := brushListsMembersUptoRow.holds Tryd.pinned (OpenSpec.upto brushListsMembersSpec)

/-- 'voxellaw19.BrushBallsAreRound', WHERE WHAT IT READS IS OF BULK AT MOST 1048576: true; the input reads as it did. -/
def brushBallsAreRoundUptoRow : OpenClaim := { program := "ytipcadjfhndcnaadoor", sum := "087c90f99d5234747ae53281fc23c8e1a0a5b772576504e528ddf9893fc50e4b", func := "voxel/voxellaw19.BrushBallsAreRound", spec := "brushBallsAreRound", unfollowed := true, recurses := true, named := ["voxel/point.axes"], apart := false, laid := [("voxel/point.axes", laid_voxel_point_axes)], narrowed := true }
def BrushBallsAreRoundUptoSaid : Prop := brushBallsAreRoundUptoRow.holds Tryd.pinned (OpenSpec.upto brushBallsAreRoundSpec)

/-- 'voxellaw19.BrushPrismsTurn', WHERE WHAT IT READS IS OF BULK AT MOST 1048576: true; the input reads as it did. -/
def brushPrismsTurnUptoRow : OpenClaim := { program := "ytipcadjfhndcnaadoor", sum := "087c90f99d5234747ae53281fc23c8e1a0a5b772576504e528ddf9893fc50e4b", func := "voxel/voxellaw19.BrushPrismsTurn", spec := "brushPrismsTurn", unfollowed := true, recurses := true, named := ["voxel/point.axes"], apart := false, laid := [("voxel/point.axes", laid_voxel_point_axes)], narrowed := true }
def BrushPrismsTurnUptoSaid : Prop := brushPrismsTurnUptoRow.holds Tryd.pinned (OpenSpec.upto brushPrismsTurnSpec)

/-- 'voxellaw19.BrushBoxesCount', WHERE WHAT IT READS IS OF BULK AT MOST 1048576: true; the input reads as it did. -/
def brushBoxesCountUptoRow : OpenClaim := { program := "ytipcadjfhndcnaadoor", sum := "087c90f99d5234747ae53281fc23c8e1a0a5b772576504e528ddf9893fc50e4b", func := "voxel/voxellaw19.BrushBoxesCount", spec := "brushBoxesCount", unfollowed := true, recurses := true, named := ["voxel/point.axes"], apart := false, laid := [("voxel/point.axes", laid_voxel_point_axes)], narrowed := true }
def BrushBoxesCountUptoSaid : Prop := brushBoxesCountUptoRow.holds Tryd.pinned (OpenSpec.upto brushBoxesCountSpec)

end Rows
end Go.Proofs.YtipcadjfhndcnaaDoor
