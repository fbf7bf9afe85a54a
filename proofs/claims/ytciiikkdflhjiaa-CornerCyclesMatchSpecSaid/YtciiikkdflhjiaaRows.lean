/-
  No cell of these rows narrows 'for every input' (looked for: loops, veiled, ifaces, maps, wideKeys, modest, calm, conditions, laid).
  DERIVED. THE GIVEN ROWS OF THIS SEAT. 6 by the template 'for every input the law returns true; each argument reads behind the call as it read before'; 0 by the template 'total and deterministic' (their statements: YtciiikkdflhjiaaTotals.lean).
  GIVEN WITH THE SEED: the statements are not yours to turn. If you find one false, say at which input.
  Laid BY PROGRAM, IN A SANDBOX (cutbox-rows.mjs): the forced cells as the released guide's own fill.sh prints them over the translation 02fb4f413c862de7… (all of the seat's roots in one cut). By AI agents, Wed Nov 11 2026. No macro, syntax, notation, axiom, sorry.
-/
import Derived.Test.YtciiikkdflhjiaaChecked
import GoSem.Claim
import GoSem.ClaimJoined
import GoSem.ClaimMapViews
import Derived.JoinedTies
import Derived.KernelRfl
namespace Go.Proofs.Ytciiikkdflhjiaa
/- THE CELL 'sum', in the pinned program and in every row, IS THE sha256 OF THE DUMP (.gsa) THAT YtciiikkdflhjiaaProg.lean LOADS. Nothing in Lean hashes anything: it is a label: what it is worth is what the hold of that sum in a sandbox is worth. -/
noncomputable def Try.pinned : Pinned := { name := "ytciiikkdflhjiaa", sum := "02fb4f413c862de77e69e5755c2dbb10390e2879cfbf298ad3edb45bd31b0803", checked := Try.checked }
namespace Rows
def none {H : Type} : Left H := { results := [], args := [] }

/-- 'voxellaw36.CornerFacesMatchSpec': WHATEVER THE INPUT: true; the input reads as it did. -/
def cornerFacesMatchSpecSpec : ChangeSpec := { name := "cornerFacesMatchSpec", fn := fun _ => fun
  | [d1, d2, d3, d4, d5] => { results := [.lit (.bool true)], args := [d1, d2, d3, d4, d5] }
  | _ => none }
def cornerFacesMatchSpecRow : OpenClaim := { program := "ytciiikkdflhjiaa", sum := "02fb4f413c862de77e69e5755c2dbb10390e2879cfbf298ad3edb45bd31b0803", func := "voxel/voxellaw36.CornerFacesMatchSpec", spec := "cornerFacesMatchSpec", unfollowed := true, recurses := true, apart := false }
def CornerFacesMatchSpecSaid : Prop := cornerFacesMatchSpecRow.holds Try.pinned (OpenSpec.ofChange cornerFacesMatchSpecSpec)

/-- ITS FALSE NEIGHBOUR: 'it returns false'. Refute it at one input. -/
def cornerFacesMatchSpecWrong : ChangeSpec := { name := "cornerFacesMatchSpec", fn := fun _ => fun
  | [d1, d2, d3, d4, d5] => { results := [.lit (.bool false)], args := [d1, d2, d3, d4, d5] }
  | _ => none }
def CornerFacesMatchSpecWrongFalsely : Prop := cornerFacesMatchSpecRow.holds Try.pinned (OpenSpec.ofChange cornerFacesMatchSpecWrong)

/-- 'voxellaw36.CornerCyclesMatchSpec': WHATEVER THE INPUT: true; the input reads as it did. -/
def cornerCyclesMatchSpecSpec : ChangeSpec := { name := "cornerCyclesMatchSpec", fn := fun _ => fun
  | [d1, d2, d3] => { results := [.lit (.bool true)], args := [d1, d2, d3] }
  | _ => none }
def cornerCyclesMatchSpecRow : OpenClaim := { program := "ytciiikkdflhjiaa", sum := "02fb4f413c862de77e69e5755c2dbb10390e2879cfbf298ad3edb45bd31b0803", func := "voxel/voxellaw36.CornerCyclesMatchSpec", spec := "cornerCyclesMatchSpec", unfollowed := true, recurses := true, apart := false }
def CornerCyclesMatchSpecSaid : Prop := cornerCyclesMatchSpecRow.holds Try.pinned (OpenSpec.ofChange cornerCyclesMatchSpecSpec)

/-- ITS FALSE NEIGHBOUR: 'it returns false'. Refute it at one input. -/
def cornerCyclesMatchSpecWrong : ChangeSpec := { name := "cornerCyclesMatchSpec", fn := fun _ => fun
  | [d1, d2, d3] => { results := [.lit (.bool false)], args := [d1, d2, d3] }
  | _ => none }
def CornerCyclesMatchSpecWrongFalsely : Prop := cornerCyclesMatchSpecRow.holds Try.pinned (OpenSpec.ofChange cornerCyclesMatchSpecWrong)

/-- 'voxellaw36.CornerPairsAreMutual': WHATEVER THE INPUT: true; the input reads as it did. -/
def cornerPairsAreMutualSpec : ChangeSpec := { name := "cornerPairsAreMutual", fn := fun _ => fun
  | [d1, d2] => { results := [.lit (.bool true)], args := [d1, d2] }
  | _ => none }
def cornerPairsAreMutualRow : OpenClaim := { program := "ytciiikkdflhjiaa", sum := "02fb4f413c862de77e69e5755c2dbb10390e2879cfbf298ad3edb45bd31b0803", func := "voxel/voxellaw36.CornerPairsAreMutual", spec := "cornerPairsAreMutual", unfollowed := true, recurses := true, apart := false }
def CornerPairsAreMutualSaid : Prop := cornerPairsAreMutualRow.holds Try.pinned (OpenSpec.ofChange cornerPairsAreMutualSpec)

/-- ITS FALSE NEIGHBOUR: 'it returns false'. Refute it at one input. -/
def cornerPairsAreMutualWrong : ChangeSpec := { name := "cornerPairsAreMutual", fn := fun _ => fun
  | [d1, d2] => { results := [.lit (.bool false)], args := [d1, d2] }
  | _ => none }
def CornerPairsAreMutualWrongFalsely : Prop := cornerPairsAreMutualRow.holds Try.pinned (OpenSpec.ofChange cornerPairsAreMutualWrong)

/-- 'voxellaw36.CornerBoundariesJoin': WHATEVER THE INPUT: true; the input reads as it did. -/
def cornerBoundariesJoinSpec : ChangeSpec := { name := "cornerBoundariesJoin", fn := fun _ => fun
  | [d1, d2] => { results := [.lit (.bool true)], args := [d1, d2] }
  | _ => none }
def cornerBoundariesJoinRow : OpenClaim := { program := "ytciiikkdflhjiaa", sum := "02fb4f413c862de77e69e5755c2dbb10390e2879cfbf298ad3edb45bd31b0803", func := "voxel/voxellaw36.CornerBoundariesJoin", spec := "cornerBoundariesJoin", unfollowed := true, recurses := true, apart := false }
def CornerBoundariesJoinSaid : Prop := cornerBoundariesJoinRow.holds Try.pinned (OpenSpec.ofChange cornerBoundariesJoinSpec)

/-- ITS FALSE NEIGHBOUR: 'it returns false'. Refute it at one input. -/
def cornerBoundariesJoinWrong : ChangeSpec := { name := "cornerBoundariesJoin", fn := fun _ => fun
  | [d1, d2] => { results := [.lit (.bool false)], args := [d1, d2] }
  | _ => none }
def CornerBoundariesJoinWrongFalsely : Prop := cornerBoundariesJoinRow.holds Try.pinned (OpenSpec.ofChange cornerBoundariesJoinWrong)

/-- 'voxellaw36.CornerCyclesDivide': WHATEVER THE INPUT: true; the input reads as it did. -/
def cornerCyclesDivideSpec : ChangeSpec := { name := "cornerCyclesDivide", fn := fun _ => fun
  | [d] => { results := [.lit (.bool true)], args := [d] }
  | _ => none }
def cornerCyclesDivideRow : OpenClaim := { program := "ytciiikkdflhjiaa", sum := "02fb4f413c862de77e69e5755c2dbb10390e2879cfbf298ad3edb45bd31b0803", func := "voxel/voxellaw36.CornerCyclesDivide", spec := "cornerCyclesDivide", unfollowed := true, recurses := true, apart := false }
def CornerCyclesDivideSaid : Prop := cornerCyclesDivideRow.holds Try.pinned (OpenSpec.ofChange cornerCyclesDivideSpec)

/-- ITS FALSE NEIGHBOUR: 'it returns false'. Refute it at one input. -/
def cornerCyclesDivideWrong : ChangeSpec := { name := "cornerCyclesDivide", fn := fun _ => fun
  | [d] => { results := [.lit (.bool false)], args := [d] }
  | _ => none }
def CornerCyclesDivideWrongFalsely : Prop := cornerCyclesDivideRow.holds Try.pinned (OpenSpec.ofChange cornerCyclesDivideWrong)

/-- 'voxellaw36.CornerEndsAgree': WHATEVER THE INPUT: true; the input reads as it did. -/
def cornerEndsAgreeSpec : ChangeSpec := { name := "cornerEndsAgree", fn := fun _ => fun
  | [d1, d2, d3] => { results := [.lit (.bool true)], args := [d1, d2, d3] }
  | _ => none }
def cornerEndsAgreeRow : OpenClaim := { program := "ytciiikkdflhjiaa", sum := "02fb4f413c862de77e69e5755c2dbb10390e2879cfbf298ad3edb45bd31b0803", func := "voxel/voxellaw36.CornerEndsAgree", spec := "cornerEndsAgree", unfollowed := true, recurses := true, apart := false }
def CornerEndsAgreeSaid : Prop := cornerEndsAgreeRow.holds Try.pinned (OpenSpec.ofChange cornerEndsAgreeSpec)

/-- ITS FALSE NEIGHBOUR: 'it returns false'. Refute it at one input. -/
def cornerEndsAgreeWrong : ChangeSpec := { name := "cornerEndsAgree", fn := fun _ => fun
  | [d1, d2, d3] => { results := [.lit (.bool false)], args := [d1, d2, d3] }
  | _ => none }
def CornerEndsAgreeWrongFalsely : Prop := cornerEndsAgreeRow.holds Try.pinned (OpenSpec.ofChange cornerEndsAgreeWrong)

/- THE SECOND FORM. 'bulk': how many values and letters a reading holds, each counted each time it is reached (what is shared counts as often as it is met; a slice's spare places count too). A statement '..UptoSaid' is the law's where the arguments, and the package variables that the reading takes, are together of bulk at most 1048576: NARROWER than '..Said'. Prove '..Said' where nothing that the law and all that it calls make is longer than what came in: it says more and counts as full. Else prove '..UptoSaid'. A law counts once. -/
mutual
def uptoBulk {H : Type} : DataW H → Nat
  | .lit (.string bytes) => bytes.length + 1
  | .lit _ => 1
  | .nil => 1
  | .ptr d => uptoBulk d + 1
  | .slice elems spare => uptoBulkAll elems + uptoBulkAll spare + 1
  | .agg parts => uptoBulkAll parts + 1
  | .iface _ d => uptoBulk d + 1
  | .map entries => uptoBulkEntries entries + 1
  | .held _ => 1
def uptoBulkAll {H : Type} : List (DataW H) → Nat
  | [] => 0
  | d :: r => uptoBulk d + uptoBulkAll r
def uptoBulkEntries {H : Type} : List (Lit × DataW H) → Nat
  | [] => 0
  | x :: r => uptoBulkEntry x + uptoBulkEntries r
def uptoBulkEntry {H : Type} : Lit × DataW H → Nat
  | (.string bytes, d) => bytes.length + uptoBulk d + 1
  | (_, d) => uptoBulk d + 1
 end
def uptoSmall : (H : Type) → List (DataW H) → Bool := fun _ ds => decide (uptoBulkAll ds ≤ 1048576)
def OpenSpec.upto (s : _root_.Go.ChangeSpec) : _root_.Go.OpenSpec := { _root_.Go.OpenSpec.ofChange s with cond := some uptoSmall }

/-- 'voxellaw36.CornerFacesMatchSpec', WHERE WHAT IT READS IS OF BULK AT MOST 1048576: true; the input reads as it did. -/
def cornerFacesMatchSpecUptoRow : OpenClaim := { program := "ytciiikkdflhjiaa", sum := "02fb4f413c862de77e69e5755c2dbb10390e2879cfbf298ad3edb45bd31b0803", func := "voxel/voxellaw36.CornerFacesMatchSpec", spec := "cornerFacesMatchSpec", unfollowed := true, recurses := true, apart := false, narrowed := true }
def CornerFacesMatchSpecUptoSaid : Prop := cornerFacesMatchSpecUptoRow.holds Try.pinned (OpenSpec.upto cornerFacesMatchSpecSpec)

/-- 'voxellaw36.CornerCyclesMatchSpec', WHERE WHAT IT READS IS OF BULK AT MOST 1048576: true; the input reads as it did. -/
def cornerCyclesMatchSpecUptoRow : OpenClaim := { program := "ytciiikkdflhjiaa", sum := "02fb4f413c862de77e69e5755c2dbb10390e2879cfbf298ad3edb45bd31b0803", func := "voxel/voxellaw36.CornerCyclesMatchSpec", spec := "cornerCyclesMatchSpec", unfollowed := true, recurses := true, apart := false, narrowed := true }
def CornerCyclesMatchSpecUptoSaid : Prop := cornerCyclesMatchSpecUptoRow.holds Try.pinned (OpenSpec.upto cornerCyclesMatchSpecSpec)

/-- 'voxellaw36.CornerPairsAreMutual', WHERE WHAT IT READS IS OF BULK AT MOST 1048576: true; the input reads as it did. -/
def cornerPairsAreMutualUptoRow : OpenClaim := { program := "ytciiikkdflhjiaa", sum := "02fb4f413c862de77e69e5755c2dbb10390e2879cfbf298ad3edb45bd31b0803", func := "voxel/voxellaw36.CornerPairsAreMutual", spec := "cornerPairsAreMutual", unfollowed := true, recurses := true, apart := false, narrowed := true }
def CornerPairsAreMutualUptoSaid : Prop := cornerPairsAreMutualUptoRow.holds Try.pinned (OpenSpec.upto cornerPairsAreMutualSpec)

/-- 'voxellaw36.CornerBoundariesJoin', WHERE WHAT IT READS IS OF BULK AT MOST 1048576: true; the input reads as it did. -/
def cornerBoundariesJoinUptoRow : OpenClaim := { program := "ytciiikkdflhjiaa", sum := "02fb4f413c862de77e69e5755c2dbb10390e2879cfbf298ad3edb45bd31b0803", func := "voxel/voxellaw36.CornerBoundariesJoin", spec := "cornerBoundariesJoin", unfollowed := true, recurses := true, apart := false, narrowed := true }
def CornerBoundariesJoinUptoSaid : Prop := cornerBoundariesJoinUptoRow.holds Try.pinned (OpenSpec.upto cornerBoundariesJoinSpec)

/-- 'voxellaw36.CornerCyclesDivide', WHERE WHAT IT READS IS OF BULK AT MOST 1048576: true; the input reads as it did. -/
def cornerCyclesDivideUptoRow : OpenClaim := { program := "ytciiikkdflhjiaa", sum := "02fb4f413c862de77e69e5755c2dbb10390e2879cfbf298ad3edb45bd31b0803", func := "voxel/voxellaw36.CornerCyclesDivide", spec := "cornerCyclesDivide", unfollowed := true, recurses := true, apart := false, narrowed := true }
def CornerCyclesDivideUptoSaid : Prop := cornerCyclesDivideUptoRow.holds Try.pinned (OpenSpec.upto cornerCyclesDivideSpec)

/-- 'voxellaw36.CornerEndsAgree', WHERE WHAT IT READS IS OF BULK AT MOST 1048576: true; the input reads as it did. -/
def cornerEndsAgreeUptoRow : OpenClaim := { program := "ytciiikkdflhjiaa", sum := "02fb4f413c862de77e69e5755c2dbb10390e2879cfbf298ad3edb45bd31b0803", func := "voxel/voxellaw36.CornerEndsAgree", spec := "cornerEndsAgree", unfollowed := true, recurses := true, apart := false, narrowed := true }
def CornerEndsAgreeUptoSaid : Prop := cornerEndsAgreeUptoRow.holds Try.pinned (OpenSpec.upto cornerEndsAgreeSpec)

end Rows
end Go.Proofs.Ytciiikkdflhjiaa
