/-
  NARROWER THAN 'FOR EVERY INPUT', by the rows' own cells (each row's printed sentence says how): SettleRoundMatchesSpec: laid · SettleMatchesSpec: laid · SettleKeepsCells: laid · SettleDescends: laid · SettleEnds: laid · SettleByTheClock: laid.
  DERIVED. THE GIVEN ROWS OF THIS SEAT. 6 by the template 'for every input the law returns true; each argument reads behind the call as it read before'; 0 by the template 'total and deterministic' (their statements: YtgbaelpcbhgdjaaDoorTotals.lean).
  GIVEN WITH THE SEED: the statements are not yours to turn. If you find one false, say at which input.
  Laid BY PROGRAM, IN A SANDBOX (cutbox-rows.mjs): the forced cells as the released guide's own fill.sh prints them over the translation 9024a748eed69cf1… (all of the seat's roots in one cut). By AI agents, Wed Nov 11 2026. No macro, syntax, notation, axiom, sorry.
-/
import Derived.Test.YtgbaelpcbhgdjaaDoorChecked
import GoSem.Claim
import GoSem.ClaimJoined
import GoSem.ClaimMapViews
import Derived.JoinedTies
import Derived.KernelRfl
namespace Go.Proofs.YtgbaelpcbhgdjaaDoor
/- THE CELL 'sum', in the pinned program and in every row, IS THE sha256 OF THE DUMP (.gsa) THAT YtgbaelpcbhgdjaaDoorProg.lean LOADS. Nothing in Lean hashes anything: it is a label: what it is worth is what the hold of that sum in a sandbox is worth. -/
noncomputable def Tryd.pinned : Pinned := { name := "ytgbaelpcbhgdjaadoor", sum := "9024a748eed69cf1ce918f9d16f62d5f4ee92638d74e8a983338c5a4a2fc3fd0", checked := Tryd.checked }
namespace Rows
def none {H : Type} : Left H := { results := [], args := [] }

/- WHAT THE LISTED PACKAGE-LEVEL VARIABLES READ AS WHEN THE CALL BEGINS. Each datum BY PROGRAM (the guide's laid-datum.mjs) off the statement by which the dump's own 'gosem.cut.vars' lays the variable. In a bare row this is a premise. The card (YtgbaelpcbhgdjaaDoorCards.lean) ties it to the program's text. -/
def laid_voxel_settle_directions {H : Type} : DataW H := .agg [.agg [.lit (.int .i64 1), .lit (.int .i64 0), .lit (.int .i64 0)], .agg [.lit (.int .i64 0), .lit (.int .i64 1), .lit (.int .i64 0)], .agg [.lit (.int .i64 (-1)), .lit (.int .i64 0), .lit (.int .i64 0)], .agg [.lit (.int .i64 0), .lit (.int .i64 (-1)), .lit (.int .i64 0)]]

/-- 'voxellaw30.SettleRoundMatchesSpec': WHATEVER THE INPUT: true; the input reads as it did. -/
def settleRoundMatchesSpecSpec : ChangeSpec := { name := "settleRoundMatchesSpec", fn := fun _ => fun
  | [d1, d2, d3, d4, d5] => { results := [.lit (.bool true)], args := [d1, d2, d3, d4, d5] }
  | _ => none }
def settleRoundMatchesSpecRow : OpenClaim := { program := "ytgbaelpcbhgdjaadoor", sum := "9024a748eed69cf1ce918f9d16f62d5f4ee92638d74e8a983338c5a4a2fc3fd0", func := "voxel/voxellaw30.SettleRoundMatchesSpec", spec := "settleRoundMatchesSpec", unfollowed := true, recurses := true, named := ["voxel/settle.directions"], apart := false, laid := [("voxel/settle.directions", laid_voxel_settle_directions)] }
def SettleRoundMatchesSpecSaid : Prop := settleRoundMatchesSpecRow.holds Tryd.pinned (OpenSpec.ofChange settleRoundMatchesSpecSpec)

/-- ITS FALSE NEIGHBOUR: 'it returns false'. Refute it at one input. -/
def settleRoundMatchesSpecWrong : ChangeSpec := { name := "settleRoundMatchesSpec", fn := fun _ => fun
  | [d1, d2, d3, d4, d5] => { results := [.lit (.bool false)], args := [d1, d2, d3, d4, d5] }
  | _ => none }
def SettleRoundMatchesSpecWrongFalsely : Prop := settleRoundMatchesSpecRow.holds Tryd.pinned (OpenSpec.ofChange settleRoundMatchesSpecWrong)

/-- 'voxellaw30.SettleMatchesSpec': WHATEVER THE INPUT: true; the input reads as it did. -/
def settleMatchesSpecSpec : ChangeSpec := { name := "settleMatchesSpec", fn := fun _ => fun
  | [d1, d2, d3, d4] => { results := [.lit (.bool true)], args := [d1, d2, d3, d4] }
  | _ => none }
def settleMatchesSpecRow : OpenClaim := { program := "ytgbaelpcbhgdjaadoor", sum := "9024a748eed69cf1ce918f9d16f62d5f4ee92638d74e8a983338c5a4a2fc3fd0", func := "voxel/voxellaw30.SettleMatchesSpec", spec := "settleMatchesSpec", unfollowed := true, recurses := true, named := ["voxel/settle.directions"], apart := false, laid := [("voxel/settle.directions", laid_voxel_settle_directions)] }
def SettleMatchesSpecSaid : Prop := settleMatchesSpecRow.holds Tryd.pinned (OpenSpec.ofChange settleMatchesSpecSpec)

/-- ITS FALSE NEIGHBOUR: 'it returns false'. Refute it at one input. -/
def settleMatchesSpecWrong : ChangeSpec := { name := "settleMatchesSpec", fn := fun _ => fun
  | [d1, d2, d3, d4] => { results := [.lit (.bool false)], args := [d1, d2, d3, d4] }
  | _ => none }
def SettleMatchesSpecWrongFalsely : Prop := settleMatchesSpecRow.holds Tryd.pinned (OpenSpec.ofChange settleMatchesSpecWrong)

/-- 'voxellaw30.SettleKeepsCells': WHATEVER THE INPUT: true; the input reads as it did. -/
def settleKeepsCellsSpec : ChangeSpec := { name := "settleKeepsCells", fn := fun _ => fun
  | [d1, d2, d3, d4] => { results := [.lit (.bool true)], args := [d1, d2, d3, d4] }
  | _ => none }
def settleKeepsCellsRow : OpenClaim := { program := "ytgbaelpcbhgdjaadoor", sum := "9024a748eed69cf1ce918f9d16f62d5f4ee92638d74e8a983338c5a4a2fc3fd0", func := "voxel/voxellaw30.SettleKeepsCells", spec := "settleKeepsCells", unfollowed := true, recurses := true, named := ["voxel/settle.directions"], apart := false, laid := [("voxel/settle.directions", laid_voxel_settle_directions)] }
def SettleKeepsCellsSaid : Prop := settleKeepsCellsRow.holds Tryd.pinned (OpenSpec.ofChange settleKeepsCellsSpec)

/-- ITS FALSE NEIGHBOUR: 'it returns false'. Refute it at one input. -/
def settleKeepsCellsWrong : ChangeSpec := { name := "settleKeepsCells", fn := fun _ => fun
  | [d1, d2, d3, d4] => { results := [.lit (.bool false)], args := [d1, d2, d3, d4] }
  | _ => none }
def SettleKeepsCellsWrongFalsely : Prop := settleKeepsCellsRow.holds Tryd.pinned (OpenSpec.ofChange settleKeepsCellsWrong)

/-- 'voxellaw30.SettleDescends': WHATEVER THE INPUT: true; the input reads as it did. -/
def settleDescendsSpec : ChangeSpec := { name := "settleDescends", fn := fun _ => fun
  | [d1, d2, d3] => { results := [.lit (.bool true)], args := [d1, d2, d3] }
  | _ => none }
def settleDescendsRow : OpenClaim := { program := "ytgbaelpcbhgdjaadoor", sum := "9024a748eed69cf1ce918f9d16f62d5f4ee92638d74e8a983338c5a4a2fc3fd0", func := "voxel/voxellaw30.SettleDescends", spec := "settleDescends", unfollowed := true, recurses := true, named := ["voxel/settle.directions"], apart := false, laid := [("voxel/settle.directions", laid_voxel_settle_directions)] }
def SettleDescendsSaid : Prop := settleDescendsRow.holds Tryd.pinned (OpenSpec.ofChange settleDescendsSpec)

/-- ITS FALSE NEIGHBOUR: 'it returns false'. Refute it at one input. -/
def settleDescendsWrong : ChangeSpec := { name := "settleDescends", fn := fun _ => fun
  | [d1, d2, d3] => { results := [.lit (.bool false)], args := [d1, d2, d3] }
  | _ => none }
def SettleDescendsWrongFalsely : Prop := settleDescendsRow.holds Tryd.pinned (OpenSpec.ofChange settleDescendsWrong)

/-- 'voxellaw30.SettleEnds': WHATEVER THE INPUT: true; the input reads as it did. -/
def settleEndsSpec : ChangeSpec := { name := "settleEnds", fn := fun _ => fun
  | [d1, d2, d3, d4] => { results := [.lit (.bool true)], args := [d1, d2, d3, d4] }
  | _ => none }
def settleEndsRow : OpenClaim := { program := "ytgbaelpcbhgdjaadoor", sum := "9024a748eed69cf1ce918f9d16f62d5f4ee92638d74e8a983338c5a4a2fc3fd0", func := "voxel/voxellaw30.SettleEnds", spec := "settleEnds", unfollowed := true, recurses := true, named := ["voxel/settle.directions"], apart := false, laid := [("voxel/settle.directions", laid_voxel_settle_directions)] }
def SettleEndsSaid : Prop := settleEndsRow.holds Tryd.pinned (OpenSpec.ofChange settleEndsSpec)

/-- ITS FALSE NEIGHBOUR: 'it returns false'. Refute it at one input. -/
def settleEndsWrong : ChangeSpec := { name := "settleEnds", fn := fun _ => fun
  | [d1, d2, d3, d4] => { results := [.lit (.bool false)], args := [d1, d2, d3, d4] }
  | _ => none }
def SettleEndsWrongFalsely : Prop := settleEndsRow.holds Tryd.pinned (OpenSpec.ofChange settleEndsWrong)

/-- 'voxellaw30.SettleByTheClock': WHATEVER THE INPUT: true; the input reads as it did. -/
def settleByTheClockSpec : ChangeSpec := { name := "settleByTheClock", fn := fun _ => fun
  | [d1, d2, d3, d4] => { results := [.lit (.bool true)], args := [d1, d2, d3, d4] }
  | _ => none }
def settleByTheClockRow : OpenClaim := { program := "ytgbaelpcbhgdjaadoor", sum := "9024a748eed69cf1ce918f9d16f62d5f4ee92638d74e8a983338c5a4a2fc3fd0", func := "voxel/voxellaw30.SettleByTheClock", spec := "settleByTheClock", unfollowed := true, recurses := true, named := ["voxel/settle.directions"], apart := false, laid := [("voxel/settle.directions", laid_voxel_settle_directions)] }
def SettleByTheClockSaid : Prop := settleByTheClockRow.holds Tryd.pinned (OpenSpec.ofChange settleByTheClockSpec)

/-- ITS FALSE NEIGHBOUR: 'it returns false'. Refute it at one input. -/
def settleByTheClockWrong : ChangeSpec := { name := "settleByTheClock", fn := fun _ => fun
  | [d1, d2, d3, d4] => { results := [.lit (.bool false)], args := [d1, d2, d3, d4] }
  | _ => none }
def SettleByTheClockWrongFalsely : Prop := settleByTheClockRow.holds Tryd.pinned (OpenSpec.ofChange settleByTheClockWrong)

/- THE SECOND FORM. 'bulk': how many values and letters a reading holds, each counted each time it is reached (what is shared counts as often as it is met; a slice's spare places count too). A statement '..UptoSaid' is the law's where the arguments, and the package variables that the reading takes, are together of bulk at most 1048576: NARROWER than '..Said'. Prove '..Said' where nothing that the law and all that it calls make is longer than what came in: it says more and counts as full. Else prove '..UptoSaid'. A law counts once. -/
mutual
def uptoBulk {H : Type} : DataW H → Nat
  | .lit (.string bytes) => bytes.length + 1
  | .lit _ => 1
  | .nil => 1
  | .ptr d => uptoBulk d + 1
  | .slice elems spare => uptoBulkAll elems + uptoBulkAll spare + 1
  | .agg parts => uptoBulkAll parts + 1
  | .iface _ d => uptoBulk d + 1
  | .map entries => uptoBulkEntries entries + 1
  | .held _ => 1
def uptoBulkAll {H : Type} : List (DataW H) → Nat
  | [] => 0
  | d :: r => uptoBulk d + uptoBulkAll r
def uptoBulkEntries {H : Type} : List (Lit × DataW H) → Nat
  | [] => 0
  | x :: r => uptoBulkEntry x + uptoBulkEntries r
def uptoBulkEntry {H : Type} : Lit × DataW H → Nat
  | (.string bytes, d) => bytes.length + uptoBulk d + 1
  | (_, d) => uptoBulk d + 1
 end
def uptoSmall : (H : Type) → List (DataW H) → Bool := fun _ ds => decide (uptoBulkAll ds ≤ 1048576)
def OpenSpec.upto (s : _root_.Go.ChangeSpec) : _root_.Go.OpenSpec := { _root_.Go.OpenSpec.ofChange s with cond := some uptoSmall }

/-- 'voxellaw30.SettleRoundMatchesSpec', WHERE WHAT IT READS IS OF BULK AT MOST 1048576: true; the input reads as it did. -/
def settleRoundMatchesSpecUptoRow : OpenClaim := { program := "ytgbaelpcbhgdjaadoor", sum := "9024a748eed69cf1ce918f9d16f62d5f4ee92638d74e8a983338c5a4a2fc3fd0", func := "voxel/voxellaw30.SettleRoundMatchesSpec", spec := "settleRoundMatchesSpec", unfollowed := true, recurses := true, named := ["voxel/settle.directions"], apart := false, laid := [("voxel/settle.directions", laid_voxel_settle_directions)], narrowed := true }
def SettleRoundMatchesSpecUptoSaid : Prop := settleRoundMatchesSpecUptoRow.holds Tryd.pinned (OpenSpec.upto settleRoundMatchesSpecSpec)

/-- 'voxellaw30.SettleMatchesSpec', WHERE WHAT IT READS IS OF BULK AT MOST 1048576: true; the input reads as it did. -/
def settleMatchesSpecUptoRow : OpenClaim := { program := "ytgbaelpcbhgdjaadoor", sum := "9024a748eed69cf1ce918f9d16f62d5f4ee92638d74e8a983338c5a4a2fc3fd0", func := "voxel/voxellaw30.SettleMatchesSpec", spec := "settleMatchesSpec", unfollowed := true, recurses := true, named := ["voxel/settle.directions"], apart := false, laid := [("voxel/settle.directions", laid_voxel_settle_directions)], narrowed := true }
def SettleMatchesSpecUptoSaid : Prop := settleMatchesSpecUptoRow.holds Tryd.pinned (OpenSpec.upto settleMatchesSpecSpec)

/-- 'voxellaw30.SettleKeepsCells', WHERE WHAT IT READS IS OF BULK AT MOST 1048576: true; the input reads as it did. -/
def settleKeepsCellsUptoRow : OpenClaim := { program := "ytgbaelpcbhgdjaadoor", sum := "9024a748eed69cf1ce918f9d16f62d5f4ee92638d74e8a983338c5a4a2fc3fd0", func := "voxel/voxellaw30.SettleKeepsCells", spec := "settleKeepsCells", unfollowed := true, recurses := true, named := ["voxel/settle.directions"], apart := false, laid := [("voxel/settle.directions", laid_voxel_settle_directions)], narrowed := true }
def SettleKeepsCellsUptoSaid : Prop := settleKeepsCellsUptoRow.holds Tryd.pinned (OpenSpec.upto settleKeepsCellsSpec)

/-- 'voxellaw30.SettleDescends', WHERE WHAT IT READS IS OF BULK AT MOST 1048576: true; the input reads as it did. -/
def settleDescendsUptoRow : OpenClaim := { program := "ytgbaelpcbhgdjaadoor", sum := "9024a748eed69cf1ce918f9d16f62d5f4ee92638d74e8a983338c5a4a2fc3fd0", func := "voxel/voxellaw30.SettleDescends", spec := "settleDescends", unfollowed := true, recurses := true, named := ["voxel/settle.directions"], apart := false, laid := [("voxel/settle.directions", laid_voxel_settle_directions)], narrowed := true }
def SettleDescendsUptoSaid : Prop := settleDescendsUptoRow.holds Tryd.pinned (OpenSpec.upto settleDescendsSpec)

/-- 'voxellaw30.SettleEnds', WHERE WHAT IT READS IS OF BULK AT MOST 1048576: true; the input reads as it did. -/
def settleEndsUptoRow : OpenClaim := { program := "ytgbaelpcbhgdjaadoor", sum := "9024a748eed69cf1ce918f9d16f62d5f4ee92638d74e8a983338c5a4a2fc3fd0", func := "voxel/voxellaw30.SettleEnds", spec := "settleEnds", unfollowed := true, recurses := true, named := ["voxel/settle.directions"], apart := false, laid := [("voxel/settle.directions", laid_voxel_settle_directions)], narrowed := true }
def SettleEndsUptoSaid : Prop := settleEndsUptoRow.holds Tryd.pinned (OpenSpec.upto settleEndsSpec)

/-- 'voxellaw30.SettleByTheClock', WHERE WHAT IT READS IS OF BULK AT MOST 1048576: true; the input reads as it did. -/
def settleByTheClockUptoRow : OpenClaim := { program := "ytgbaelpcbhgdjaadoor", sum := "9024a748eed69cf1ce918f9d16f62d5f4ee92638d74e8a983338c5a4a2fc3fd0", func := "voxel/voxellaw30.SettleByTheClock", spec := "settleByTheClock", unfollowed := true, recurses := true, named := ["voxel/settle.directions"], apart := false, laid := [("voxel/settle.directions", laid_voxel_settle_directions)], narrowed := true }
def SettleByTheClockUptoSaid : Prop := settleByTheClockUptoRow.holds Tryd.pinned (OpenSpec.upto settleByTheClockSpec)

end Rows
end Go.Proofs.YtgbaelpcbhgdjaaDoor
