/- Layer 4 in plain terms: turned boxes by their corner cells. -/
import Derived.Test.YtleapeclbkclaaaGreatDoorC04L
namespace Go.Proofs.YtleapeclbkclaaaGreatDoor
namespace Vc
open Go Go.RowKit
set_option linter.unusedVariables false

/-! ### A turned box out of its turned corner cells -/
theorem pick_sub (x y z n : Int) (m : Nat) : pick (x - n) (y - n) (z - n) m = pick x y z m - n := by unfold pick; split <;> rfl
theorem dnot (t : Int) : decide (t + 1 ≤ t) = false := decide_eq_false (by omega)
theorem tl_cell {s : Int} (h : inT s) (k : Nat) {a b c d e f : Int} (n : neB a b c d e f) : min (tcB s k a b c) (tcB s k (d - 1) (e - 1) (f - 1)) = tlB s k a b c d e f := by
  have := pick_lt n (tAx s.toNat k)
  unfold tlB tcB; rw [if_pos h, if_pos n, if_pos h, if_pos h, pick_sub]
  split <;> omega
theorem th_cell {s : Int} (h : inT s) (k : Nat) {a b c d e f : Int} (n : neB a b c d e f) : max (tcB s k a b c + 1) (tcB s k (d - 1) (e - 1) (f - 1) + 1) = thB s k a b c d e f := by
  have := pick_lt n (tAx s.toNat k)
  unfold thB tcB; rw [if_pos h, if_pos n, if_pos h, if_pos h, pick_sub]
  split <;> omega
end Vc
end Go.Proofs.YtleapeclbkclaaaGreatDoor
