/- Components: its contract and loops. -/
import Derived.Test.YtpmfkelglmgddaaGreatDoorTcAA
namespace Go.Proofs.YtpmfkelglmgddaaGreatDoor
namespace Vc
open Go Go.RowKit
set_option linter.unusedVariables false
def yq : br := ⟨56, [.one (.int .u64 1 1), .one (.int .u64 0 3072)], .eJ [(false, [.int .u64 0 0]), (false, [.int .u64 0 3072])], none, 996⟩
def lP : br := ⟨7, [BT], .one (.row 3 kQ 3072), some 957, 943⟩
def DJ : List ba := [⟨[0, 55], 20, [(.tmp 3, -1, 12287)], [(.own 3, 3, Ko, 3072)], [.ex (.var 0), .ex (.var 1)], 968, 998⟩, ⟨[0, 25], 30, [(.tmp 8, 0, 3072)], [(.own 9, 3, kQ, 3072)], [.ex (.var 0), .ex (.var 1)], 969, 999⟩, ⟨[2, 0], 40, [(.tmp 32, 0, 3072), (.cell 11 0, 0, 3072)], [(.own 9, 3, kQ, 3072)], [.ex (.var 0), .ex (.var 1)], 971, 1000⟩]
def Ks : E := .var 0
theorem GY (l : List Int) : hY l ≤ l.length := List.length_filter_le _ _
theorem GZ {x : X} (h : ∀ k : Int, 0 ≤ k → k < x.i → (x.r k 0).i = -1) : ae cb x = List.replicate x.i.toNat (-1) := by
 apply List.ext_getElem?
 intro j
 by_cases hj : j < x.i.toNat
 ·rw [bu hj, List.getElem?_replicate, if_pos hj]
  exact congrArg some (h j (by omega) (by omega))
 ·rw [List.getElem?_eq_none (by rw [aK]; omega), List.getElem?_eq_none (by simp; omega)]
theorem sR {x : Int} (h0 : 0 ≤ x) (h1 : x ≤ 4294967295) : bits .and .u64 x 4294967295 = x := by
 have hm : (BitVec.ofInt 64 (4294967295 : Int)).toNat = 2 ^ 32 - 1 := rfl
 have ha : (BitVec.ofInt 64 x &&& BitVec.ofInt 64 (4294967295 : Int)).toNat = (BitVec.ofInt 64 x).toNat % 2 ^ 32 := by
  rw [BitVec.toNat_and, hm, Nat.and_two_pow_sub_one_eq_mod]
 have hx := eX x
 show IntKind.u64.wrap ((BitVec.ofInt 64 x &&& BitVec.ofInt 64 (4294967295 : Int)).toNat : Int) = _
 rw [ha]
 have e : (((BitVec.ofInt 64 x).toNat % 2 ^ 32 : Nat) : Int) = x := by omega
 rw [e]
 exact ed ⟨by show (0 : Int) ≤ x; omega, by show x ≤ 18446744073709551615; omega⟩
theorem I9 {x : Int} (h0 : 0 ≤ x) (h1 : x ≤ 4294967295) : IntKind.wrap .u64 x = x := by
 simp [IntKind.wrap, IntKind.bits, IntKind.signed]
 omega
end Vc
end Go.Proofs.YtpmfkelglmgddaaGreatDoor
