/- Layer 4 in plain terms: the composition of two symmetries. -/
import Derived.Test.YtaacclebncplbaaGreatDoorC04O
namespace Go.Proofs.YtaacclebncplbaaGreatDoor
namespace Vc
open Go Go.RowKit
set_option linter.unusedVariables false
theorem cm_tab : ((List.range 48).all fun a => (List.range 48).all fun b => decide (cmN a b < 48 ∧
 tnB (a : Int) 0 (tnB (b : Int) 0 1 2 3) (tnB (b : Int) 1 1 2 3) (tnB (b : Int) 2 1 2 3) = tnB (cmN a b : Nat) 0 1 2 3 ∧
 tnB (a : Int) 1 (tnB (b : Int) 0 1 2 3) (tnB (b : Int) 1 1 2 3) (tnB (b : Int) 2 1 2 3) = tnB (cmN a b : Nat) 1 1 2 3 ∧
 tnB (a : Int) 2 (tnB (b : Int) 0 1 2 3) (tnB (b : Int) 1 1 2 3) (tnB (b : Int) 2 1 2 3) = tnB (cmN a b : Nat) 2 1 2 3)) = true := by decide +kernel
theorem num_mk : ∀ t : Nat, t < 48 → numB (tnB (t : Int) 0 1 2 3) (tnB (t : Int) 1 1 2 3) (tnB (t : Int) 2 1 2 3) = t := by
 have : ((List.range 48).all fun t => decide (numB (tnB (t : Int) 0 1 2 3) (tnB (t : Int) 1 1 2 3) (tnB (t : Int) 2 1 2 3) = t)) = true := by decide +kernel
 intro t ht
 have := List.all_eq_true.1 this t (by simpa using ht)
 simpa using this
theorem cm_mark {a b : Int} (ha : inT a) (hb : inT b) : ∃ t : Nat, t < 48 ∧ cmB a b = t ∧
 tnB a 0 (tnB b 0 1 2 3) (tnB b 1 1 2 3) (tnB b 2 1 2 3) = tnB (t : Int) 0 1 2 3 ∧ tnB a 1 (tnB b 0 1 2 3) (tnB b 1 1 2 3) (tnB b 2 1 2 3) = tnB (t : Int) 1 1 2 3 ∧ tnB a 2 (tnB b 0 1 2 3) (tnB b 1 1 2 3) (tnB b 2 1 2 3) = tnB (t : Int) 2 1 2 3 := by
 have := List.all_eq_true.1 (List.all_eq_true.1 cm_tab a.toNat (by simpa using inT_nat ha)) b.toNat (by simpa using inT_nat hb)
 have ea : ((a.toNat : Nat) : Int) = a := by unfold inT at ha; omega
 have eb : ((b.toNat : Nat) : Int) = b := by unfold inT at hb; omega
 have := of_decide_eq_true this
 rw [ea, eb] at this
 exact ⟨cmN a.toNat b.toNat, this.1, by unfold cmB; exact if_pos ⟨ha, hb⟩, this.2⟩
theorem cm_out {a b : Int} (h : ¬ (inT a ∧ inT b)) : cmB a b = -1 := by unfold cmB; exact if_neg h
end Vc
end Go.Proofs.YtaacclebncplbaaGreatDoor
