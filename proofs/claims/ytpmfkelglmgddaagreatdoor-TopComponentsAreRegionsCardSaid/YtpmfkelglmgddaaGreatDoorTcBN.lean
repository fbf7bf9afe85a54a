/- Contracts of functions, each out of one walk. -/
import Derived.Test.YtpmfkelglmgddaaGreatDoorTcBO
namespace Go.Proofs.YtpmfkelglmgddaaGreatDoor
namespace Vc
open Go Go.RowKit
set_option linter.unusedVariables false
def KI (x0 x1 x2 x3 x4 x5 : Int) : Prop :=
 let A := [xI x0, xI x1, xI x2, xI x3, xI x4, xI x5]; (((bif (!(decide (x2 = x5))) then ((bif (!(decide (x1 = x4))) then ((bif (!(decide (x0 = x3))) then (1 : Int) else 0) + 1) else (bif (!(decide (x0 = x3))) then (1 : Int) else 0)) + 1) else (bif (!(decide (x1 = x4))) then ((bif (!(decide (x0 = x3))) then (1 : Int) else 0) + 1) else (bif (!(decide (x0 = x3))) then (1 : Int) else 0))) = 1) ↔ (Ff 929 A).b = true)
theorem PA (x0 x1 x2 x3 x4 x5 : Int) : (bS (fun j => Ff j [xI x0, xI x1, xI x2, xI x3, xI x4, xI x5]) wc.fs wc.res { ρ0 with x := fun j => [xI x0, xI x1, xI x2, xI x3, xI x4, xI x5].getD j (xI 0) } (bP Tryz.prog (gx none [] [] [] bq) Tryz.f35 600 wc.args)) = KI x0 x1 x2 x3 x4 x5 := by kernel_rfl
set_option maxHeartbeats 4000000 in
theorem PB (x0 x1 x2 x3 x4 x5 : Int) (g0 : -1000 ≤ x0 ∧ x0 ≤ 1000) (g1 : -1000 ≤ x1 ∧ x1 ≤ 1000) (g2 : -1000 ≤ x2 ∧ x2 ≤ 1000) (g3 : -1000 ≤ x3 ∧ x3 ≤ 1000) (g4 : -1000 ≤ x4 ∧ x4 ≤ 1000) (g5 : -1000 ≤ x5 ∧ x5 ≤ 1000) : KI x0 x1 x2 x3 x4 x5 := by
 unfold KI
 intro A
 show _ ↔ decide ((if x0 = x3 then 0 else 1) + (if x1 = x4 then 0 else 1) + (if x2 = x5 then (0 : Int) else 1) = 1) = true
 rw [decide_eq_true_eq]
 by_cases h0 : x0 = x3 <;> by_cases h1 : x1 = x4 <;> by_cases h2 : x2 = x5 <;> simp [h0, h1, h2]
theorem Pu : aZ Tryz.prog ρ0 wc := by
 refine db (cf := gx none [] [] [] bq) (cI bt bw kO) Tryz.func35 rfl 600 rfl fun ds hr => ?_
 have hr := aA hr
 match ds, hr with
 | [d0, d1, d2, d3, d4, d5], hr =>
  obtain ⟨⟨e0, l0, u0⟩, ⟨e1, l1, u1⟩, ⟨e2, l2, u2⟩, ⟨e3, l3, u3⟩, ⟨e4, l4, u4⟩, ⟨e5, l5, u5⟩, _⟩ := hr
  generalize d0.i = x0, d1.i = x1, d2.i = x2, d3.i = x3, d4.i = x4, d5.i = x5 at *
  subst e0 e1 e2 e3 e4 e5
  exact Eq.mpr (PA x0 x1 x2 x3 x4 x5) (PB x0 x1 x2 x3 x4 x5 ⟨l0, u0⟩ ⟨l1, u1⟩ ⟨l2, u2⟩ ⟨l3, u3⟩ ⟨l4, u4⟩ ⟨l5, u5⟩)
theorem Pv : Hs wc.f := ⟨_, Tryz.func35, by kernel_rfl, by kernel_rfl⟩
end Vc
end Go.Proofs.YtpmfkelglmgddaaGreatDoor
