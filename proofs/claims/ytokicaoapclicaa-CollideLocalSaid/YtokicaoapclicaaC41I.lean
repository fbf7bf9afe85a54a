/- Contracts of functions, each out of one walk. -/
import Derived.Test.YtokicaoapclicaaC41L
namespace Go.Proofs.Ytokicaoapclicaa
namespace Vc
open Go Go.RowKit
set_option linter.unusedVariables false

/-- What is left of the contract of voxelref41.Moved. -/
def MvP (x0 : Int) (x1 : Int) (x2 : Int) (x3 : Int) (x4 : Int) (x5 : Int) (x6 : Int) (x7 : Int) : Prop :=
(((x0 + ((bif (decide (x6 = 0)) then 1 else 0) * x7)) = (Ff 604 [xI x0, xI x1, xI x2, xI x3, xI x4, xI x5, xI x6, xI x7]).i ∧ -2200 ≤ (Ff 604 [xI x0, xI x1, xI x2, xI x3, xI x4, xI x5, xI x6, xI x7]).i ∧ (Ff 604 [xI x0, xI x1, xI x2, xI x3, xI x4, xI x5, xI x6, xI x7]).i ≤ 2200) ∧ (((x1 + ((bif (decide (x6 = 0)) then 0 else (bif (decide (x6 = 1)) then 1 else 0)) * x7)) = (Ff 605 [xI x0, xI x1, xI x2, xI x3, xI x4, xI x5, xI x6, xI x7]).i ∧ -2200 ≤ (Ff 605 [xI x0, xI x1, xI x2, xI x3, xI x4, xI x5, xI x6, xI x7]).i ∧ (Ff 605 [xI x0, xI x1, xI x2, xI x3, xI x4, xI x5, xI x6, xI x7]).i ≤ 2200) ∧ (((x2 + ((bif (decide (x6 = 0)) then 0 else (bif (decide (x6 = 1)) then 0 else 1)) * x7)) = (Ff 606 [xI x0, xI x1, xI x2, xI x3, xI x4, xI x5, xI x6, xI x7]).i ∧ -2200 ≤ (Ff 606 [xI x0, xI x1, xI x2, xI x3, xI x4, xI x5, xI x6, xI x7]).i ∧ (Ff 606 [xI x0, xI x1, xI x2, xI x3, xI x4, xI x5, xI x6, xI x7]).i ≤ 2200) ∧ (((x3 + ((bif (decide (x6 = 0)) then 1 else 0) * x7)) = (Ff 607 [xI x0, xI x1, xI x2, xI x3, xI x4, xI x5, xI x6, xI x7]).i ∧ -2200 ≤ (Ff 607 [xI x0, xI x1, xI x2, xI x3, xI x4, xI x5, xI x6, xI x7]).i ∧ (Ff 607 [xI x0, xI x1, xI x2, xI x3, xI x4, xI x5, xI x6, xI x7]).i ≤ 2200) ∧ (((x4 + ((bif (decide (x6 = 0)) then 0 else (bif (decide (x6 = 1)) then 1 else 0)) * x7)) = (Ff 608 [xI x0, xI x1, xI x2, xI x3, xI x4, xI x5, xI x6, xI x7]).i ∧ -2200 ≤ (Ff 608 [xI x0, xI x1, xI x2, xI x3, xI x4, xI x5, xI x6, xI x7]).i ∧ (Ff 608 [xI x0, xI x1, xI x2, xI x3, xI x4, xI x5, xI x6, xI x7]).i ≤ 2200) ∧ ((x5 + ((bif (decide (x6 = 0)) then 0 else (bif (decide (x6 = 1)) then 0 else 1)) * x7)) = (Ff 609 [xI x0, xI x1, xI x2, xI x3, xI x4, xI x5, xI x6, xI x7]).i ∧ -2200 ≤ (Ff 609 [xI x0, xI x1, xI x2, xI x3, xI x4, xI x5, xI x6, xI x7]).i ∧ (Ff 609 [xI x0, xI x1, xI x2, xI x3, xI x4, xI x5, xI x6, xI x7]).i ≤ 2200))))))
theorem MvL (x0 : Int) (x1 : Int) (x2 : Int) (x3 : Int) (x4 : Int) (x5 : Int) (x6 : Int) (x7 : Int) : ((walkF Try.prog (cf0 []) Try.f26 300 (shS cMv.args 0)).ctr { ρ0 with x := fun j => [xI x0, xI x1, xI x2, xI x3, xI x4, xI x5, xI x6, xI x7].getD j (xI 0) } (fun j => Ff j [xI x0, xI x1, xI x2, xI x3, xI x4, xI x5, xI x6, xI x7]) cMv.fs cMv.res) = MvP x0 x1 x2 x3 x4 x5 x6 x7 := by kernel_rfl
set_option maxHeartbeats 4000000 in
theorem MvO (x0 : Int) (x1 : Int) (x2 : Int) (x3 : Int) (x4 : Int) (x5 : Int) (x6 : Int) (x7 : Int) (g0 : -2000 ≤ x0 ∧ x0 ≤ 2000) (g1 : -2000 ≤ x1 ∧ x1 ≤ 2000) (g2 : -2000 ≤ x2 ∧ x2 ≤ 2000) (g3 : -2000 ≤ x3 ∧ x3 ≤ 2000) (g4 : -2000 ≤ x4 ∧ x4 ≤ 2000) (g5 : -2000 ≤ x5 ∧ x5 ≤ 2000) (g6 : 0 ≤ x6 ∧ x6 ≤ 2) (g7 : -200 ≤ x7 ∧ x7 ≤ 200) : MvP x0 x1 x2 x3 x4 x5 x6 x7 := by
  unfold MvP
  skip -- #0
  obtain rfl | rfl | rfl : x6 = 0 ∨ x6 = 1 ∨ x6 = 2 := by omega
  all_goals
    simp [xI_i, f604, f605, f606, f607, f608, f609, mvB, bxX]
    omega
theorem kMv : CtrOk Try.prog ρ0 cMv := by
  refine ctr_of (cf := cf0 []) (cf0_ok keep0) Try.func26 rfl 300 fun ds hr => ?_
  match ds, hr with
  | [d0, d1, d2, d3, d4, d5, d6, d7], hr =>
    obtain ⟨⟨⟨e0, l0, u0⟩, ⟨e1, l1, u1⟩, ⟨e2, l2, u2⟩, ⟨e3, l3, u3⟩, ⟨e4, l4, u4⟩, ⟨e5, l5, u5⟩, _⟩, ⟨⟨e6, l6, u6⟩, _⟩, ⟨⟨e7, l7, u7⟩, _⟩, _⟩ := hr
    generalize d0.i = x0 at *
    generalize d1.i = x1 at *
    generalize d2.i = x2 at *
    generalize d3.i = x3 at *
    generalize d4.i = x4 at *
    generalize d5.i = x5 at *
    generalize d6.i = x6 at *
    generalize d7.i = x7 at *
    subst e0 e1 e2 e3 e4 e5 e6 e7
    exact Eq.mpr (MvL x0 x1 x2 x3 x4 x5 x6 x7) (MvO x0 x1 x2 x3 x4 x5 x6 x7 ⟨l0, u0⟩ ⟨l1, u1⟩ ⟨l2, u2⟩ ⟨l3, u3⟩ ⟨l4, u4⟩ ⟨l5, u5⟩ ⟨l6, u6⟩ ⟨l7, u7⟩)
theorem nMv : ∃ fn, Try.prog.funcs[cMv.f]? = some fn ∧ fn.body.isSome = true ∧ (fn.name == "runtime.NumGoroutine") = false := ⟨_, Try.func26, by kernel_rfl, by kernel_rfl⟩
end Vc
end Go.Proofs.Ytokicaoapclicaa
