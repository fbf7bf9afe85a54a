/- Contracts of functions, each out of one walk. -/
import Derived.Test.YtokicaoapclicaaC41N
namespace Go.Proofs.Ytokicaoapclicaa
namespace Vc
open Go Go.RowKit
set_option linter.unusedVariables false

/-- What is left of the contract of voxelref06.Solid. -/
def MSolRP (x0 : X) (x1 : Int) : Prop :=
((((x1 < 0) ∨ (x0.i ≤ x1)) →
((false = true) ↔ (Ff 670 [x0, xI x1]).b = true)) ∧
((¬ ((x1 < 0) ∨ (x0.i ≤ x1))) →
((x1 < x0.i) ∧
(((x0.r x1 1).b = true) ↔ (Ff 670 [x0, xI x1]).b = true))))
theorem MSolRL (x0 : X) (x1 : Int) : (ctrR (fun j => Ff j [x0, xI x1]) cMSolR.fs cMSolR.res { ρ0 with x := fun j => [x0, xI x1].getD j (xI 0) } (walkR Try.prog (cfG none [] [] [] sumL) Try.f24 400 cMSolR.args)) = MSolRP x0 x1 := by kernel_rfl
set_option maxHeartbeats 4000000 in
theorem MSolRO (x0 : X) (x1 : Int) (g0 : 0 ≤ x0.i ∧ x0.i ≤ 9223372036854775807 ∧ RowOk [.str (9223372036854775807), .bool, .bool, .bool, .int .i64 (-9223372036854775808) (9223372036854775807), .int .i64 (-9223372036854775808) (9223372036854775807), .int .i64 (-9223372036854775808) (9223372036854775807), .int .i64 (-9223372036854775808) (9223372036854775807)] x0.r x0.i.toNat) (g1 : -9223372036854775808 ≤ x1 ∧ x1 ≤ 9223372036854775807) : MSolRP x0 x1 := by
  unfold MSolRP
  refine And.intro ?_ ?_
  · intro h1
    skip -- #0
    refine iff_of_false Bool.false_ne_true fun hv => ?_
    rw [show (Ff 670 [x0, xI x1]).b = solX x0 x1 from rfl, sol_off h1] at hv
    cases hv
  intro h2
  refine andI ?_ fun o3 => ?_
  · omega -- #1
  rw [show (Ff 670 [x0, xI x1]).b = solX x0 x1 from rfl, sol_on h2] -- #2
theorem kMSolR : RCtrOk Try.prog ρ0 cMSolR := by
  refine rctr_of (cf := cfG none [] [] [] sumL) (cfG_ok keep0 keepR0 noF) Try.func24 rfl 400 rfl fun ds hr => ?_
  have hr := rshX_flat hr
  match ds, hr with
  | [d0, d1], hr =>
    obtain ⟨l0, ⟨e1, l1, u1⟩, _⟩ := hr
    generalize d0 = x0 at *
    generalize d1.i = x1 at *
    subst e1
    exact Eq.mpr (MSolRL x0 x1) (MSolRO x0 x1 l0 ⟨l1, u1⟩)
theorem nMSolR : ∃ fn, Try.prog.funcs[cMSolR.f]? = some fn ∧ fn.body.isSome = true ∧ (fn.name == "runtime.NumGoroutine") = false := ⟨_, Try.func24, by kernel_rfl, by kernel_rfl⟩
end Vc
end Go.Proofs.Ytokicaoapclicaa
