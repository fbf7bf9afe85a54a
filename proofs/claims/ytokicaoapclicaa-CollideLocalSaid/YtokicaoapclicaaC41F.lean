/- Contracts of functions, each out of one walk. -/
import Derived.Test.YtokicaoapclicaaC41R
namespace Go.Proofs.Ytokicaoapclicaa
namespace Vc
open Go Go.RowKit
set_option linter.unusedVariables false

/-- What is left of the contract of voxellaw41.example. -/
def ExP  : Prop :=
  ((0 = (0 : Int)) ∧ ((0 = (0 : Int)) ∧ ((0 = (0 : Int)) ∧ ((4 = (4 : Int)) ∧ ((4 = (4 : Int)) ∧ ((4 = (4 : Int)) ∧ (rowEq [.int .i64 (0) (255)] (Ff 666 []) (rwSet (rwSet (rwSet (rwSet (rwSet (rwSet (rwSet (rwSet (rwSet (rwSet (rwSet (rwSet (rwSet (rwSet (rwSet (rwSet (rwSet (rwSet (rwTab 1 [(xI 0), (xI 0), (xI 0), (xI 0), (xI 0), (xI 0), (xI 0), (xI 0), (xI 0), (xI 0), (xI 0), (xI 0), (xI 0), (xI 0), (xI 0), (xI 0), (xI 0), (xI 0), (xI 0), (xI 0), (xI 0), (xI 0), (xI 0), (xI 0), (xI 0), (xI 0), (xI 0), (xI 0), (xI 0), (xI 0), (xI 0), (xI 0), (xI 0), (xI 0), (xI 0), (xI 0), (xI 0), (xI 0), (xI 0), (xI 0), (xI 0), (xI 0), (xI 0), (xI 0), (xI 0), (xI 0), (xI 0), (xI 0), (xI 0), (xI 0), (xI 0), (xI 0), (xI 0), (xI 0), (xI 0), (xI 0), (xI 0), (xI 0), (xI 0), (xI 0), (xI 0), (xI 0), (xI 0), (xI 0)]) 0 0 (xI 1)) 1 0 (xI 1)) 2 0 (xI 1)) 3 0 (xI 1)) 4 0 (xI 1)) 5 0 (xI 1)) 6 0 (xI 1)) 7 0 (xI 1)) 8 0 (xI 1)) 9 0 (xI 1)) 10 0 (xI 1)) 11 0 (xI 1)) 12 0 (xI 1)) 13 0 (xI 1)) 14 0 (xI 1)) 15 0 (xI 1)) 18 0 (xI 1)) 22 0 (xI 1)) 64 64)))))))
theorem ExL  : (ctrR (fun j => Ff j []) cEx.fs cEx.res { ρ0 with x := fun j => [].getD j (xI 0) } (walkR Try.prog (cfG (some Ff) lS [] [] sumL) Try.f30 6000 cEx.args)) = ExP  := by kernel_rfl
set_option maxHeartbeats 1000000 in
theorem ExO   : ExP  := by
  unfold ExP
  refine ⟨rfl, rfl, rfl, rfl, rfl, rfl, rfl, Int.le_refl _, fun i hi => ⟨?_, trivial⟩⟩
  have hi' : i < 64 := by omega
  clear hi
  revert i
  decide +kernel
theorem kEx : RCtrOk Try.prog ρ0 cEx := by
  refine rctr_of (cf := cfG (some Ff) lS [] [] sumL) (cfS_ok) Try.func30 rfl 6000 rfl fun ds hr => ?_
  have hr : ds = [] := hr
  subst hr
  exact Eq.mpr ExL ExO
theorem nEx : ∃ fn, Try.prog.funcs[cEx.f]? = some fn ∧ fn.body.isSome = true ∧ (fn.name == "runtime.NumGoroutine") = false := ⟨_, Try.func30, by kernel_rfl, by kernel_rfl⟩
end Vc
end Go.Proofs.Ytokicaoapclicaa
