/- The configurations of a seat without variables. -/
import Derived.Test.YtokicaoapclicaaC04A
import Derived.Test.YtokicaoapclicaaC04Y
namespace Go.Proofs.Ytokicaoapclicaa
namespace Vc
open Go Go.RowKit Go.ChangeShapes Go.WideShapes Go.ChangeAt
set_option linter.unusedVariables false

def globs : List (Nat × List Value) := []
def eqs : List (TypeId × List Kd) := eqsX ++ [(24, List.replicate 3 (.int .i64)), (26, List.replicate 6 (.int .i64))]
def ρ0 : Env := { x := fun _ => xI 0, f := Ff, p := Px, g := globs }
noncomputable def cf0 (cs : List Ctr) : Cfg := { eqT := eqs, ctrs := cs, qctrs := [], fns := fnL, F := none, globs := globs, sums := sumL }
theorem cf0_ok {cs : List Ctr} (h : ∀ c ∈ cs, CtrOk Try.prog ρ0 c ∧ ∃ fn, Try.prog.funcs[c.f]? = some fn ∧ fn.body.isSome = true ∧ (fn.name == "runtime.NumGoroutine") = false) : CfgOk Try.prog ρ0 (cf0 cs) where
  eq := eqTOk_ok (by kernel_rfl)
  globs := rfl
  F := fun F h => by cases h
  mixed := by kernel_rfl
  fns := fnOk.look
  ctr := fun c hc => (h c (by simpa [cf0] using hc)).1
  fn := fun c hc => (h c (by simpa [cf0] using hc)).2

theorem glob_ok (W : World) : GlobOk globs W.heap.size W := fun x hx => by cases hx
end Vc
end Go.Proofs.Ytokicaoapclicaa
