/- Layer 41: the examples of the documentation hold. -/
import Derived.Test.YtokicaoapclicaaC41F
import Derived.Test.YtokicaoapclicaaC41G
import Derived.Test.YtokicaoapclicaaC41E
namespace Go.Proofs.Ytokicaoapclicaa
namespace Vc
open Go Go.RowKit
set_option linter.unusedVariables false

def rS : List RCtr := [cEx, cBoxes, cOvl, cSl]
theorem keepRS : KeepR rS := (((keepR0.cons kSl nSl).cons kOvl nOvl).cons kBoxes nBoxes).cons kEx nEx
theorem sane_law : (walkF Try.prog (cfB lS rS sumL) Try.f10 600 []).isT1 = true := by kernel_rfl
def cSane : Ctr := ⟨10, [], .one (.cst (.bool true)), none, 0⟩
theorem kSane : CtrOk Try.prog ρ0 cSane := ctr_true (cfB_ok keepS keepRS) Try.func10 rfl 600 0 sane_law
theorem nSane : ∃ fn, Try.prog.funcs[cSane.f]? = some fn ∧ fn.body.isSome = true ∧ (fn.name == "runtime.NumGoroutine") = false := ⟨_, Try.func10, by kernel_rfl, by kernel_rfl⟩
end Vc
end Go.Proofs.Ytokicaoapclicaa
