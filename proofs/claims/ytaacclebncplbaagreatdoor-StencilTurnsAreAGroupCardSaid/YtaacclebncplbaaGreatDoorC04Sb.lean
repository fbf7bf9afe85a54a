/- Layer 4: the reference's Invert, by its Compose. -/
import Derived.Test.YtaacclebncplbaaGreatDoorC04S
import Derived.Test.YtaacclebncplbaaGreatDoorC04P
namespace Go.Proofs.YtaacclebncplbaaGreatDoor
namespace Vc
open Go Go.RowKit
set_option linter.unusedVariables false
theorem cfComp : CfgOk Tryz.prog ρ0 (cfF [cCompR]) := cfF_ok (keep0.cons kCompR nCompR)
theorem kInvR : CtrOk Tryz.prog ρ0 cInvR := oneOf (c := cInvR) cfComp Tryz.func33 rfl 5000 rfl (chkI (-1)) (fun s => chkI (ivB s)) iv_o iv_g (by kernel_rfl) (by kernel_rfl) (by kernel_rfl)
theorem nInvR : ∃ fn, Tryz.prog.funcs[cInvR.f]? = some fn ∧ fn.body.isSome = true ∧ (fn.name == "runtime.NumGoroutine") = false := ⟨_, Tryz.func33, by kernel_rfl, by kernel_rfl⟩
end Vc
end Go.Proofs.YtaacclebncplbaaGreatDoor
