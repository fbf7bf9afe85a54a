/- Layer 7: what the walk of the law of turns takes as known. -/
import Derived.Test.YtleapeclbkclaaaDoorC07V
import Derived.Test.YtleapeclbkclaaaDoorC04S
namespace Go.Proofs.YtleapeclbkclaaaDoor
namespace Vc
open Go Go.RowKit
set_option linter.unusedVariables false

def L07t : List Ctr := [cCompR, cInvR, cSane, cVolR, cInR, cContR, cCellR, cIndexR]
theorem L07t_ok : CfgOk Tryd.prog ρ0 (cfG none L07t R07 [] sumC) := cfG_ok ((keepL07.cons kInvR nInvR).cons kCompR nCompR) keepR07 noF
end Vc
end Go.Proofs.YtleapeclbkclaaaDoor
