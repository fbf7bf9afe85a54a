/- Layer 7: what the walk of the law of pasting takes as known. -/
import Derived.Test.YtleapeclbkclaaaDoorC07V
import Derived.Test.YtleapeclbkclaaaDoorC07H
namespace Go.Proofs.YtleapeclbkclaaaDoor
namespace Vc
open Go Go.RowKit
set_option linter.unusedVariables false

def R07p : List RCtr := cDif :: R07
theorem L07p_ok : CfgOk Tryd.prog ρ0 (cfG none L07 R07p [] sumC) := cfG_ok keepL07 (keepR07.cons kDif nDif) noF
end Vc
end Go.Proofs.YtleapeclbkclaaaDoor
