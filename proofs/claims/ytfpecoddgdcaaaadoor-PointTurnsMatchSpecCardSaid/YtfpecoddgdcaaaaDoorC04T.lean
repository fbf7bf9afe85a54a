/- Layer 4: the contracts that the group law uses. -/
import Derived.Test.YtfpecoddgdcaaaaDoorC04S
import Derived.Test.YtfpecoddgdcaaaaDoorC04L
namespace Go.Proofs.YtfpecoddgdcaaaaDoor
namespace Vc
open Go Go.RowKit

def L6 : List Ctr := [cSane, cTurn, cCell, cComp, cInv, cMir, cName]
theorem L6_ok : CfgOk Tryd.prog ρ0 (cf0 L6) := cf0_ok (keep0.cons kName nName |>.cons kMir nMir |>.cons kInv nInv |>.cons kComp nComp |>.cons kCell nCell |>.cons kTurn nTurn |>.cons kSane nSane)
end Vc
end Go.Proofs.YtfpecoddgdcaaaaDoor
