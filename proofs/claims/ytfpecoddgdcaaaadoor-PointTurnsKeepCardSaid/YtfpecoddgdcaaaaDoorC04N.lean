/- Layer 4: the contracts that the laws of turns use. -/
import Derived.Test.YtfpecoddgdcaaaaDoorC04L
namespace Go.Proofs.YtfpecoddgdcaaaaDoor
namespace Vc
open Go Go.RowKit

def L5 : List Ctr := [cSane, cIn, cVol, cDist, cTurn, cCell, cBox]
theorem L5_ok : CfgOk Tryd.prog ρ0 (cf0 L5) := cf0_ok (keep0.cons kBox nBox |>.cons kCell nCell |>.cons kTurn nTurn |>.cons kDist nDist |>.cons kVol nVol |>.cons kIn nIn |>.cons kSane nSane)
end Vc
end Go.Proofs.YtfpecoddgdcaaaaDoor
