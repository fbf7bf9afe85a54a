/- Layer 19: the contracts for the laws of members and of turned prisms. -/
import Derived.Test.YtipcadjfhndcnaaDoorC19S
import Derived.Test.YtipcadjfhndcnaaDoorC19I
import Derived.Test.YtipcadjfhndcnaaDoorC19N
import Derived.Test.YtipcadjfhndcnaaDoorC19P
namespace Go.Proofs.YtipcadjfhndcnaaDoor
namespace Vc
open Go Go.RowKit
set_option linter.unusedVariables false

def R19c : List RCtr := [cLBox, cLBall, cLPrm, cHas, cInc]
theorem keepR19c : KeepR R19c := ((((keepR0.cons kInc nInc).cons kHas nHas).cons kLPrm nLPrm).cons kLBall nLBall).cons kLBox nLBox
theorem L19c_ok : CfgOk Tryd.prog ρ0 (cfG none L19 R19c [] sumL) := cfG_ok keepL19 keepR19c noF
def L19p : List Ctr := [cSane, cIPrm, cVolR, cBoxR, cCompR, cCellR]
theorem L19p_ok : CfgOk Tryd.prog ρ0 (cfG none L19p R19 [] sumL) := cfG_ok ((((((keep0.cons kCellR nCellR).cons kCompR nCompR).cons kBoxR nBoxR).cons kVolR nVolR).cons kIPrm nIPrm).cons kSane nSane) keepR19 noF
end Vc
end Go.Proofs.YtipcadjfhndcnaaDoor
