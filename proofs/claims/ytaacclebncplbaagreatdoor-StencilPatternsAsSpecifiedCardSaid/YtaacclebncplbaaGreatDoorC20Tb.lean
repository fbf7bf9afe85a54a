/- Layer 20: what the walk of the law of patterns takes as known. -/
import Derived.Test.YtaacclebncplbaaGreatDoorC20W
import Derived.Test.YtaacclebncplbaaGreatDoorC20F
import Derived.Test.YtaacclebncplbaaGreatDoorC07P
import Derived.Test.YtaacclebncplbaaGreatDoorC07E
namespace Go.Proofs.YtaacclebncplbaaGreatDoor
namespace Vc
open Go Go.RowKit
set_option linter.unusedVariables false
def L20zb : List Ctr := [cSane, cVolR, cAtR, cInR]
def R20zb : List RCtr := [cTns, cTnsR, cCan, cCanR, cLik, cLikR, cEqR, cValidR]
def lpPatZ : List LSpec := [⟨[0, 19, 0], 20, [(.tmp 5, 0, 48)], [], [], 1078, 1078⟩]
theorem keepL20zb : KeepL L20zb := (((keep0.cons kInR nInR).cons kAtR nAtR).cons kVolR nVolR).cons kSane nSane
theorem keepR20zb : KeepR R20zb := (((((((keepR0.cons kValidR nValidR).cons kEqR nEqR).cons kLikR nLikR).cons kLik nLik).cons kCanR nCanR).cons kCan nCan).cons kTnsR nTnsR).cons kTns nTns
theorem L20zb_ok {ls : List LSpec} : CfgOk Tryz.prog ρ0 (cfG none L20zb R20zb ls sumC) := cfG_ok keepL20zb keepR20zb noF
end Vc
end Go.Proofs.YtaacclebncplbaaGreatDoor
