/- Layer 20: what the walk of the law of copies takes as known. -/
import Derived.Test.YtaacclebncplbaaGreatDoorC20W
import Derived.Test.YtaacclebncplbaaGreatDoorC20E
import Derived.Test.YtaacclebncplbaaGreatDoorC07P
namespace Go.Proofs.YtaacclebncplbaaGreatDoor
namespace Vc
open Go Go.RowKit
set_option linter.unusedVariables false
def L20za : List Ctr := [cSane, cVolR, cAtR, cInR]
def R20za : List RCtr := [cCpy, cCpyR, cStm, cStmR, cRep, cRepR, cSmC, cValidR]
theorem keepL20za : KeepL L20za := (((keep0.cons kInR nInR).cons kAtR nAtR).cons kVolR nVolR).cons kSane nSane
theorem keepR20za : KeepR R20za := (((((((keepR0.cons kValidR nValidR).cons kSmC nSmC).cons kRepR nRepR).cons kRep nRep).cons kStmR nStmR).cons kStm nStm).cons kCpyR nCpyR).cons kCpy nCpy
theorem L20za_ok {ls : List LSpec} : CfgOk Tryz.prog ρ0 (cfG none L20za R20za ls sumC) := cfG_ok keepL20za keepR20za noF
end Vc
end Go.Proofs.YtaacclebncplbaaGreatDoor
