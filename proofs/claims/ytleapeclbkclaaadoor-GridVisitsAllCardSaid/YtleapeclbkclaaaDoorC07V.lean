/- Layer 7: what the walks of the laws take as known. -/
import Derived.Test.YtleapeclbkclaaaDoorC07W
import Derived.Test.YtleapeclbkclaaaDoorC07E
import Derived.Test.YtleapeclbkclaaaDoorC07P
namespace Go.Proofs.YtleapeclbkclaaaDoor
namespace Vc
open Go Go.RowKit
set_option linter.unusedVariables false

def L07 : List Ctr := [cSane, cVolR, cInR, cContR, cCellR, cIndexR]
def R07 : List RCtr := [cGet, cSet, cValid, cValidR, cNew, cNewR, cEq, cEqR, cCnt, cShf, cWrite, cPaste, cCrop, cCropR, cTur]
theorem keepL07 : KeepL L07 := (((((keep0.cons kIndexR nIndexR).cons kCellR nCellR).cons kContR nContR).cons kInR nInR).cons kVolR nVolR).cons kSane nSane
theorem keepR07 : KeepR R07 := ((((((((((((((keepR0.cons kTur nTur).cons kCropR nCropR).cons kCrop nCrop).cons kPaste nPaste).cons kWrite nWrite).cons kShf nShf).cons kCnt nCnt).cons kEqR nEqR).cons kEq nEq).cons kNewR nNewR).cons kNew nNew).cons kValidR nValidR).cons kValid nValid).cons kSet nSet).cons kGet nGet
theorem L07_ok : CfgOk Tryd.prog ρ0 (cfG none L07 R07 [] sumC) := cfG_ok keepL07 keepR07 noF
end Vc
end Go.Proofs.YtleapeclbkclaaaDoor
