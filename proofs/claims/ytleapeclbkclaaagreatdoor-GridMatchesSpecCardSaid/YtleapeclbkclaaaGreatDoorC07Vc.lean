/- Layer 7: what the walk of the great law takes as known. -/
import Derived.Test.YtleapeclbkclaaaGreatDoorC07W
import Derived.Test.YtleapeclbkclaaaGreatDoorC07E
import Derived.Test.YtleapeclbkclaaaGreatDoorC07P
import Derived.Test.YtleapeclbkclaaaGreatDoorC07H
import Derived.Test.YtleapeclbkclaaaGreatDoorC07I
import Derived.Test.YtleapeclbkclaaaGreatDoorC07J
namespace Go.Proofs.YtleapeclbkclaaaGreatDoor
namespace Vc
open Go Go.RowKit
set_option linter.unusedVariables false

def L07z : List Ctr := [cSane]
def R07z : List RCtr := [cGet, cGetR, cSet, cSetR, cValidR, cEq, cEqR, cCnt, cCntR, cShf, cShfR, cWrite, cWrR, cPaste, cPasteR, cTur, cTurGR, cFil, cFilR, cDif, cDifR, cSmC]
theorem keepL07z : KeepL L07z := keep0.cons kSane nSane
theorem keepR07z : KeepR R07z := (((((((((((((((((((((keepR0.cons kSmC nSmC).cons kDifR nDifR).cons kDif nDif).cons kFilR nFilR).cons kFil nFil).cons kTurGR nTurGR).cons kTur nTur).cons kPasteR nPasteR).cons kPaste nPaste).cons kWrR nWrR).cons kWrite nWrite).cons kShfR nShfR).cons kShf nShf).cons kCntR nCntR).cons kCnt nCnt).cons kEqR nEqR).cons kEq nEq).cons kValidR nValidR).cons kSetR nSetR).cons kSet nSet).cons kGetR nGetR).cons kGet nGet
def lpGM : List LSpec := [⟨[0, 0], 30, [(.tmp 50, 0, 101)], [], [.ex (.var 25)], 991, 991⟩]
theorem L07z_ok : CfgOk Tryz.prog ρ0 (cfG none L07z R07z lpGM sumC) := cfG_ok keepL07z keepR07z noF
end Vc
end Go.Proofs.YtleapeclbkclaaaGreatDoor
