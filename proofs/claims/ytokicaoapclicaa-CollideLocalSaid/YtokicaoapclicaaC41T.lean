/- Layer 41: what the walks of the laws take as known. -/
import Derived.Test.YtokicaoapclicaaC41S
import Derived.Test.YtokicaoapclicaaC41I
import Derived.Test.YtokicaoapclicaaC41P
import Derived.Test.YtokicaoapclicaaC41J
import Derived.Test.YtokicaoapclicaaC07P
import Derived.Test.YtokicaoapclicaaC41W
namespace Go.Proofs.Ytokicaoapclicaa
namespace Vc
open Go Go.RowKit
set_option linter.unusedVariables false

def L41 : List Ctr := [cSane, cVolR, cAtR, cInR, cIndexR]
def R41 : List RCtr := [cNearL, cOvl, cOvlR, cSl, cSlR]
def R41b : List RCtr := [cSetR, cNearL, cOvl, cValidR, cMSolR, cBoxes]
def N41 : List FuncId := [8]
theorem keepL41 : KeepL L41 := ((((keep0.cons kIndexR nIndexR).cons kInR nInR).cons kAtR nAtR).cons kVolR nVolR).cons kSane nSane
theorem keepR41 : KeepR R41 := ((((keepR0.cons kSlR nSlR).cons kSl nSl).cons kOvlR nOvlR).cons kOvl nOvl).cons kNearL nNearL
theorem keepR41b : KeepR R41b := (((((keepR0.cons kBoxes nBoxes).cons kMSolR nMSolR).cons kValidR nValidR).cons kOvl nOvl).cons kNearL nNearL).cons kSetR nSetR
theorem L41s_ok : CfgOk Try.prog ρ0 (cfN N41 none [cSane, cMv] R41 lpSlides sumL) := cfN_ok ((keep0.cons kMv nMv).cons kSane nSane) keepR41 noF
theorem L41_ok : CfgOk Try.prog ρ0 (cfN N41 none L41 R41b lpTile sumL) := cfN_ok keepL41 keepR41b noF
end Vc
end Go.Proofs.Ytokicaoapclicaa
