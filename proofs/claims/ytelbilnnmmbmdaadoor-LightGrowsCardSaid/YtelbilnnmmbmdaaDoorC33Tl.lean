/- Layer 33: the lists of the laws. -/
import Derived.Test.YtelbilnnmmbmdaaDoorC33Sa
import Derived.Test.YtelbilnnmmbmdaaDoorC33Tb
import Derived.Test.YtelbilnnmmbmdaaDoorC33I
namespace Go.Proofs.YtelbilnnmmbmdaaDoor
namespace Vc
open Go Go.RowKit
set_option linter.unusedVariables false
def L33 : List Ctr := [cSane]
theorem keepL33 : KeepL L33 := keep0.cons kSane nSane
def R33l : List RCtr := [cFew, cChL, cFul, cStP, cLesR, cLst, cFixP, cEmtR, cFadR]
theorem L33l_ok {ls : List LSpec} : CfgOk Tryd.prog ρ0 (cfG none L33 R33l ls sm33) := cfG_ok keepL33 (((((((((keepR0.cons kFadR nFadR).cons kEmtR nEmtR).cons kFixP nFixP).cons kLst nLst).cons kLesR nLesR).cons kStP nStP).cons kFul nFul).cons kChL nChL).cons kFew nFew) noF
end Vc
end Go.Proofs.YtelbilnnmmbmdaaDoor
