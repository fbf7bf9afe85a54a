/- Layer 33: the lists of the laws. -/
import Derived.Test.YtelbilnnmmbmdaaDoorC33Sa
import Derived.Test.YtelbilnnmmbmdaaDoorC33Tb
import Derived.Test.YtelbilnnmmbmdaaDoorC33Wr
namespace Go.Proofs.YtelbilnnmmbmdaaDoor
namespace Vc
open Go Go.RowKit
set_option linter.unusedVariables false
def L33 : List Ctr := [cSane]
theorem keepL33 : KeepL L33 := keep0.cons kSane nSane
theorem kFulR : RCtrOk Tryd.prog ρ0 cFulR := rctr_cases kFulRA kFulRB ok_cases
theorem nFulR : ∃ fn, Tryd.prog.funcs[cFulR.f]? = some fn ∧ fn.body.isSome = true ∧ (fn.name == "runtime.NumGoroutine") = false := nFulRA
def R33m : List RCtr := [cFew, cChL, cChLR, cFul, cFulR, cStP, cStR, cSmeR, cSmeP, cLst, cFixP, cAtL, cAtP, cBrP, cBrR]
theorem L33m_ok {ls : List LSpec} : CfgOk Tryd.prog ρ0 (cfG none L33 R33m ls sm33) := cfG_ok keepL33 (((((((((((((((keepR0.cons kBrR nBrR).cons kBrP nBrP).cons kAtP nAtP).cons kAtL nAtL).cons kFixP nFixP).cons kLst nLst).cons kSmeP nSmeP).cons kSmeR nSmeR).cons kStR nStR).cons kStP nStP).cons kFulR nFulR).cons kFul nFul).cons kChLR nChLR).cons kChL nChL).cons kFew nFew) noF
end Vc
end Go.Proofs.YtelbilnnmmbmdaaDoor
