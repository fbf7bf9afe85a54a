/- Layer 19: the examples of the documentation hold. -/
import Derived.Test.YtipcadjfhndcnaaDoorC19E
import Derived.Test.YtipcadjfhndcnaaDoorC19F
import Derived.Test.YtipcadjfhndcnaaDoorC19G
import Derived.Test.YtipcadjfhndcnaaDoorC19H
namespace Go.Proofs.YtipcadjfhndcnaaDoor
namespace Vc
open Go Go.RowKit
set_option linter.unusedVariables false

def lS : List Ctr := [cBBox, cIBall, cIPrm]
def rS : List RCtr := [cLBox, cLBall, cLPrm, cSame]
theorem keepS : KeepL lS := ((keep0.cons kIPrm nIPrm).cons kIBall nIBall).cons kBBox nBBox
theorem keepRS : KeepR rS := (((keepR0.cons kSame nSame).cons kLPrm nLPrm).cons kLBall nLBall).cons kLBox nLBox
theorem cfS_ok : CfgOk Tryd.prog ρ0 (cfG (some Ff) lS rS [] sumL) := cfG_ok keepS keepRS someF
theorem sane_law : (walkF Tryd.prog (cfG (some Ff) lS rS [] sumL) Tryd.f11 600 []).isT1 = true := by kernel_rfl
def cSane : Ctr := ⟨11, [], .one (.cst (.bool true)), none, 0⟩
theorem kSane : CtrOk Tryd.prog ρ0 cSane := ctr_true cfS_ok Tryd.func11 rfl 600 0 sane_law
theorem nSane : ∃ fn, Tryd.prog.funcs[cSane.f]? = some fn ∧ fn.body.isSome = true ∧ (fn.name == "runtime.NumGoroutine") = false := ⟨_, Tryd.func11, by kernel_rfl, by kernel_rfl⟩
def L19 : List Ctr := [cSane, cIBall, cIBallR, cIPrm, cIPrmR, cBBox, cBBoxR, cVolR, cInR, cInterR]
def R19 : List RCtr := [cLBox, cLBoxR, cLBall, cLBallR, cLPrm, cLPrmR, cSame, cHas]
theorem keepL19 : KeepL L19 := (((((((((keep0.cons kInterR nInterR).cons kInR nInR).cons kVolR nVolR).cons kBBoxR nBBoxR).cons kBBox nBBox).cons kIPrmR nIPrmR).cons kIPrm nIPrm).cons kIBallR nIBallR).cons kIBall nIBall).cons kSane nSane
theorem keepR19 : KeepR R19 := (((((((keepR0.cons kHas nHas).cons kSame nSame).cons kLPrmR nLPrmR).cons kLPrm nLPrm).cons kLBallR nLBallR).cons kLBall nLBall).cons kLBoxR nLBoxR).cons kLBox nLBox
theorem L19_ok : CfgOk Tryd.prog ρ0 (cfG none L19 R19 [] sumL) := cfG_ok keepL19 keepR19 noF
def L19a : List Ctr := [cSane, cIBall, cIBallR, cIPrm, cIPrmR, cBBox, cBBoxR, cInR, cTurnR]
theorem L19a_ok : CfgOk Tryd.prog ρ0 (cfG none L19a [] [] sumL) := cfG_ok ((((((((((keep0.cons kTurnR nTurnR).cons kInR nInR).cons kBBoxR nBBoxR).cons kBBox nBBox).cons kIPrmR nIPrmR).cons kIPrm nIPrm).cons kIBallR nIBallR).cons kIBall nIBall).cons kSane nSane)) keepR0 noF
end Vc
end Go.Proofs.YtipcadjfhndcnaaDoor
