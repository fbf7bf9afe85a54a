/- Layer 4: the contracts of boxes and points, all kept. -/
import Derived.Test.YtfpecoddgdcaaaaDoorC04E
namespace Go.Proofs.YtfpecoddgdcaaaaDoor
namespace Vc
open Go Go.RowKit

theorem nSane : ∃ fn, Tryd.prog.funcs[cSane.f]? = some fn ∧ fn.body.isSome = true ∧ (fn.name == "runtime.NumGoroutine") = false := ⟨_, Tryd.func12, by kernel_rfl, by kernel_rfl⟩
/-- The contracts of boxes and points. -/
def L4 : List Ctr := [cSane, cEmpty, cEmptyR, cIn, cInR, cSize, cSizeR, cVol, cVolR, cInter, cInterR, cHull, cHullR, cCont, cContR, cNear, cNearR, cIndex, cIndexR, cAt, cAtR, cDist, cDistR]
theorem keep4 : KeepL L4 := keep0.cons kDistR nDistR |>.cons kDist nDist |>.cons kAtR nAtR |>.cons kAt nAt |>.cons kIndexR nIndexR |>.cons kIndex nIndex |>.cons kNearR nNearR |>.cons kNear nNear |>.cons kContR nContR |>.cons kCont nCont |>.cons kHullR nHullR |>.cons kHull nHull |>.cons kInterR nInterR |>.cons kInter nInter |>.cons kVolR nVolR |>.cons kVol nVol |>.cons kSizeR nSizeR |>.cons kSize nSize |>.cons kInR nInR |>.cons kIn nIn |>.cons kEmptyR nEmptyR |>.cons kEmpty nEmpty |>.cons kSane nSane
theorem L4_ok : CfgOk Tryd.prog ρ0 (cf0 L4) := cf0_ok keep4
end Vc
end Go.Proofs.YtfpecoddgdcaaaaDoor
