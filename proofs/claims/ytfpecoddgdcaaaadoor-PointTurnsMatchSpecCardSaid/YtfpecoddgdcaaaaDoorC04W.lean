/- Layer 4: the contracts that the law of turns uses. -/
import Derived.Test.YtfpecoddgdcaaaaDoorC04V
namespace Go.Proofs.YtfpecoddgdcaaaaDoor
namespace Vc
open Go Go.RowKit

def L7 : List Ctr := [cSane, cTurn, cTurnR, cCell, cCellR, cBox, cBoxR, cComp, cCompR, cInv, cInvR, cMir, cMirR, cName, cNameR]
theorem L7_keep : KeepL L7 := keep0.cons kNameR nNameR |>.cons kName nName |>.cons kMirR nMirR |>.cons kMir nMir |>.cons kInvR nInvR |>.cons kInv nInv |>.cons kCompR nCompR |>.cons kComp nComp |>.cons kBoxR nBoxR |>.cons kBox nBox |>.cons kCellR nCellR |>.cons kCell nCell |>.cons kTurnR nTurnR |>.cons kTurn nTurn |>.cons kSane nSane
noncomputable def cfS (cs : List Ctr) : Cfg := { eqT := eqs, ctrs := cs, qctrs := [], fns := fnL, F := some Ff, globs := globs, sums := 21 :: 22 :: sumL }
theorem cfS_ok {cs : List Ctr} (h : KeepL cs) : CfgOk Tryd.prog ρ0 (cfS cs) :=
  have e := cfF_ok h
  { eq := e.eq, globs := e.globs, F := e.F, mixed := e.mixed, fns := e.fns, ctr := e.ctr, fn := e.fn }
theorem L7_ok : CfgOk Tryd.prog ρ0 (cfS L7) := cfS_ok L7_keep
end Vc
end Go.Proofs.YtfpecoddgdcaaaaDoor
