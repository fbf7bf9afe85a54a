/- Layer 20: what the walk of the law of the way back takes as known. -/
import Derived.Test.YtaacclebncplbaaGreatDoorC20W
import Derived.Test.YtaacclebncplbaaGreatDoorC20G
import Derived.Test.YtaacclebncplbaaGreatDoorC04Sb
import Derived.Test.YtaacclebncplbaaGreatDoorC07P
import Derived.Test.YtaacclebncplbaaGreatDoorC07E
namespace Go.Proofs.YtaacclebncplbaaGreatDoor
namespace Vc
open Go Go.RowKit
set_option linter.unusedVariables false
def L20zc : List Ctr := [cSane, cInvR, cVolR, cAtR, cInR]
def R20zc : List RCtr := [cAddR, cPt, cStm, cTgt, cNewR, cWrR, cCropR, cTurGR, cPpR, cEqR, cValidR]
theorem keepL20zc : KeepL L20zc := ((((keep0.cons kInR nInR).cons kAtR nAtR).cons kVolR nVolR).cons kInvR nInvR).cons kSane nSane
theorem keepR20zc : KeepR R20zc := ((((((((((keepR0.cons kValidR nValidR).cons kEqR nEqR).cons kPpR nPpR).cons kTurGR nTurGR).cons kCropR nCropR).cons kWrR nWrR).cons kNewR nNewR).cons kTgt nTgt).cons kStm nStm).cons kPt nPt).cons kAddR nAddR
noncomputable def cfO (F : Option (Nat → List X → X)) (cs : List Ctr) (rs : List RCtr) (ls : List LSpec) (sm : List FuncId) : Cfg := { cfG F cs rs ls sm with ord := true }
theorem L20zc_ok {ls : List LSpec} : CfgOk Tryz.prog ρ0 (cfO (some Ff) L20zc R20zc ls sumC) :=
 have k := cfG_ok (F := some Ff) (ls := ls) (sm := sumC) keepL20zc keepR20zc someF
 { eq := k.eq, globs := k.globs, F := k.F, mixed := k.mixed, fns := k.fns, ctr := k.ctr, fn := k.fn, rctr := k.rctr, pb := k.pb }
end Vc
end Go.Proofs.YtaacclebncplbaaGreatDoor
