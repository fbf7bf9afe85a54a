/- Layer 20: what the walk of the law of the group of turns takes as known. -/
import Derived.Test.YtaacclebncplbaaGreatDoorC20W
import Derived.Test.YtaacclebncplbaaGreatDoorC20G
import Derived.Test.YtaacclebncplbaaGreatDoorC04Sb
import Derived.Test.YtaacclebncplbaaGreatDoorC07P
import Derived.Test.YtaacclebncplbaaGreatDoorC07E
namespace Go.Proofs.YtaacclebncplbaaGreatDoor
namespace Vc
open Go Go.RowKit
set_option linter.unusedVariables false
def L20zd : List Ctr := [cSane, cInvR, cCompR]
def R20zd : List RCtr := [cTns, cCan, cLik, cTurGR, cShfR, cPpR, cEqR, cValidR]
def lpGrp : List LSpec := [⟨[0, 0], 20, [(.tmp 11, 0, 48)], [(.tmp 10, 4, [.bool], 48)], [.tmp 9], 1110, 1110⟩, ⟨[2, 0], 30, [(.tmp 12, 0, 48)], [], [], 1078, 1078⟩, ⟨[4, 0], 40, [(.tmp 13, 0, 48)], [], [], 1078, 1078⟩, ⟨[6, 0], 50, [(.tmp 15, 0, 48), (.tmp 14, 0, 48)], [], exs 7, 1112, 1112⟩, ⟨[8, 0], 60, [(.tmp 18, 0, 48), (.tmp 17, 0, 1)], [], exs 7 ++ [.tmp 15], 1113, 1113⟩]
theorem keepL20zd : KeepL L20zd := ((keep0.cons kCompR nCompR).cons kInvR nInvR).cons kSane nSane
theorem keepR20zd : KeepR R20zd := (((((((keepR0.cons kValidR nValidR).cons kEqR nEqR).cons kPpR nPpR).cons kShfR nShfR).cons kTurGR nTurGR).cons kLik nLik).cons kCan nCan).cons kTns nTns
noncomputable def cfO (F : Option (Nat → List X → X)) (cs : List Ctr) (rs : List RCtr) (ls : List LSpec) (sm : List FuncId) : Cfg := { cfG F cs rs ls sm with ord := true }
theorem L20zd_ok {ls : List LSpec} : CfgOk Tryz.prog ρ0 (cfO (some Ff) L20zd R20zd ls sumC) :=
 have k := cfG_ok (F := some Ff) (ls := ls) (sm := sumC) keepL20zd keepR20zd someF
 { eq := k.eq, globs := k.globs, F := k.F, mixed := k.mixed, fns := k.fns, ctr := k.ctr, fn := k.fn, rctr := k.rctr, pb := k.pb }
end Vc
end Go.Proofs.YtaacclebncplbaaGreatDoor
