/- Layer 41: what the walk of the examples folds. -/
import Derived.Test.YtokicaoapclicaaC41E
import Derived.Test.YtokicaoapclicaaC04E
namespace Go.Proofs.Ytokicaoapclicaa
namespace Vc
open Go Go.RowKit
set_option linter.unusedVariables false

def lS : List Ctr := [cVol, cAt, cIndex, cVolR, cAtR, cIndexR, cInR]
theorem keepS : KeepL lS := ((((((keep0.cons kInR nInR).cons kIndexR nIndexR).cons kAtR nAtR).cons kVolR nVolR).cons kIndex nIndex).cons kAt nAt).cons kVol nVol
theorem cfS_ok : CfgOk Try.prog ρ0 (cfG (some Ff) lS [] [] sumL) := cfG_ok keepS keepR0 someF
end Vc
end Go.Proofs.Ytokicaoapclicaa
