/- Layer 30: what the walks of the laws take as known. -/
import Derived.Test.YtgbaelpcbhgdjaaDoorC30F
import Derived.Test.YtgbaelpcbhgdjaaDoorC30S
import Derived.Test.YtgbaelpcbhgdjaaDoorC04E
import Derived.Test.YtgbaelpcbhgdjaaDoorC07P
namespace Go.Proofs.YtgbaelpcbhgdjaaDoor
namespace Vc
open Go Go.RowKit
set_option linter.unusedVariables false

def L30 : List Ctr := [cSane, cAtR, cInR]
def R30 : List RCtr := [cRnd, cTgt, cTgtR, cFr, cFrR, cPot, cPotR, cStl, cStlR, cStt, cEqR, cCntR, cMAt, cGetR, cSetR, cFew]
def lpKC : List LSpec := [⟨[0, 0], 20, [(.tmp 12, 0, 2097152)], [], exs 10, 879, 898⟩]
def bxV (l : Nat) : List (Pth × Int × Int) := [(.cell l 0, -1048575, 1048575), (.cell l 1, -1048575, 1048575), (.cell l 2, -1048575, 1048575), (.cell l 3, -1048575, 1048575), (.cell l 4, -1048575, 1048575), (.cell l 5, -1048575, 1048575)]
def lpRM : List LSpec := [⟨[0, 12, 0], 20, bxV 6 ++ [(.tmp 9, 0, 2097152), (.tmp 8, 0, 2097152)], [(.cell 6 6, 3, [S64], maxLen)], exs 9, 880, 899⟩]
def exP : List Pth := [.part 0 0, .part 0 1, .part 0 2, .part 0 3, .part 0 4, .part 0 5, .part 0 6, .tmp 1, .tmp 2]
def lpSM : List LSpec := [⟨[0, 21, 0], 20, bxV 5 ++ [(.tmp 11, 0, 20000000000000)], [(.cell 5 6, 3, [S64], maxLen)], exs 10, 881, 893⟩,
  ⟨[0, 12, 21, 0], 40, bxV 8 ++ [(.tmp 9, 0, 2097152), (.tmp 8, 0, 2097152)], [(.cell 8 6, 3, [S64], maxLen)], exP, 880, 899⟩]
theorem keepL30 : KeepL L30 := ((keep0.cons kInR nInR).cons kAtR nAtR).cons kSane nSane
theorem keepR30 : KeepR R30 := (((((((((((((((keepR0.cons kFew nFew).cons kSetR nSetR).cons kGetR nGetR).cons kMAt nMAt).cons kCntR nCntR).cons kEqR nEqR).cons kStt nStt).cons kStlR nStlR).cons kStl nStl).cons kPotR nPotR).cons kPot nPot).cons kFrR nFrR).cons kFr nFr).cons kTgtR nTgtR).cons kTgt nTgt).cons kRnd nRnd
theorem cf30_ok {ls : List LSpec} : CfgOk Tryd.prog ρ0 (cfG none L30 R30 ls sumL) := cfG_ok keepL30 keepR30 noF
theorem L30_ok : CfgOk Tryd.prog ρ0 (cfG none L30 R30 [] sumL) := cf30_ok
theorem L30r_ok : CfgOk Tryd.prog ρ0 (cfG none L30 R30 lpRM sumL) := cf30_ok
theorem L30s_ok : CfgOk Tryd.prog ρ0 (cfG none L30 R30 lpSM sumL) := cf30_ok
theorem L30k_ok : CfgOk Tryd.prog ρ0 (cfG none L30 R30 lpKC sumL) := cf30_ok
end Vc
end Go.Proofs.YtgbaelpcbhgdjaaDoor
