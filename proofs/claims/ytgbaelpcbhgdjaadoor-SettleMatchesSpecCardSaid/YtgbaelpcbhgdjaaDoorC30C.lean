/- Layer 30: what the walks assume of each function; the loops. -/
import Derived.Test.YtgbaelpcbhgdjaaDoorC07C
namespace Go.Proofs.YtgbaelpcbhgdjaaDoor
namespace Vc
open Go Go.RowKit
set_option linter.unusedVariables false

def SMt : List Sk := [.str maxLen, .bool, .bool, .bool, S64, S64, S64, S64]
def RMt : RSh := .one (.row SMt maxLen)
def RP64 : RSh := .agg [K64, K64, K64]
def cMS : RCtr := ⟨42, [RMt, .one K64], .one .bool, none, 800⟩
def cML : RCtr := ⟨43, [RMt, .one K64], .one .bool, none, 801⟩
def cMF : RCtr := ⟨44, [RMt, .one K64], .one .bool, none, 802⟩
def cMSR : RCtr := ⟨39, [RMt, .one K64], .one .bool, none, 800⟩
def cFr : RCtr := ⟨16, [RMt, .one K64], .one .bool, none, 803⟩
def cFrR : RCtr := ⟨17, [RMt, .one K64], .one .bool, none, 803⟩
def RS64 : RPt := .int .i64 (-9223372036854775808) 9223372036854775807
def cMAt : RCtr := ⟨25, [RMt, .one K64], .agg [.str maxLen, .bool, .bool, .bool, RS64, RS64, RS64, RS64], none, 830⟩
def shGet : List RSh := [RGv, RPw]
def cGetR : RCtr := ⟨35, [RGw, RPw], .one (.int .i64 0 255), some 710, 838⟩
def shFreG : List RSh := [RGv, RMt, RPw]
def cFreG : RCtr := ⟨40, [RGw, RMt, RPw], .one .bool, some 710, 804⟩
def PW20 : RPt := .int .i64 (-1048576) 1048576
def shTgt : List RSh := [RGv, RMt, .one K64, RP64]
def cTgt : RCtr := ⟨13, [RGw, RMt, .one K64, RP64], .tup [(true, [PW20, PW20, PW20]), (false, [.bool])], some 710, 810⟩
def cTgtR : RCtr := ⟨14, [RGw, RMt, .one K64, RP64], .tup [(true, [PW20, PW20, PW20]), (false, [.bool])], some 710, 810⟩
def RPl : RSh := .ptr [KR20, KR20, KR20, KR20, KR20, KR20, .row SMat 2097152, .row SMt maxLen, .int .i64 0 3]
def cFreP : RCtr := ⟨73, [RPl, RPw], .one .bool, some 710, 805⟩
def cSofP : RCtr := ⟨53, [RPl, RPw], .one .bool, some 710, 806⟩
def cTgtP : RCtr := ⟨31, [RPl, RP64], .tup [(true, [PW20, PW20, PW20]), (false, [.bool])], some 710, 810⟩
def lpTgt : List LSpec := [⟨[0, 72], 20, [(.tmp 17, 0, 4)], [], exs 12, 870, 890⟩]
def lpTgtR : List LSpec := [⟨[0, 0], 20, [(.tmp 17, 0, 4)], [], exs 12, 870, 890⟩]
def RGvT : List RSh := [RGv, RMt]
def PVol : RPt := .int .i64 0 20000000000000
def cPot : RCtr := ⟨18, [RGw, RMt], .one PVol, some 710, 850⟩
def cPotR : RCtr := ⟨19, [RGw, RMt], .one PVol, some 710, 850⟩
def lpPot : List LSpec := [⟨[0, 0], 20, [(.tmp 14, 0, 2097152), (.tmp 5, 0, 20000000000000)], [], exs 8, 874, 894⟩]
def lpPotR : List LSpec := [⟨[0, 0], 20, [(.tmp 6, 0, 2097152), (.tmp 5, 0, 20000000000000)], [], exs 8, 874, 894⟩]
def cStl : RCtr := ⟨22, [RGw, RMt], .one .bool, some 710, 860⟩
def cStlR : RCtr := ⟨23, [RGw, RMt], .one .bool, some 710, 860⟩
def lpStl : List LSpec := [⟨[0, 0], 20, [(.tmp 17, 0, 2097152)], [], exs 8, 871, 891⟩]
def lpStlR : List LSpec := [⟨[0, 0], 20, [(.tmp 5, 0, 2097152)], [], exs 8, 871, 891⟩]
def RGvTk : List RSh := [RGv, RMt, .one K64]
def cRnd : RCtr := ⟨11, [RGw, RMt, .one K64], .tup [(true, [PR20, PR20, PR20, PR20, PR20, PR20, .row 3 SMat 2097152]), (false, [.int .i64 0 2097152])], some 710, 820⟩
def lpRnd : List LSpec := [⟨[0, 0], 20, [(.tmp 29, 0, 2097152), (.tmp 10, 0, 2097152)], [(.own 5, 3, SMat, 2097152)], exs 9, 872, 892⟩]
def RGvTkm : List RSh := [RGv, RMt, .one K64, .one K64]
def cStt : RCtr := ⟨20, [RGw, RMt, .one K64, .one K64], .tup [(true, [PR20, PR20, PR20, PR20, PR20, PR20, .row 3 SMat 2097152]), (false, [.int .i64 0 20000000000000]), (false, [.int .i64 0 19])], some 878, 840⟩
def lpStt : List LSpec := [⟨[0, 0], 20, [(.cell 2 0, -1048575, 1048575), (.cell 2 1, -1048575, 1048575), (.cell 2 2, -1048575, 1048575), (.cell 2 3, -1048575, 1048575), (.cell 2 4, -1048575, 1048575), (.cell 2 5, -1048575, 1048575), (.tmp 11, 0, 20000000000000)], [(.cell 2 6, 3, SMat, 2097152)], exs 10, 873, 893⟩]
def RSt : RA := .str maxLen
def cNm : RCtr := ⟨71, [.one RSt], .one .bool, none, 867⟩
def lpNm : List LSpec := [⟨[0, 0], 20, [(.tmp 3, 0, 32)], [], exs 1, 877, 897⟩]
def cVal : RCtr := ⟨50, [.agg [RSt, .bool, .bool, .bool, K64, K64, K64, K64]], .one .bool, none, 868⟩
def cFnd : RCtr := ⟨51, [RMt, .one RSt], .tup [(false, [.int .i64 0 9223372036854775807]), (false, [.bool])], none, 865⟩
def lpFnd : List LSpec := [⟨[0, 0], 20, [(.tmp 6, 0, maxLen)], [], exs 2, 876, 896⟩]
def cChk : RCtr := ⟨29, [RMt], .tup [(false, [.int .i64 (-1) 256]), (false, [.int .i64 0 10])], none, 862⟩
def lpChk : List LSpec := [⟨[0, 0], 20, [(.tmp 4, 0, 256)], [], exs 1, 875, 895⟩]
def cFew : RCtr := ⟨10, [RGw, RMt], .one .bool, none, 861⟩
end Vc
end Go.Proofs.YtgbaelpcbhgdjaaDoor
