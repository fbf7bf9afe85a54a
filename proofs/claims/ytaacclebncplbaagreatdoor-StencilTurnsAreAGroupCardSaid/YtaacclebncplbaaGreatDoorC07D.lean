/- Layer 7: what the walks assume of functions of grids. -/
import Derived.Test.YtaacclebncplbaaGreatDoorC04C
namespace Go.Proofs.YtaacclebncplbaaGreatDoor
namespace Vc
open Go Go.RowKit
set_option linter.unusedVariables false
def K64 : RA := .int .i64 (-9223372036854775808) 9223372036854775807
def S64 : Sk := .int .i64 (-9223372036854775808) 9223372036854775807
def KR20 : RA := .int .i64 (-1048575) 1048575
def KW20 : RA := .int .i64 (-1048576) 1048576
def RGw : RSh := .agg [K64, K64, K64, K64, K64, K64, .row [S64] maxLen]
def SMat : List Sk := [.int .i64 0 255]
def RGv : RSh := .agg [KR20, KR20, KR20, KR20, KR20, KR20, .row SMat 2097152]
def exs : Nat → List Pth
 | 0 => []
 | n + 1 => exs n ++ [.ex (.var n)]
def PR20 : RPt := .int .i64 (-1048575) 1048575
def cValidR : RCtr := ⟨37, [RGw], .one .bool, none, 700⟩
def lpValidR : List LSpec := [⟨[0, 0], 20, [(.tmp 6, 0, 2097152)], [], exs 7, 720, 750⟩]
def RPw : RSh := .agg [KW20, KW20, KW20]
def shSet : List RSh := [RGv, RPw, .one (.int .i64 0 255)]
def cSetR : RCtr := ⟨40, [RGw, RPw, .one (.int .i64 0 255)], .agg [PR20, PR20, PR20, PR20, PR20, PR20, .row 3 SMat 2097152], some 710, 701⟩
def shPaste : List RSh := [RGv, RGv]
def clR : Pth × TypeId × List Sk × Int := (.own 8, 3, SMat, 2097152)
def cEqR : RCtr := ⟨22, [RGw, RGw], .one .bool, none, 715⟩
def lpEqR : List LSpec := [⟨[0, 0], 20, [(.tmp 5, 0, maxLen)], [], exs 14, 734, 764⟩]
def lpCntR : List LSpec := [⟨[0, 0], 20, [(.tmp 6, 0, maxLen), (.tmp 5, 0, maxLen)], [], exs 8, 735, 765⟩]
end Vc
end Go.Proofs.YtaacclebncplbaaGreatDoor
namespace Go.Proofs.YtaacclebncplbaaGreatDoor
namespace Vc
open Go Go.RowKit
set_option linter.unusedVariables false
def noSum : List FuncId :=
 89 ::
 88 ::
 84 ::
 27 ::
 40 ::
 30 ::
 68 ::
 29 ::
 36 ::
 32 ::
 46 ::
 37 ::
 22 ::
 16 ::
 120 ::
 108 ::
 []
def sumC : List FuncId := sumL.filter fun f => !(noSum.any (Nat.beq f))
def RB64 : RSh := .agg [K64, K64, K64, K64, K64, K64]
def RMa : RSh := .one (.int .i64 0 255)
def PG : List RPt := [PR20, PR20, PR20, PR20, PR20, PR20, .row 3 SMat 2097152]
def PGw : List RPt := [PR20, PR20, PR20, PR20, PR20, PR20, .row 3 [S64] 1000000000]
def PErr : Bool × List RPt := (false, [.int .i64 0 2])
def shGet : List RSh := [RGv, RPw]
def cGet : RCtr := ⟨53, [RGw, RPw], .one (.int .i64 0 255), some 710, 908⟩
def cGetR : RCtr := ⟨59, [RGw, RPw], .one (.int .i64 0 255), some 710, 908⟩
def cNewR : RCtr := ⟨27, [RB64, .one K64], .tup [(true, PGw), PErr], none, 900⟩
def lpNewR : List LSpec := [⟨[0, 0], 20, [(.tmp 11, 0, 2097152)], [(.cell 2 6, 3, [S64], 2097152)], exs 7, 972, 971⟩]
def lpCnt : List LSpec := [⟨[0, 0], 20, [(.tmp 11, 0, maxLen), (.tmp 5, 0, maxLen)], [], exs 8, 735, 765⟩]
def PS21 : RPt := .int .i64 (-2097151) 2097151
def shShf : List RSh := [RGv, RPw]
def cShf : RCtr := ⟨89, [RGw, RPw], .agg [PS21, PS21, PS21, PS21, PS21, PS21, .row 3 SMat 2097152], some 710, 930⟩
def RCh : RSh := .one (.row [S64, S64, S64, S64, S64] maxLen)
def RChw : RSh := .one (.row [.int .i64 (-1048576) 1048576, .int .i64 (-1048576) 1048576, .int .i64 (-1048576) 1048576, S64, .int .i64 0 255] maxLen)
def shWr : List RSh := [RGv, RChw]
def clW : Pth × TypeId × List Sk × Int := (.own 8, 3, SMat, 2097152)
def cPasteR : RCtr := ⟨68, [RGw, RGw], .agg PG, some 711, 701⟩
def lpPasteR : List LSpec := [⟨[0, 0], 20, [(.tmp 6, 0, 2097152)], [(.cell 8 6, 3, SMat, 2097152)], exs 14, 974, 974⟩]
def cCropR : RCtr := ⟨29, [RGw, RB64], .tup [(true, PG), PErr], some 710, 960⟩
def shCrop : List RSh := [RGv, RB64]
def shTur : List RSh := [.one K64, RGv]
def cTur : RCtr := ⟨88, [.one K64, RGw], .agg PG, some 947, 940⟩
def lpTur : List LSpec := [⟨[0, 106, 109, 108, 0], 20, [(.tmp 10, 0, 2097152)], [(.own 8, 3, SMat, 2097152)], exs 8, 979, 979⟩,
 ⟨[0, 106, 109, 108, 0], 20, [(.tmp 10, 0, 2097152)], [], exs 8, 980, 980⟩]
def PP21 : Sk := .int .i64 (-1048576) 1048576
end Vc
end Go.Proofs.YtaacclebncplbaaGreatDoor
