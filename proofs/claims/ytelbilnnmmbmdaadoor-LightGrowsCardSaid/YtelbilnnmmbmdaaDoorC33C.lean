/- Layer 33: what the walks assume of each function; the loops. -/
import Derived.Test.YtelbilnnmmbmdaaDoorC07C
namespace Go.Proofs.YtelbilnnmmbmdaaDoor
namespace Vc
open Go Go.RowKit
set_option linter.unusedVariables false
def SMt : List Sk := [.str maxLen, .bool, .bool, .bool, S64, S64, S64, S64]
def RMt : RSh := .one (.row SMt maxLen)
def RS64 : RPt := .int .i64 (-9223372036854775808) 9223372036854775807
def cMAt : RCtr := ⟨53, [RMt, .one K64], .agg [.str maxLen, .bool, .bool, .bool, RS64, RS64, RS64, RS64], none, 830⟩
def shGet : List RSh := [RGv, RPw]
def cGetR : RCtr := ⟨30, [RGw, RPw], .one (.int .i64 0 255), some 710, 838⟩
def RSt : RA := .str maxLen
def cNm : RCtr := ⟨86, [.one RSt], .one .bool, none, 867⟩
def lpNm : List LSpec := [⟨[0, 0], 20, [(.tmp 3, 0, 32)], [], exs 1, 877, 897⟩]
def cVal : RCtr := ⟨73, [.agg [RSt, .bool, .bool, .bool, K64, K64, K64, K64]], .one .bool, none, 868⟩
def cFnd : RCtr := ⟨74, [RMt, .one RSt], .tup [(false, [.int .i64 0 9223372036854775807]), (false, [.bool])], none, 865⟩
def lpFnd : List LSpec := [⟨[0, 0], 20, [(.tmp 6, 0, maxLen)], [], exs 2, 876, 896⟩]
def cChk : RCtr := ⟨44, [RMt], .tup [(false, [.int .i64 (-1) 256]), (false, [.int .i64 0 10])], none, 862⟩
def lpChk : List LSpec := [⟨[0, 0], 20, [(.tmp 4, 0, 256)], [], exs 1, 875, 895⟩]
def cNmM : RCtr := ⟨82, [.one RSt], .one .bool, none, 867⟩
def lpNmM : List LSpec := [⟨[0, 91], 20, [(.cell 1 0, 0, maxLen)], [], exs 1, 1240, 1250⟩]
def cValM : RCtr := ⟨64, [.agg [RSt, .bool, .bool, .bool, K64, K64, K64, K64]], .one .bool, none, 868⟩
def cChkM : RCtr := ⟨41, [RMt], .tup [(false, [.int .i64 (-1) 256]), (false, [.int .i64 0 10])], none, 862⟩
def lpChkM : List LSpec := [⟨[1, 0], 20, [(.tmp 24, 0, 256)], [(.own 1, 9, [.str maxLen], 256)], exs 1, 1241, 1251⟩]
def L15 : RPt := .int .i64 0 15
def cFade : RCtr := ⟨59, [RMt, .one K64], .one (.int .i64 1 16), some 1234, 1221⟩
def cEmit : RCtr := ⟨60, [RMt, .one K64], .agg [L15, L15, L15], some 1234, 1218⟩
def cFadR : RCtr := ⟨27, [RMt, .one K64], .one (.int .i64 1 16), some 1234, 1221⟩
def cEmtR : RCtr := ⟨26, [RMt, .one K64], .agg [L15, L15, L15], some 1234, 1218⟩
def SLt : List Sk := [S64, S64, S64, S64]
def RLt : RSh := .one (.row SLt maxLen)
def cSmeR : RCtr := ⟨13, [RLt, RLt], .one .bool, none, 1209⟩
def cSmeP : RCtr := ⟨49, [RLt, RLt], .one .bool, none, 1209⟩
def lpSmeP : List LSpec := [⟨[0, 0], 20, [(.tmp 13, 0, maxLen)], [], exs 2, 1242, 1252⟩]
def cLesR : RCtr := ⟨25, [RLt, RLt], .one .bool, none, 1210⟩
def lpLesR : List LSpec := [⟨[0, 0], 20, [(.tmp 5, 0, maxLen)], [], exs 2, 1243, 1252⟩]
def cBrR : RCtr := ⟨24, [.agg [K64, K64, K64, K64]], .one RS64, none, 1208⟩
def cBrP : RCtr := ⟨23, [.agg [K64, K64, K64, K64]], .one RS64, none, 1208⟩
def RP64 : RSh := .agg [K64, K64, K64]
def shAt : List RSh := [RGv, RLt, RP64]
def smIn : List FuncId := [50, 48]
def cAtL : RCtr := ⟨19, [RGw, RLt, RP64], .agg [RS64, RS64, RS64, RS64], some 1231, 1204⟩
def cAtP : RCtr := ⟨22, [RGw, RLt, RP64], .agg [RS64, RS64, RS64, RS64], some 1231, 1204⟩
def RKn : RSh := .one (.row [.bool] maxLen)
def shKn : List RSh := [RGv, RKn, RPw]
def cKnR : RCtr := ⟨75, [RGw, RKn, RPw], .one .bool, some 1232, 1213⟩
def SLv : List Sk := [.int .i64 0 15, .int .i64 0 15, .int .i64 0 15, .int .i64 0 15]
def RLv : RSh := .one (.row SLv maxLen)
def RP20 : RSh := .agg [KR20, KR20, KR20]
def shCl : List RSh := [RGv, RMt, RKn, RLv, RP20]
def cCellR : RCtr := ⟨46, [RGw, RMt, RKn, RLv, RP20], .agg [L15, L15, L15, L15], some 1233, 1214⟩
def lpCell : List LSpec := [⟨[2, 0], 30, [(.tmp 18, 0, 6), (.cell 7 0, 0, 15), (.cell 7 1, 0, 15), (.cell 7 2, 0, 15), (.cell 7 3, 0, 15)], [], exs 13, 1244, 1256⟩]
noncomputable def cfZ (sp : List (List Nat × Nat)) (F : Option (Nat → List X → X)) (cs : List Ctr) (rs : List RCtr) (ls : List LSpec) (sm : List FuncId) : Cfg := { cfG F cs rs ls sm with spl := sp }
theorem cfZ_ok {sp : List (List Nat × Nat)} {F : Option (Nat → List X → X)} {cs : List Ctr} {rs : List RCtr} {ls : List LSpec} {sm : List FuncId} (h : KeepL cs) (hr : KeepR rs) (hF : ∀ G, F = some G → G = Ff) : CfgOk Tryd.prog ρ0 (cfZ sp F cs rs ls sm) :=
 have k := cfG_ok (F := F) (ls := ls) (sm := sm) h hr hF
 { eq := k.eq, globs := k.globs, F := k.F, mixed := k.mixed, fns := k.fns, ctr := k.ctr, fn := k.fn, rctr := k.rctr, pb := k.pb }
def sm33 : List FuncId := [63]
def shSt : List RSh := [RGv, RMt, RKn, RLv]
def SFd : List Sk := [.int .i64 1 16]
def SEm : List Sk := [.int .i64 0 15, .int .i64 0 15, .int .i64 0 15]
def RPs : RSh := .ptr [KR20, KR20, KR20, KR20, KR20, KR20, .row SMat 2097152, .row [.bool] maxLen, .row SFd 2097152, .row SEm 2097152]
def cIs : RCtr := ⟨36, [RPs, .one K64], .one .bool, some 1235, 1223⟩
def cPass : RCtr := ⟨40, [RPs, .one K64, .one (.int .i64 0 3), .one (.int .i64 0 15), .one K64], .one (.int .i64 (-16) 15), some 1236, 1224⟩
def cOwn : RCtr := ⟨37, [RPs, .one K64, .one (.int .i64 0 3)], .one L15, some 1236, 1225⟩
def cStR : RCtr := ⟨17, [RGw, RMt, RKn, RLv], .one (.row 42 SLv 2097152), some 1230, 1200⟩
def cStP : RCtr := ⟨18, [RGw, RMt, RKn, RLv], .one (.row 42 SLv 2097152), some 1230, 1200⟩
def lpStR : List LSpec := [⟨[0, 0], 30, [(.tmp 10, 0, 2097152)], [(.tmp 9, 42, SLv, 2097152)], exs 10, 1248, 1254⟩]
def lpStP : List LSpec := [⟨[0, 34, 0], 30, [(.tmp 17, 0, 2097152)], [(.cell 7 8, 3, SFd, 2097152), (.cell 7 9, 49, SEm, 2097152)], exs 9, 1245, 1253⟩,
 ⟨[0, 0], 40, [(.tmp 23, 0, 2097152)], [(.own 11, 42, SLv, 2097152)], exs 10, 1246, 1254⟩,
 ⟨[0, 38, 0], 50, [(.tmp 23, 0, 6)], [(.own 11, 42, SLv, 2097152)], exs 10 ++ [.tmp 1], 1247, 1255⟩]
def shFu : List RSh := [RGv, RMt, RKn]
def cValid : RCtr := ⟨42, [RGw], .one .bool, none, 700⟩
def lpValid : List LSpec := [⟨[0, 84, 68, 0], 20, [(.tmp 8, 0, 2097152)], [], exs 7, 720, 750⟩]
def cChL : RCtr := ⟨14, [RGw, RMt, RKn], .one (.int .i64 0 1), none, 1202⟩
def cChLR : RCtr := ⟨15, [RGw, RMt, RKn], .one (.int .i64 0 1), none, 1202⟩
def PLt : List RPt := [.row 42 SLv 2097152]
def cFulR : RCtr := ⟨12, [RGw, RMt, RKn], .tup [(false, PLt), (false, [.int .i64 0 1])], none, 1201⟩
def cFulRA : RCtr := ⟨12, [RGw, RMt, RKn], .tup [(false, PLt), (false, [.int .i64 0 1])], some 1238, 1201⟩
def cFulRB : RCtr := ⟨12, [RGw, RMt, RKn], .tup [(false, PLt), (false, [.int .i64 0 1])], some 1239, 1201⟩
def cFul : RCtr := ⟨11, [RGw, RMt, RKn], .tup [(false, PLt), (false, [.int .i64 0 1])], none, 1201⟩
def cFulA : RCtr := ⟨11, [RGw, RMt, RKn], .tup [(false, PLt), (false, [.int .i64 0 1])], some 1238, 1201⟩
def cFulB : RCtr := ⟨11, [RGw, RMt, RKn], .tup [(false, PLt), (false, [.int .i64 0 1])], some 1239, 1201⟩
def SQu : List Sk := [S64]
def SLw : List Sk := [.int .i64 (-16) 15, .int .i64 (-16) 15, .int .i64 (-16) 15, .int .i64 (-16) 15]
def oRw : Pth × TypeId × List Sk × Int := (.own 9, 42, SLw, 2097152)
def spFul : List (List Nat × Nat) := [([1, 0], 33)]
def fQu : Pth × TypeId × List Sk × Int := (.fam 12, 3, SQu, 100000000)
def lpFul : List LSpec := [⟨[0, 34, 0], 30, [(.tmp 17, 0, 2097152)], [(.cell 5 8, 3, SFd, 2097152), (.cell 5 9, 49, SEm, 2097152)], exs 9, 1245, 1253⟩,
 ⟨[0, 0], 40, [(.tmp 33, 0, 4)], [oRw], exs 9, 1260, 1260⟩,
 ⟨[2, 0], 50, [(.tmp 39, 0, 2097152)], [oRw, fQu], exs 9 ++ [.ex (.var 40)], 1261, 1261⟩,
 ⟨[4, 0], 60, [(.ind 15 0, 0, 15)], [oRw, fQu], exs 9 ++ [.ex (.var 40), .mvp 15], 1262, 1262⟩,
 ⟨[6, 0], 70, [(.tmp 16, 0, 100000000)], [oRw, fQu], exs 9 ++ [.ex (.var 40), .ex (.var 60)], 1263, 1263⟩,
 ⟨[0, 38, 0], 80, [(.tmp 23, 0, 6)], [oRw, fQu], exs 9 ++ [.ex (.var 40), .ex (.var 60), .ex (.var 70), .tmp 1, .ex (.var 71), .ex (.var 72)], 1264, 1264⟩]
def RB20 : RSh := .agg [KR20, KR20, KR20, KR20, KR20, KR20]
def cAtW : RCtr := ⟨28, [RB20, .one K64], .tup [(true, [PR20, PR20, PR20]), (false, [.bool])], none, 270⟩
def cIdW : RCtr := ⟨29, [RB20, RPw], .one (.int .i64 (-1) 9223345648600874999), none, 260⟩
def lpMono : List LSpec := [⟨[0, 0], 30, [(.tmp 15, 0, 2097152)], [(.own 9, 42, SLv, 2097152)], exs 9 ++ [.tmp 12, .tmp 13], 1268, 1268⟩]
def lpMir : List LSpec := [⟨[0, 0], 30, [(.tmp 10, 0, 2097152)], [(.tmp 9, 3, [S64], 1000), (.own 5, 3, [S64], 1000)], exs 9, 1269, 1269⟩, ⟨[0, 0], 30, [(.tmp 10, 0, 2097152)], [(.tmp 9, 3, [S64], 1000), (.own 6, 3, [S64], 1000)], exs 9, 1269, 1269⟩, ⟨[2, 0], 40, [(.tmp 18, 0, 2097152)], [], exs 9, 1270, 1270⟩]
def lpNo : List LSpec := [⟨[0, 0], 30, [], [(.own 99, 0, [], 0)], [], 0, 0⟩, ⟨[0, 34, 0], 30, [], [(.own 99, 0, [], 0)], [], 0, 0⟩]
def lpFulR : List LSpec := [⟨[0, 0], 30, [], [(.tmp 9, 42, SLv, 2097152)], exs 9 ++ [.fgt 22], 1265, 1265⟩]
def cLst : RCtr := ⟨16, [.one (.int .i64 0 2097152), RLt], .one (.row 42 SLv 2097152), none, 1211⟩
def smLv : List FuncId := [45]
def lpLst : List LSpec := [⟨[0, 0], 30, [(.tmp 6, 0, 2097152)], [(.tmp 5, 42, SLv, 2097152)], exs 2, 1266, 1266⟩]
def cFew : RCtr := ⟨33, [RMt], .one .bool, none, 1222⟩
def lpFew : List LSpec := [⟨[0, 0], 30, [(.tmp 3, 0, 300)], [], exs 1, 1267, 1267⟩]
def cFixP : RCtr := ⟨20, [RGw, RMt, RKn, RLv], .one .bool, some 1230, 1226⟩
def lpSmeR : List LSpec := [⟨[0, 0], 20, [(.tmp 5, 0, maxLen)], [], exs 2, 1242, 1252⟩]
end Vc
end Go.Proofs.YtelbilnnmmbmdaaDoor
