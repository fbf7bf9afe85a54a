/- Layer 7: what the walks assume of more functions of grids; their loops. -/
import Derived.Test.YtleapeclbkclaaaDoorC07C
namespace Go.Proofs.YtleapeclbkclaaaDoor
namespace Vc
open Go Go.RowKit
set_option linter.unusedVariables false

/-- Functions that are not walked apart. -/
def noSum : List FuncId :=
  53 ::
  14 ::
  22 ::
  27 ::
  42 ::
  24 ::
  17 ::
  32 ::
  28 ::
  25 ::
  35 ::
  12 ::
  26 ::
  37 ::
  15 ::
  55 ::
  18 ::
  13 ::
  16 ::
  45 ::
  44 ::
  54 ::
  89 ::
  63 ::
  83 ::
  49 ::
  59 ::
  57 ::
  []
def sumC : List FuncId := sumL.filter fun f => !(noSum.any (Nat.beq f))
def RB64 : RSh := .agg [K64, K64, K64, K64, K64, K64]
def RMa : RSh := .one (.int .i64 0 255)
def PG : List RPt := [PR20, PR20, PR20, PR20, PR20, PR20, .row 3 SMat 2097152]
def PGw : List RPt := [PR20, PR20, PR20, PR20, PR20, PR20, .row 3 [S64] 1000000000]
def PErr : Bool × List RPt := (false, [.int .i64 0 2])
def shGet : List RSh := [RGv, RPw]
def cGet : RCtr := ⟨21, [RGw, RPw], .one (.int .i64 0 255), some 710, 908⟩
def cGetR : RCtr := ⟨87, [RGw, RPw], .one (.int .i64 0 255), some 710, 908⟩
def cSet : RCtr := ⟨22, [RGw, RPw, RMa], .agg PG, some 710, 701⟩
def cValid : RCtr := ⟨12, [RGw], .one .bool, none, 700⟩
def lpValid : List LSpec := [⟨[0, 83, 49, 0], 20, [(.tmp 8, 0, 2097152)], [], exs 7, 720, 750⟩]
def cNew : RCtr := ⟨14, [RB64, .one K64], .tup [(true, PGw), PErr], none, 900⟩
def lpNew : List LSpec := [⟨[0, 54, 0], 20, [(.tmp 8, 1, 2097152)], [(.tmp 7, 3, [S64], 1000000000)], exs 7, 971, 971⟩]
def cNewR : RCtr := ⟨15, [RB64, .one K64], .tup [(true, PGw), PErr], none, 900⟩
def lpNewR : List LSpec := [⟨[0, 0], 20, [(.tmp 11, 0, 2097152)], [(.cell 2 6, 3, [S64], 2097152)], exs 7, 972, 971⟩]
def cEq : RCtr := ⟨26, [RGw, RGw], .one .bool, none, 715⟩
def lpEq : List LSpec := [⟨[0, 63, 0], 20, [(.tmp 13, 0, maxLen)], [], exs 14, 734, 764⟩]
def cCnt : RCtr := ⟨37, [RGw, .one K64], .one (.int .i64 0 9223372036854775807), none, 716⟩
def lpCnt : List LSpec := [⟨[0, 0], 20, [(.tmp 11, 0, maxLen), (.tmp 5, 0, maxLen)], [], exs 8, 735, 765⟩]
def PS21 : RPt := .int .i64 (-2097151) 2097151
def shShf : List RSh := [RGv, RPw]
def cShf : RCtr := ⟨32, [RGw, RPw], .agg [PS21, PS21, PS21, PS21, PS21, PS21, .row 3 SMat 2097152], some 710, 930⟩
def RCh : RSh := .one (.row [S64, S64, S64, S64, S64] maxLen)
def RChw : RSh := .one (.row [.int .i64 (-1048576) 1048576, .int .i64 (-1048576) 1048576, .int .i64 (-1048576) 1048576, S64, .int .i64 0 255] maxLen)
def shWr : List RSh := [RGv, RChw]
def clW : Pth × TypeId × List Sk × Int := (.own 8, 3, SMat, 2097152)
def cWrite : RCtr := ⟨27, [RGw, RCh], .agg PG, some 917, 910⟩
def lpWrite : List LSpec := [⟨[0, 64, 57, 0], 20, [(.tmp 9, 0, maxLen)], [clW], exs 8, 973, 973⟩,
  ⟨[0, 64, 57, 0], 20, [(.tmp 9, 0, maxLen)], [], exs 8, 975, 972⟩]
def cPasteR : RCtr := ⟨55, [RGw, RGw], .agg PG, some 711, 701⟩
def lpPasteR : List LSpec := [⟨[0, 0], 20, [(.tmp 6, 0, 2097152)], [(.cell 8 6, 3, SMat, 2097152)], exs 14, 974, 974⟩]
def cCrop : RCtr := ⟨17, [RGw, RB64], .tup [(true, PG), PErr], some 710, 960⟩
def cCropR : RCtr := ⟨18, [RGw, RB64], .tup [(true, PG), PErr], some 710, 960⟩
def shCrop : List RSh := [RGv, RB64]
def shTur : List RSh := [.one K64, RGv]
def cTur : RCtr := ⟨28, [.one K64, RGw], .agg PG, some 947, 940⟩
def lpTur : List LSpec := [⟨[0, 75, 66, 57, 0], 20, [(.tmp 10, 0, 2097152)], [(.own 8, 3, SMat, 2097152)], exs 8, 979, 979⟩,
  ⟨[0, 75, 66, 57, 0], 20, [(.tmp 10, 0, 2097152)], [], exs 8, 980, 980⟩]
def PP21 : Sk := .int .i64 (-1048576) 1048576
end Vc
end Go.Proofs.YtleapeclbkclaaaDoor
