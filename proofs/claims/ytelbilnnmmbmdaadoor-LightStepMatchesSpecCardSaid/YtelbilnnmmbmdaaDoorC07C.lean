/- Layer 7: what the walks assume of functions of grids. -/
import Derived.Test.YtelbilnnmmbmdaaDoorC04C
namespace Go.Proofs.YtelbilnnmmbmdaaDoor
namespace Vc
open Go Go.RowKit
set_option linter.unusedVariables false
def K64 : RA := .int .i64 (-9223372036854775808) 9223372036854775807
def S64 : Sk := .int .i64 (-9223372036854775808) 9223372036854775807
def KR20 : RA := .int .i64 (-1048575) 1048575
def KW20 : RA := .int .i64 (-1048576) 1048576
def RGw : RSh := .agg [K64, K64, K64, K64, K64, K64, .row [S64] maxLen]
def SMat : List Sk := [.int .i64 0 255]
def RGv : RSh := .agg [KR20, KR20, KR20, KR20, KR20, KR20, .row SMat 2097152]
def exs : Nat → List Pth
 | 0 => []
 | n + 1 => exs n ++ [.ex (.var n)]
def PR20 : RPt := .int .i64 (-1048575) 1048575
def cValidR : RCtr := ⟨43, [RGw], .one .bool, none, 700⟩
def lpValidR : List LSpec := [⟨[0, 0], 20, [(.tmp 6, 0, 2097152)], [], exs 7, 720, 750⟩]
def RPw : RSh := .agg [KW20, KW20, KW20]
def shSet : List RSh := [RGv, RPw, .one (.int .i64 0 255)]
def shPaste : List RSh := [RGv, RGv]
def clR : Pth × TypeId × List Sk × Int := (.own 8, 3, SMat, 2097152)
def lpEqR : List LSpec := [⟨[0, 0], 20, [(.tmp 5, 0, maxLen)], [], exs 14, 734, 764⟩]
def lpCntR : List LSpec := [⟨[0, 0], 20, [(.tmp 6, 0, maxLen), (.tmp 5, 0, maxLen)], [], exs 8, 735, 765⟩]
end Vc
end Go.Proofs.YtelbilnnmmbmdaaDoor
