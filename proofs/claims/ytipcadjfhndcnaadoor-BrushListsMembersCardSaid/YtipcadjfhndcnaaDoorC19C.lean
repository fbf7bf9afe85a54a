/- Layer 19: what the walks assume of each function; the loops. -/
import Derived.Test.YtipcadjfhndcnaaDoorC04C
namespace Go.Proofs.YtipcadjfhndcnaaDoor
namespace Vc
open Go Go.RowKit
set_option linter.unusedVariables false

def CBw : Ck := IR (-1050624) 1050624
def BW6 : Sh := .agg [CBw, CBw, CBw, CBw, CBw, CBw]
def cInterW : Ctr := ⟨42, [BW6, B6], .agg [CR, CR, CR, CR, CR, CR], none, 220⟩
def cInterWR : Ctr := ⟨36, [BW6, B6], .agg [CR, CR, CR, CR, CR, CR], none, 220⟩
def cIBall : Ctr := ⟨19, [PW, .one I64, PW], .one .bool, none, 420⟩
def cIBallR : Ctr := ⟨20, [PW, .one I64, PW], .one .bool, none, 420⟩
def cIPrm : Ctr := ⟨21, [B6, .one I64, PX], .one .bool, none, 421⟩
def cIPrmR : Ctr := ⟨22, [B6, .one I64, PX], .one .bool, none, 421⟩
def cBBox : Ctr := ⟨23, [P3, .one I64], .agg [CBw, CBw, CBw, CBw, CBw, CBw], none, 422⟩
def cBBoxR : Ctr := ⟨24, [P3, .one I64], .agg [CBw, CBw, CBw, CBw, CBw, CBw], none, 422⟩
def KR : RA := .int .i64 (-1048575) 1048575
def K64 : RA := .int .i64 (-9223372036854775808) 9223372036854775807
def R6 : RSh := .agg [KR, KR, KR, KR, KR, KR]
def R3 : RSh := .agg [KR, KR, KR]
def S3 : List Sk := [.int .i64 (-1048575) 1048575, .int .i64 (-1048575) 1048575, .int .i64 (-1048575) 1048575]
def S3W : List Sk := [.int .i64 (-1048575) 1048576, .int .i64 (-1048575) 1048576, .int .i64 (-1048575) 1048576]
def RLs : RRs := .tup [(false, [.row 23 S3 32768]), (false, [.int .i64 0 2])]
def cLBox : RCtr := ⟨12, [R6, R6], RLs, none, 400⟩
def cLBoxR : RCtr := ⟨13, [R6, R6], RLs, none, 400⟩
def cLBall : RCtr := ⟨14, [R3, .one K64, R6], RLs, none, 402⟩
def cLBallR : RCtr := ⟨15, [R3, .one K64, R6], RLs, none, 402⟩
def cLPrm : RCtr := ⟨16, [R6, .one K64, R6], RLs, none, 404⟩
def cLPrmR : RCtr := ⟨17, [R6, .one K64, R6], RLs, none, 404⟩
def cSame : RCtr := ⟨18, [.one (.row S3 100000), .one (.row S3 100000)], .one .bool, none, 410⟩
def cHas : RCtr := ⟨28, [.one (.row S3 100000), R3], .one .bool, none, 411⟩
def cInc : RCtr := ⟨27, [.one (.row S3 100000)], .one .bool, none, 412⟩
/-- The first n variables. -/
def exs : Nat → List Pth
  | 0 => []
  | n + 1 => exs n ++ [.ex (.var n)]
def lpL (n p : Nat) : List LSpec :=
  [⟨[0, 43, 0], 20, [(.tmp 10, -1048575, 1048576)], [(.tmp 9, 23, S3, 32768)], exs n, p, 450⟩,
   ⟨[2, 43, 0], 30, [(.tmp 11, -1048575, 1048576)], [(.tmp 9, 23, S3, 32768)], exs n ++ [.tmp 10], p + 1, 450⟩,
   ⟨[4, 43, 0], 40, [(.tmp 12, -1048575, 1048576)], [(.tmp 9, 23, S3, 32768)], exs n ++ [.tmp 10, .tmp 11], p + 2, 450⟩]
def lpR (n p : Nat) : List LSpec := [⟨[0, 45, 0], 20, [(.tmp 8, 0, 9223345648600875000)], [(.tmp 7, 23, S3, 32768)], exs n, p, 452⟩]
def lpSame : List LSpec := [⟨[0, 0], 20, [(.tmp 5, 0, 100000)], [], exs 2, 520, 451⟩]
def lpHas : List LSpec := [⟨[0, 0], 20, [(.tmp 9, 0, 100000)], [], exs 4, 521, 451⟩]
def lpInc : List LSpec := [⟨[0, 0], 20, [(.tmp 3, 1, 100001)], [], exs 1, 522, 451⟩]
end Vc
end Go.Proofs.YtipcadjfhndcnaaDoor
