/- Layer 4: what the walks assume of each function of boxes and points. -/
import Derived.Test.YtfpecoddgdcaaaaDoorC04B
namespace Go.Proofs.YtfpecoddgdcaaaaDoor
namespace Vc
open Go Go.RowKit
set_option linter.unusedVariables false

def IR (lo hi : Int) : Ck := .int .i64 lo hi
def I64 : Ck := .int .i64 (-9223372036854775808) 9223372036854775807
def CR : Ck := IR (-1048575) 1048575
def CW : Ck := IR (-1048576) 1048576
def B6 : Sh := .agg [CR, CR, CR, CR, CR, CR]
def P3 : Sh := .agg [CR, CR, CR]
def PW : Sh := .agg [CW, CW, CW]
def cEmpty : Ctr := ⟨40, [B6], .one .bool, none, 200⟩
def cEmptyR : Ctr := ⟨47, [B6], .one .bool, none, 200⟩
def cIn : Ctr := ⟨39, [PW, B6], .one .bool, none, 201⟩
def cInR : Ctr := ⟨48, [PW, B6], .one .bool, none, 201⟩
def cSize : Ctr := ⟨49, [B6], .agg [IR 0 2097150, IR 0 2097150, IR 0 2097150], none, 205⟩
def cSizeR : Ctr := ⟨50, [B6], .agg [IR 0 2097150, IR 0 2097150, IR 0 2097150], none, 205⟩
def cVol : Ctr := ⟨38, [B6], .one (IR 0 9223345648600875000), none, 210⟩
def cVolR : Ctr := ⟨51, [B6], .one (IR 0 9223345648600875000), none, 210⟩
def cInter : Ctr := ⟨56, [B6, B6], .agg [CR, CR, CR, CR, CR, CR], none, 220⟩
def cInterR : Ctr := ⟨57, [B6, B6], .agg [CR, CR, CR, CR, CR, CR], none, 220⟩
def cHull : Ctr := ⟨58, [B6, B6], .agg [CR, CR, CR, CR, CR, CR], none, 230⟩
def cHullR : Ctr := ⟨59, [B6, B6], .agg [CR, CR, CR, CR, CR, CR], none, 230⟩
def cCont : Ctr := ⟨60, [B6, B6], .one .bool, none, 240⟩
def cContR : Ctr := ⟨61, [B6, B6], .one .bool, none, 240⟩
def cNear : Ctr := ⟨41, [P3, B6], .one (IR (-1) 2097150), none, 250⟩
def cNearR : Ctr := ⟨62, [P3, B6], .one (IR (-1) 2097150), none, 250⟩
def cIndex : Ctr := ⟨43, [B6, PW], .one (IR (-1) 9223345648600874999), none, 260⟩
def cIndexR : Ctr := ⟨63, [B6, PW], .one (IR (-1) 9223345648600874999), none, 260⟩
def cAt : Ctr := ⟨44, [B6, .one I64], .tup [(true, [CR, CR, CR]), (false, [.bool])], none, 270⟩
def cAtR : Ctr := ⟨46, [B6, .one I64], .tup [(true, [CR, CR, CR]), (false, [.bool])], none, 270⟩
def cDist : Ctr := ⟨19, [PW, PW], .one (IR 0 2097152), none, 280⟩
def cDistR : Ctr := ⟨20, [PW, PW], .one (IR 0 2097152), none, 280⟩
def CX : Ck := IR (-1048576) 1048575
def PX : Sh := .agg [CX, CX, CX]
def cTurn : Ctr := ⟨23, [.one I64, PW], .agg [CW, CW, CW], none, 290⟩
def cTurnR : Ctr := ⟨24, [.one I64, PW], .agg [CW, CW, CW], none, 290⟩
def cCell : Ctr := ⟨25, [.one I64, PX], .agg [CX, CX, CX], none, 293⟩
def cCellR : Ctr := ⟨26, [.one I64, PX], .agg [CX, CX, CX], none, 293⟩
def cBox : Ctr := ⟨27, [.one I64, B6], .agg [CR, CR, CR, CR, CR, CR], none, 300⟩
def cBoxR : Ctr := ⟨28, [.one I64, B6], .agg [CR, CR, CR, CR, CR, CR], none, 300⟩
def cComp : Ctr := ⟨29, [.one I64, .one I64], .one (IR (-1) 47), none, 310⟩
def cCompR : Ctr := ⟨30, [.one I64, .one I64], .one (IR (-1) 47), none, 310⟩
def cInv : Ctr := ⟨31, [.one I64], .one (IR (-1) 47), none, 311⟩
def cInvR : Ctr := ⟨32, [.one I64], .one (IR (-1) 47), none, 311⟩
def cMir : Ctr := ⟨33, [.one I64], .one .bool, none, 312⟩
def cMirR : Ctr := ⟨34, [.one I64], .one .bool, none, 312⟩
def cName : Ctr := ⟨35, [.one I64], .one (.str 6), none, 313⟩
def cNameR : Ctr := ⟨36, [.one I64], .one (.str 6), none, 313⟩
def T3 : List Ck := [IR (-3) 3, IR (-3) 3, IR (-3) 3]
def cTurn3 : Ctr := ⟨23, [.one I64, .agg T3], .agg T3, none, 290⟩
def cTurn3R : Ctr := ⟨24, [.one I64, .agg T3], .agg T3, none, 290⟩
def cNum : Ctr := ⟨77, [.agg T3], .one (IR (-1) 47), none, 320⟩
/-- Of a list of contracts: each is kept. -/
def KeepL (cs : List Ctr) : Prop := ∀ c ∈ cs, CtrOk Tryd.prog ρ0 c ∧ ∃ fn, Tryd.prog.funcs[c.f]? = some fn ∧ fn.body.isSome = true ∧ (fn.name == "runtime.NumGoroutine") = false
theorem keep0 : KeepL [] := fun c hc => by cases hc
theorem KeepL.cons {c : Ctr} {cs : List Ctr} (h : CtrOk Tryd.prog ρ0 c) (hn : ∃ fn, Tryd.prog.funcs[c.f]? = some fn ∧ fn.body.isSome = true ∧ (fn.name == "runtime.NumGoroutine") = false) (hs : KeepL cs) : KeepL (c :: cs) := fun d hd => by
  rcases List.mem_cons.1 hd with rfl | hd
  · exact ⟨h, hn⟩
  · exact hs d hd
end Vc
end Go.Proofs.YtfpecoddgdcaaaaDoor
