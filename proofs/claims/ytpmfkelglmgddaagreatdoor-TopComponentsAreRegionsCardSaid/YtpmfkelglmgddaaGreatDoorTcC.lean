/- Layer 4: what the walks assume of each function of boxes and points. -/
import Derived.Test.YtpmfkelglmgddaaGreatDoorC04B
namespace Go.Proofs.YtpmfkelglmgddaaGreatDoor
namespace Vc
open Go Go.RowKit
set_option linter.unusedVariables false
def IR (lo hi : Int) : Ck := .int .i64 lo hi
def RI : Ck := .int .i64 (-9223372036854775808) 9223372036854775807
def CR : Ck := IR (-1048575) 1048575
def CW : Ck := IR (-1048576) 1048576
def B6 : Sh := .agg [CR, CR, CR, CR, CR, CR]
def P3 : Sh := .agg [CR, CR, CR]
def PW : Sh := .agg [CW, CW, CW]
def GH : kq := ⟨93, [PW, B6], .one .bool, none, 201⟩
def ub : kq := ⟨67, [PW, B6], .one .bool, none, 201⟩
def jj : kq := ⟨90, [B6], .agg [IR 0 2097150, IR 0 2097150, IR 0 2097150], none, 205⟩
def gY : kq := ⟨63, [B6], .agg [IR 0 2097150, IR 0 2097150, IR 0 2097150], none, 205⟩
def yh : kq := ⟨89, [B6], .one (IR 0 9223345648600875000), none, 210⟩
def pM : kq := ⟨39, [B6], .one (IR 0 9223345648600875000), none, 210⟩
def kP : kq := ⟨73, [B6, PW], .one (IR (-1) 9223345648600874999), none, 260⟩
def gZ : kq := ⟨42, [B6, PW], .one (IR (-1) 9223345648600874999), none, 260⟩
def J9 : kq := ⟨69, [B6, .one RI], .eJ [(true, [CR, CR, CR]), (false, [.bool])], none, 270⟩
abbrev rI (x v lo hi : Int) : Prop := x = v ∧ lo ≤ v ∧ v ≤ hi
def Hs (f : FuncId) : Prop := ∃ fn, Tryz.prog.funcs[f]? = some fn ∧ fn.body.isSome = true ∧ (fn.name == "runtime.NumGoroutine") = false
def nS (cs : List kq) : Prop := ∀ c ∈ cs, fZ Tryz.prog ρ0 c ∧ ∃ fn, Tryz.prog.funcs[c.f]? = some fn ∧ fn.body.isSome = true ∧ (fn.name == "runtime.NumGoroutine") = false
def lV (rs : List br) : Prop := ∀ c ∈ rs, aZ Tryz.prog ρ0 c ∧ ∃ fn, Tryz.prog.funcs[c.f]? = some fn ∧ fn.body.isSome = true ∧ (fn.name == "runtime.NumGoroutine") = false
theorem bw : lV [] := fun c hc => by cases hc
theorem lV.cons {c : br} {cs : List br} (h : aZ Tryz.prog ρ0 c) (hn : ∃ fn, Tryz.prog.funcs[c.f]? = some fn ∧ fn.body.isSome = true ∧ (fn.name == "runtime.NumGoroutine") = false) (hs : lV cs) : lV (c :: cs) := fun d hd => by
 rcases List.mem_cons.1 hd with rfl | hd
 ·exact ⟨h, hn⟩
 ·exact hs d hd
def Mv (fns : List (FuncId × Func)) (F : Option (Nat → List X → X)) (cs : List kq) (rs : List br) (ls : List ba) (sm : List FuncId) : a8 := { N4 := eqs, vV := cs, pJ := [], fns, F, bL, JZ := sm, loops := ls, Ap := rs }
noncomputable def gx (F : Option (Nat → List X → X)) (cs : List kq) (rs : List br) (ls : List ba) (sm : List FuncId) : a8 := Mv OA F cs rs ls sm
theorem cI {F : Option (Nat → List X → X)} {cs : List kq} {rs : List br} {ls : List ba} {sm : List FuncId} (h : nS cs) (hr : lV rs) (hF : ∀ G, F = some G → G = Ff) : aP Tryz.prog ρ0 (gx F cs rs ls sm) where
 eq := gz (by kernel_rfl)
 bL := rfl
 F := hF
 mixed := by kernel_rfl
 fns := JS.look
 pK := fun c hc => (h c (by simpa [gx, Mv] using hc)).1
 fn := fun c hc => (h c (by simpa [gx, Mv] using hc)).2
 mW := hr
theorem kO : ∀ G : Nat → List X → X, (none : Option (Nat → List X → X)) = some G → G = Ff := fun G h => by cases h
theorem I2 : ∀ G : Nat → List X → X, some Ff = some G → G = Ff := fun G h => (Option.some.inj h).symm
theorem bt : nS [] := fun c hc => by cases hc
theorem nS.cons {c : kq} {cs : List kq} (h : fZ Tryz.prog ρ0 c) (hn : ∃ fn, Tryz.prog.funcs[c.f]? = some fn ∧ fn.body.isSome = true ∧ (fn.name == "runtime.NumGoroutine") = false) (hs : nS cs) : nS (c :: cs) := fun d hd => by
 rcases List.mem_cons.1 hd with rfl | hd
 ·exact ⟨h, hn⟩
 ·exact hs d hd
end Vc
end Go.Proofs.YtpmfkelglmgddaaGreatDoor
namespace Go.Proofs.YtpmfkelglmgddaaGreatDoor
namespace Vc
open Go Go.RowKit
set_option linter.unusedVariables false
def wo : RA := .int .i64 (-9223372036854775808) 9223372036854775807
def S64 : Sk := .int .i64 (-9223372036854775808) 9223372036854775807
def oH : RA := .int .i64 (-1048575) 1048575
def KS : RA := .int .i64 (-1048576) 1048576
def O0 : iY := .agg [wo, wo, wo, wo, wo, wo, .row [S64] maxLen]
def gW : List Sk := [.int .i64 0 255]
def QY : iY := .agg [oH, oH, oH, oH, oH, oH, .row gW 2097152]
def BV : Nat → List dV
 | 0 => []
 | n + 1 => BV n ++ [.ex (.var n)]
def jV : br := ⟨13, [O0], .one .bool, none, 700⟩
def wq : List ba := [⟨[0, 0], 20, [(.tmp 6, 0, 2097152)], [], BV 7, 720, 750⟩]
def Oc : iY := .agg [KS, KS, KS]
end Vc
end Go.Proofs.YtpmfkelglmgddaaGreatDoor
namespace Go.Proofs.YtpmfkelglmgddaaGreatDoor
namespace Vc
open Go Go.RowKit
set_option linter.unusedVariables false
def Gp : List Sk := [.str maxLen, .bool, .bool, .bool, S64, S64, S64, S64]
def Od : iY := .one (.row Gp maxLen)
def Nj : iY := .agg [wo, wo, wo]
def KT : br := ⟨44, [Od, .one wo], .one .bool, none, 831⟩
def yv : br := ⟨131, [Od, .one wo], .one .bool, none, 831⟩
def Jf : List iY := [QY, Oc]
def nQ : br := ⟨16, [O0, Oc], .one (.int .i64 0 255), some 710, 838⟩
def um : br := ⟨64, [Nj], .one (.int .i64 (-1) 4398046511103), none, 900⟩
def vY : List Sk := [.int .i64 0 0, .int .i64 0 4, .int .i64 0 4, .int .i64 0 4]
def yy : iY := .one (.row vY 8)
def kG : br := ⟨72, [yy, Nj], .one (.int .i64 (-1) 7), some 950, 901⟩
def D6 : List ba := [⟨[0, 91], 20, [(.tmp 9, 0, 8), (.tmp 10, 0, 8)], [], BV 4, 970, 980⟩]
def KU : iY := .one (.abs 0)
def Gs : iY := .agg [.int .i64 (-1000) 1000, .int .i64 (-1000) 1000, .int .i64 (-1000) 1000]
def wu : br := ⟨46, [yy, KU, Gs], .eJ [(true, [.int .i64 0 7, .int .i64 0 7, .int .i64 0 7, .int .i64 0 1, .int .i64 0 255]), (false, [.bool])], some 951, 902⟩
def sA : br := ⟨43, [.agg [.int .i64 0 0, .int .i64 0 4, .int .i64 0 4, .int .i64 0 4], .one (.row [.int .i64 0 255] 64), .one (.int .i64 0 63)], .agg [.int .i64 0 8, .int .i64 0 8, .int .i64 0 8, .int .i64 1 1, .int .i64 0 255], some 953, 908⟩
def PG (d : Nat) : dV × TypeId × List Sk × Int := (.tmp d, 49, iO, 3072)
def Aq : List ba := [⟨[0, 0], 20, [(.tmp 22, 0, 8)], [PG 7], BV 3, 960, 985⟩, ⟨[2, 0], 30, [(.tmp 32, 0, 64)], [PG 7], BV 3 ++ [.tmp 22], 961, 986⟩, ⟨[4, 0], 40, [(.tmp 47, 0, 6)], [PG 7], BV 3 ++ [.tmp 22, .tmp 32], 962, 987⟩]
def jo : br := ⟨18, [yy, KU, Od], .one (.row 49 iO 3072), some 952, 920⟩
def PH : iY := .one (.int .i64 0 2)
def uv : br := ⟨79, [.agg [.int .i64 (-990) 990, .int .i64 (-990) 990, .int .i64 (-990) 990], PH, .one (.int .i64 (-1) 1)], .agg [.int .i64 (-991) 991, .int .i64 (-991) 991, .int .i64 (-991) 991], none, 930⟩
def yz : br := ⟨82, [.agg [.int .i64 (-900) 900, .int .i64 (-900) 900, .int .i64 (-900) 900], PH, .one (.int .i64 0 3)], .agg [.int .i64 (-902) 902, .int .i64 (-902) 902, .int .i64 (-902) 902], none, 933⟩
def wv : br := ⟨81, [yy, Gs], .one (.int .i64 0 1), some 950, 936⟩
def yA : br := ⟨80, [.one (.int .i64 0 1), .one (.int .i64 0 1)], .one (.int .i64 0 1), none, 937⟩
def wx : br := ⟨52, [yy, .agg [.int .i64 (-900) 900, .int .i64 (-900) 900, .int .i64 (-900) 900], PH], .one (.int .i64 1 1), some 955, 938⟩
def Ra : List Sk := [.int .i64 (-1000) 1000, .int .i64 (-1000) 1000, .int .i64 (-1000) 1000]
def wy : br := ⟨19, [yy, .agg [.int .i64 (-9) 9, .int .i64 (-9) 9, .int .i64 (-9) 9, .int .i64 0 2, .bool, .int .i64 1 1]], .one (.row 23 Ra 4), some 954, 940⟩
def BT : iY := .agg [.row iO 3072, .row su 12288]
def DW : br := ⟨20, [BT, .one (.int .i64 0 12287)], .agg [.int .i64 (-1000) 1000, .int .i64 (-1000) 1000, .int .i64 (-1000) 1000], some 956, 945⟩
def yB : br := ⟨21, [.agg [.int .i64 (-9) 9, .int .i64 (-9) 9, .int .i64 (-9) 9, .int .i64 0 2, .bool, .int .i64 1 1], .agg [.int .i64 (-1000) 1000, .int .i64 (-1000) 1000, .int .i64 (-1000) 1000, .int .i64 (-1000) 1000, .int .i64 (-1000) 1000, .int .i64 (-1000) 1000]], .agg [.int .i64 (-1001) 1000, .int .i64 (-1001) 1000, .int .i64 (-1001) 1000], none, 948⟩
def PI : dV × TypeId × List Sk × Int := (.cell 5 1, 68, su, 12288)
def Rb : dV × TypeId × List Sk × Int := (.mS 7, 0, [.bool], 0)
def Ar : List ba := [⟨[0, 0], 20, [(.tmp 30, 0, 3072)], [PI, Rb], BV 3, 963, 988⟩, ⟨[2, 0], 30, [(.tmp 43, 0, 4)], [PI, Rb], BV 3 ++ [.tmp 30, .KV 39], 964, 989⟩, ⟨[4, 0], 40, [(.tmp 89, 0, 12288)], [PI], BV 3, 965, 992⟩, ⟨[0, 22], 50, [(.tmp 8, 0, 1000000)], [], BV 3 ++ [.ex (.var 40)], 966, 993⟩]
def ng : br := ⟨6, [yy, KU, Od], .agg [.row 49 iO 3072, .row 68 su 12288], some 952, 941⟩
def Ku : List RA := [wo, wo, wo, wo, wo, wo, .row [S64] maxLen, .row Gp maxLen]
def Pd : List RA := [oH, oH, oH, oH, oH, oH, .row gW 2097152, .row Gp maxLen]
def ig : br := ⟨130, [.agg Ku, Oc], .eJ [(false, [.int .i64 0 1]), (false, [.bool])], some 710, 913⟩
def DM : List iY := [.agg Pd, Oc]
def pU : br := ⟨8, [.lH Ku, Gs, Gs, .one (.int .i64 512 512)], .eJ [(false, [.bool]), (false, [.int .i64 0 0])], some 973, 918⟩
def yr : List iY := [.lH Pd, Gs, Gs, .one (.int .i64 512 512)]
def wb : List Sk := [S64, S64, S64]
def sU : br := ⟨9, [.agg [.int .i64 (-9) 9, .int .i64 (-9) 9, .int .i64 (-9) 9, .int .i64 0 2, .bool, .int .i64 1 1]], .agg [.int .i64 (-10) 9, .int .i64 (-10) 9, .int .i64 (-10) 9], none, 915⟩
def BU : br := ⟨41, [.agg [.int .i64 0 0, .int .i64 0 0, .int .i64 0 0, .int .i64 0 0], .one (.int .i64 1 8)], .one (.row 52 vY 8), none, 921⟩
end Vc
end Go.Proofs.YtpmfkelglmgddaaGreatDoor
