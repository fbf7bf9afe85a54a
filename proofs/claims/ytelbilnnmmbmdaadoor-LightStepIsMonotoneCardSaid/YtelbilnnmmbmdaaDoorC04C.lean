/- Layer 4: what the walks assume of each function of boxes and points. -/
import Derived.Test.YtelbilnnmmbmdaaDoorC04B
namespace Go.Proofs.YtelbilnnmmbmdaaDoor
namespace Vc
open Go Go.RowKit
set_option linter.unusedVariables false
def IR (lo hi : Int) : Ck := .int .i64 lo hi
def I64 : Ck := .int .i64 (-9223372036854775808) 9223372036854775807
def CR : Ck := IR (-1048575) 1048575
def CW : Ck := IR (-1048576) 1048576
def B6 : Sh := .agg [CR, CR, CR, CR, CR, CR]
def P3 : Sh := .agg [CR, CR, CR]
def PW : Sh := .agg [CW, CW, CW]
def cEmpty : Ctr := ⟨66, [B6], .one .bool, none, 200⟩
def cEmptyR : Ctr := ⟨79, [B6], .one .bool, none, 200⟩
def cIn : Ctr := ⟨50, [PW, B6], .one .bool, none, 201⟩
def cInR : Ctr := ⟨48, [PW, B6], .one .bool, none, 201⟩
def cSize : Ctr := ⟨77, [B6], .agg [IR 0 2097150, IR 0 2097150, IR 0 2097150], none, 205⟩
def cSizeR : Ctr := ⟨55, [B6], .agg [IR 0 2097150, IR 0 2097150, IR 0 2097150], none, 205⟩
def cVol : Ctr := ⟨67, [B6], .one (IR 0 9223345648600875000), none, 210⟩
def cVolR : Ctr := ⟨54, [B6], .one (IR 0 9223345648600875000), none, 210⟩
def cIndex : Ctr := ⟨51, [B6, PW], .one (IR (-1) 9223345648600874999), none, 260⟩
def cIndexR : Ctr := ⟨29, [B6, PW], .one (IR (-1) 9223345648600874999), none, 260⟩
def cAt : Ctr := ⟨62, [B6, .one I64], .tup [(true, [CR, CR, CR]), (false, [.bool])], none, 270⟩
def cAtR : Ctr := ⟨28, [B6, .one I64], .tup [(true, [CR, CR, CR]), (false, [.bool])], none, 270⟩
def CX : Ck := IR (-1048576) 1048575
def PX : Sh := .agg [CX, CX, CX]
def T3 : List Ck := [IR (-3) 3, IR (-3) 3, IR (-3) 3]
abbrev rI (x v lo hi : Int) : Prop := x = v ∧ lo ≤ v ∧ v ≤ hi
def Hs (f : FuncId) : Prop := ∃ fn, Tryd.prog.funcs[f]? = some fn ∧ fn.body.isSome = true ∧ (fn.name == "runtime.NumGoroutine") = false
def KeepL (cs : List Ctr) : Prop := ∀ c ∈ cs, CtrOk Tryd.prog ρ0 c ∧ ∃ fn, Tryd.prog.funcs[c.f]? = some fn ∧ fn.body.isSome = true ∧ (fn.name == "runtime.NumGoroutine") = false
def KeepR (rs : List RCtr) : Prop := ∀ c ∈ rs, RCtrOk Tryd.prog ρ0 c ∧ ∃ fn, Tryd.prog.funcs[c.f]? = some fn ∧ fn.body.isSome = true ∧ (fn.name == "runtime.NumGoroutine") = false
theorem keepR0 : KeepR [] := fun c hc => by cases hc
theorem KeepR.cons {c : RCtr} {cs : List RCtr} (h : RCtrOk Tryd.prog ρ0 c) (hn : ∃ fn, Tryd.prog.funcs[c.f]? = some fn ∧ fn.body.isSome = true ∧ (fn.name == "runtime.NumGoroutine") = false) (hs : KeepR cs) : KeepR (c :: cs) := fun d hd => by
 rcases List.mem_cons.1 hd with rfl | hd
 ·exact ⟨h, hn⟩
 ·exact hs d hd
def cfP (fns : List (FuncId × Func)) (F : Option (Nat → List X → X)) (cs : List Ctr) (rs : List RCtr) (ls : List LSpec) (sm : List FuncId) : Cfg := { eqT := eqs, ctrs := cs, qctrs := [], fns, F, globs, sums := sm, loops := ls, rctrs := rs }
noncomputable def cfG (F : Option (Nat → List X → X)) (cs : List Ctr) (rs : List RCtr) (ls : List LSpec) (sm : List FuncId) : Cfg := cfP fnL F cs rs ls sm
theorem cfG_ok {F : Option (Nat → List X → X)} {cs : List Ctr} {rs : List RCtr} {ls : List LSpec} {sm : List FuncId} (h : KeepL cs) (hr : KeepR rs) (hF : ∀ G, F = some G → G = Ff) : CfgOk Tryd.prog ρ0 (cfG F cs rs ls sm) where
 eq := eqTOk_ok (by kernel_rfl)
 globs := rfl
 F := hF
 mixed := by kernel_rfl
 fns := fnOk.look
 ctr := fun c hc => (h c (by simpa [cfG, cfP] using hc)).1
 fn := fun c hc => (h c (by simpa [cfG, cfP] using hc)).2
 rctr := hr
theorem noF : ∀ G : Nat → List X → X, (none : Option (Nat → List X → X)) = some G → G = Ff := fun G h => by cases h
theorem someF : ∀ G : Nat → List X → X, some Ff = some G → G = Ff := fun G h => (Option.some.inj h).symm
theorem keep0 : KeepL [] := fun c hc => by cases hc
theorem KeepL.cons {c : Ctr} {cs : List Ctr} (h : CtrOk Tryd.prog ρ0 c) (hn : ∃ fn, Tryd.prog.funcs[c.f]? = some fn ∧ fn.body.isSome = true ∧ (fn.name == "runtime.NumGoroutine") = false) (hs : KeepL cs) : KeepL (c :: cs) := fun d hd => by
 rcases List.mem_cons.1 hd with rfl | hd
 ·exact ⟨h, hn⟩
 ·exact hs d hd
end Vc
end Go.Proofs.YtelbilnnmmbmdaaDoor
