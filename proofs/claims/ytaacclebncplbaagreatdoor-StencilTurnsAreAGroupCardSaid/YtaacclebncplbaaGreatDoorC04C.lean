/- Layer 4: the table of axes; the examples of the documentation hold. -/
import Derived.Test.YtaacclebncplbaaGreatDoorC04A
import Derived.Test.YtaacclebncplbaaGreatDoorC04Y
import Derived.LaidMore
namespace Go.Proofs.YtaacclebncplbaaGreatDoor
namespace Vc
open Go Go.RowKit Go.ChangeShapes Go.WideShapes Go.ChangeAt
set_option linter.unusedVariables false
def bs (a b c : UInt8) : Value := .string ⟨#[a, b, c]⟩
def axesV : List Value := [bs 120 121 122, bs 120 122 121, bs 121 120 122, bs 121 122 120, bs 122 120 121, bs 122 121 120]
def globs : List (Nat × List Value) := [(0, axesV)]
def eqs : List (TypeId × List Kd) := eqsX ++ [(23, List.replicate 3 (.int .i64)), (25, List.replicate 6 (.int .i64))]
def ρ0 : Env := { x := fun _ => xI 0, f := Ff, p := Px, g := globs }
noncomputable def cf0 (cs : List Ctr) : Cfg := { eqT := eqs, ctrs := cs, qctrs := [], fns := fnL, F := none, globs := globs, sums := sumL }
theorem cf0_ok {cs : List Ctr} (h : ∀ c ∈ cs, CtrOk Tryz.prog ρ0 c ∧ ∃ fn, Tryz.prog.funcs[c.f]? = some fn ∧ fn.body.isSome = true ∧ (fn.name == "runtime.NumGoroutine") = false) : CfgOk Tryz.prog ρ0 (cf0 cs) where
 eq := eqTOk_ok (by kernel_rfl)
 globs := rfl
 F := fun F h => by cases h
 mixed := by kernel_rfl
 fns := fnOk.look
 ctr := fun c hc => (h c (by simpa [cf0] using hc)).1
 fn := fun c hc => (h c (by simpa [cf0] using hc)).2
theorem gAxes : Tryz.prog.globalNamed "voxel/point.axes" = some 0 := by kernel_rfl
theorem tAxes : (Tryz.prog.globals[0]?).map (·.type) = some 108 := by kernel_rfl
theorem axes_trod (W : World) : DataW.trod (H := Unit) (fun _ => ()) Tryz.prog W 0 (fun _ => true) false 9 108 axesV = some (Rows.laid_voxel_point_axes, []) := by kernel_rfl
theorem glob_ok {W : World} (h : laidMetH Tryz.prog [("voxel/point.axes", Rows.laid_voxel_point_axes)] W) : GlobOk globs W.heap.size W := by
 rw [MakeChecks.laidMetH_plain _ _ _ (by kernel_rfl)] at h
 obtain ⟨ps, ⟨g0, t0, cs0, f0, p0, q0, hg0, ht0, hv0, hd0, _⟩, _, _⟩ := h
 obtain rfl := Option.some.inj (gAxes.symm.trans hg0)
 obtain rfl := Option.some.inj (tAxes.symm.trans ht0)
 have hcs : cs0.toList = axesV := trod_inj (m := 5) (ks := List.replicate 6 .str) (by kernel_rfl) hd0 (axes_trod W) rfl
 have hcell : ∀ j v, axesV[j]? = some v → W.cell? ⟨0, j, none⟩ = some v := fun j v hj => by
  rw [World.var?_cell hg0 hv0 j]
  rw [← hcs] at hj
  simpa using hj
 intro x hx
 rcases List.mem_cons.1 hx with rfl | hx
 ·exact ⟨lt_of_cell (hcell 0 _ rfl), hcell⟩
 ·cases hx
theorem door_met (os : Os) (args : Array Value) : laidMetH Tryz.prog [("voxel/point.axes", Rows.laid_voxel_point_axes)] ((World.doorLaid Tryz.prog 400 os).forCall (fun _ _ => 0) ⟨#[], args, []⟩).memory :=
 laidMetH_of_parts3 (fuel := 8) (laidMet_of_run' 8 (by kernel_rfl) (by kernel_rfl)) (by kernel_rfl) (by kernel_rfl)
end Vc
end Go.Proofs.YtaacclebncplbaaGreatDoor
namespace Go.Proofs.YtaacclebncplbaaGreatDoor
namespace Vc
open Go Go.RowKit
set_option linter.unusedVariables false
def IR (lo hi : Int) : Ck := .int .i64 lo hi
def I64 : Ck := .int .i64 (-9223372036854775808) 9223372036854775807
def CR : Ck := IR (-1048575) 1048575
def CW : Ck := IR (-1048576) 1048576
def B6 : Sh := .agg [CR, CR, CR, CR, CR, CR]
def P3 : Sh := .agg [CR, CR, CR]
def PW : Sh := .agg [CW, CW, CW]
def cEmpty : Ctr := ⟨64, [B6], .one .bool, none, 200⟩
def cEmptyR : Ctr := ⟨87, [B6], .one .bool, none, 200⟩
def cIn : Ctr := ⟨52, [PW, B6], .one .bool, none, 201⟩
def cInR : Ctr := ⟨57, [PW, B6], .one .bool, none, 201⟩
def cSize : Ctr := ⟨48, [B6], .agg [IR 0 2097150, IR 0 2097150, IR 0 2097150], none, 205⟩
def cSizeR : Ctr := ⟨55, [B6], .agg [IR 0 2097150, IR 0 2097150, IR 0 2097150], none, 205⟩
def cVol : Ctr := ⟨81, [B6], .one (IR 0 9223345648600875000), none, 210⟩
def cVolR : Ctr := ⟨38, [B6], .one (IR 0 9223345648600875000), none, 210⟩
def cHullR : Ctr := ⟨99, [B6, B6], .agg [CR, CR, CR, CR, CR, CR], none, 230⟩
def cIndex : Ctr := ⟨86, [B6, PW], .one (IR (-1) 9223345648600874999), none, 260⟩
def cIndexR : Ctr := ⟨70, [B6, PW], .one (IR (-1) 9223345648600874999), none, 260⟩
def cAt : Ctr := ⟨107, [B6, .one I64], .tup [(true, [CR, CR, CR]), (false, [.bool])], none, 270⟩
def cAtR : Ctr := ⟨56, [B6, .one I64], .tup [(true, [CR, CR, CR]), (false, [.bool])], none, 270⟩
def CX : Ck := IR (-1048576) 1048575
def PX : Sh := .agg [CX, CX, CX]
def cTurn : Ctr := ⟨94, [.one I64, PW], .agg [CW, CW, CW], none, 290⟩
def cTurnR : Ctr := ⟨76, [.one I64, PW], .agg [CW, CW, CW], none, 290⟩
def cCell : Ctr := ⟨79, [.one I64, PX], .agg [CX, CX, CX], none, 293⟩
def cCellR : Ctr := ⟨73, [.one I64, PX], .agg [CX, CX, CX], none, 293⟩
def cBox : Ctr := ⟨65, [.one I64, B6], .agg [CR, CR, CR, CR, CR, CR], none, 300⟩
def cBoxR : Ctr := ⟨72, [.one I64, B6], .agg [CR, CR, CR, CR, CR, CR], none, 300⟩
def cCompR : Ctr := ⟨35, [.one I64, .one I64], .one (IR (-1) 47), none, 310⟩
def cInv : Ctr := ⟨80, [.one I64], .one (IR (-1) 47), none, 311⟩
def cInvR : Ctr := ⟨33, [.one I64], .one (IR (-1) 47), none, 311⟩
def T3 : List Ck := [IR (-3) 3, IR (-3) 3, IR (-3) 3]
def cTurn3 : Ctr := ⟨94, [.one I64, .agg T3], .agg T3, none, 290⟩
def cTurn3R : Ctr := ⟨76, [.one I64, .agg T3], .agg T3, none, 290⟩
def cNum : Ctr := ⟨105, [.agg T3], .one (IR (-1) 47), none, 320⟩
abbrev rI (x v lo hi : Int) : Prop := x = v ∧ lo ≤ v ∧ v ≤ hi
def Hs (f : FuncId) : Prop := ∃ fn, Tryz.prog.funcs[f]? = some fn ∧ fn.body.isSome = true ∧ (fn.name == "runtime.NumGoroutine") = false
def KeepL (cs : List Ctr) : Prop := ∀ c ∈ cs, CtrOk Tryz.prog ρ0 c ∧ ∃ fn, Tryz.prog.funcs[c.f]? = some fn ∧ fn.body.isSome = true ∧ (fn.name == "runtime.NumGoroutine") = false
def KeepR (rs : List RCtr) : Prop := ∀ c ∈ rs, RCtrOk Tryz.prog ρ0 c ∧ ∃ fn, Tryz.prog.funcs[c.f]? = some fn ∧ fn.body.isSome = true ∧ (fn.name == "runtime.NumGoroutine") = false
theorem keepR0 : KeepR [] := fun c hc => by cases hc
theorem KeepR.cons {c : RCtr} {cs : List RCtr} (h : RCtrOk Tryz.prog ρ0 c) (hn : ∃ fn, Tryz.prog.funcs[c.f]? = some fn ∧ fn.body.isSome = true ∧ (fn.name == "runtime.NumGoroutine") = false) (hs : KeepR cs) : KeepR (c :: cs) := fun d hd => by
 rcases List.mem_cons.1 hd with rfl | hd
 ·exact ⟨h, hn⟩
 ·exact hs d hd
def cfP (fns : List (FuncId × Func)) (F : Option (Nat → List X → X)) (cs : List Ctr) (rs : List RCtr) (ls : List LSpec) (sm : List FuncId) : Cfg := { eqT := eqs, ctrs := cs, qctrs := [], fns, F, globs, sums := sm, loops := ls, rctrs := rs }
noncomputable def cfG (F : Option (Nat → List X → X)) (cs : List Ctr) (rs : List RCtr) (ls : List LSpec) (sm : List FuncId) : Cfg := cfP fnL F cs rs ls sm
theorem cfG_ok {F : Option (Nat → List X → X)} {cs : List Ctr} {rs : List RCtr} {ls : List LSpec} {sm : List FuncId} (h : KeepL cs) (hr : KeepR rs) (hF : ∀ G, F = some G → G = Ff) : CfgOk Tryz.prog ρ0 (cfG F cs rs ls sm) where
 eq := eqTOk_ok (by kernel_rfl)
 globs := rfl
 F := hF
 mixed := by kernel_rfl
 fns := fnOk.look
 ctr := fun c hc => (h c (by simpa [cfG, cfP] using hc)).1
 fn := fun c hc => (h c (by simpa [cfG, cfP] using hc)).2
 rctr := hr
theorem noF : ∀ G : Nat → List X → X, (none : Option (Nat → List X → X)) = some G → G = Ff := fun G h => by cases h
theorem someF : ∀ G : Nat → List X → X, some Ff = some G → G = Ff := fun G h => (Option.some.inj h).symm
theorem keep0 : KeepL [] := fun c hc => by cases hc
theorem KeepL.cons {c : Ctr} {cs : List Ctr} (h : CtrOk Tryz.prog ρ0 c) (hn : ∃ fn, Tryz.prog.funcs[c.f]? = some fn ∧ fn.body.isSome = true ∧ (fn.name == "runtime.NumGoroutine") = false) (hs : KeepL cs) : KeepL (c :: cs) := fun d hd => by
 rcases List.mem_cons.1 hd with rfl | hd
 ·exact ⟨h, hn⟩
 ·exact hs d hd
end Vc
end Go.Proofs.YtaacclebncplbaaGreatDoor
