/- Layer 33: the variables of the kinds and of the steps; the configurations. -/
import Derived.Test.YtelbilnnmmbmdaaDoorC04A
import Derived.Test.YtelbilnnmmbmdaaDoorC04Y
import Derived.LaidMore
namespace Go.Proofs.YtelbilnnmmbmdaaDoor
namespace Vc
open Go Go.RowKit Go.ChangeShapes Go.WideShapes Go.ChangeAt
set_option linter.unusedVariables false
def strA (l : List UInt8) : Value := .string ⟨l.toArray⟩
def kndV : List Value := [strA [103, 97, 115], .bool false, .bool false, .bool false, strA [115, 111, 108, 105, 100], .bool true, .bool false, .bool false, strA [102, 97, 108, 108, 105, 110, 103], .bool true, .bool false, .bool true, strA [108, 105, 113, 117, 105, 100], .bool false, .bool true, .bool false]
def stpV : List Value := [.int .i64 (-1), .int .i64 0, .int .i64 0, .int .i64 1, .int .i64 0, .int .i64 0, .int .i64 0, .int .i64 (-1), .int .i64 0, .int .i64 0, .int .i64 1, .int .i64 0, .int .i64 0, .int .i64 0, .int .i64 (-1), .int .i64 0, .int .i64 0, .int .i64 1]
def globs : List (Nat × List Value) := [(1, kndV), (0, stpV)]
def eqs : List (TypeId × List Kd) := eqsX ++ [(23, List.replicate 3 (.int .i64)), (25, List.replicate 6 (.int .i64))]
def ρ0 : Env := { x := fun _ => xI 0, f := Ff, p := Px, g := globs }
noncomputable def cf0 (cs : List Ctr) : Cfg := { eqT := eqs, ctrs := cs, qctrs := [], fns := fnL, F := none, globs := globs, sums := sumL }
theorem cf0_ok {cs : List Ctr} (h : ∀ c ∈ cs, CtrOk Tryd.prog ρ0 c ∧ ∃ fn, Tryd.prog.funcs[c.f]? = some fn ∧ fn.body.isSome = true ∧ (fn.name == "runtime.NumGoroutine") = false) : CfgOk Tryd.prog ρ0 (cf0 cs) where
 eq := eqTOk_ok (by kernel_rfl)
 globs := rfl
 F := fun F h => by cases h
 mixed := by kernel_rfl
 fns := fnOk.look
 ctr := fun c hc => (h c (by simpa [cf0] using hc)).1
 fn := fun c hc => (h c (by simpa [cf0] using hc)).2
theorem gKnd : Tryd.prog.globalNamed "voxel/material.kinds" = some 1 := by kernel_rfl
theorem tKnd : (Tryd.prog.globals[1]?).map (·.type) = some 106 := by kernel_rfl
theorem knd_trod (W : World) : DataW.trod (H := Unit) (fun _ => ()) Tryd.prog W 0 (fun _ => true) false 9 106 kndV = some (Rows.laid_voxel_material_kinds, []) := by kernel_rfl
theorem gStp : Tryd.prog.globalNamed "voxel/light.steps" = some 0 := by kernel_rfl
theorem tStp : (Tryd.prog.globals[0]?).map (·.type) = some 86 := by kernel_rfl
theorem stp_trod (W : World) : DataW.trod (H := Unit) (fun _ => ()) Tryd.prog W 0 (fun _ => true) false 9 86 stpV = some (Rows.laid_voxel_light_steps, []) := by kernel_rfl
theorem glob_ok {W : World} (h : laidMetH Tryd.prog [("voxel/material.kinds", Rows.laid_voxel_material_kinds), ("voxel/light.steps", Rows.laid_voxel_light_steps)] W) : GlobOk globs W.heap.size W := by
 rw [MakeChecks.laidMetH_plain _ _ _ (by kernel_rfl)] at h
 obtain ⟨ps, ⟨g0, t0, cs0, f0, p0, q0, hg0, ht0, hv0, hd0, ⟨g1, t1, cs1, f1, p1, q1, hg1, ht1, hv1, hd1, _⟩, _⟩, _, _⟩ := h
 obtain rfl := Option.some.inj (gKnd.symm.trans hg0)
 obtain rfl := Option.some.inj (tKnd.symm.trans ht0)
 obtain rfl := Option.some.inj (gStp.symm.trans hg1)
 obtain rfl := Option.some.inj (tStp.symm.trans ht1)
 have hcs : cs0.toList = kndV := trod_inj (m := 5) (ks := [.str, .bool, .bool, .bool, .str, .bool, .bool, .bool, .str, .bool, .bool, .bool, .str, .bool, .bool, .bool]) (by kernel_rfl) hd0 (knd_trod W) rfl
 have hcs1 : cs1.toList = stpV := trod_inj (m := 5) (ks := List.replicate 18 (.int .i64)) (by kernel_rfl) hd1 (stp_trod W) rfl
 have hcell : ∀ j v, kndV[j]? = some v → W.cell? ⟨1, j, none⟩ = some v := fun j v hj => by
  rw [World.var?_cell hg0 hv0 j]
  rw [← hcs] at hj
  simpa using hj
 have hcell1 : ∀ j v, stpV[j]? = some v → W.cell? ⟨0, j, none⟩ = some v := fun j v hj => by
  rw [World.var?_cell hg1 hv1 j]
  rw [← hcs1] at hj
  simpa using hj
 intro x hx
 rcases List.mem_cons.1 hx with rfl | hx
 ·exact ⟨lt_of_cell (hcell 0 _ rfl), hcell⟩
 ·rcases List.mem_cons.1 hx with rfl | hx
  ·exact ⟨lt_of_cell (hcell1 0 _ rfl), hcell1⟩
  ·cases hx
theorem door_met (os : Os) (args : Array Value) : laidMetH Tryd.prog [("voxel/material.kinds", Rows.laid_voxel_material_kinds), ("voxel/light.steps", Rows.laid_voxel_light_steps)] ((World.doorLaid Tryd.prog 400 os).forCall (fun _ _ => 0) ⟨#[], args, []⟩).memory :=
 laidMetH_of_parts3 (fuel := 8) (laidMet_of_run' 8 (by kernel_rfl) (by kernel_rfl)) (by kernel_rfl) (by kernel_rfl)
end Vc
end Go.Proofs.YtelbilnnmmbmdaaDoor
