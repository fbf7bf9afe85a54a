/- Layer 4: the table of axes; the examples of the documentation hold. -/
import Derived.Test.YtaacclebncplbaaGreatDoorC04A
import Derived.Test.YtaacclebncplbaaGreatDoorC04Y
import Derived.LaidMore
namespace Go.Proofs.YtaacclebncplbaaGreatDoor
namespace Vc
open Go Go.RowKit Go.ChangeShapes Go.WideShapes Go.ChangeAt
set_option linter.unusedVariables false
def bs (a b c : UInt8) : Value := .string ⟨#[a, b, c]⟩
def axesV : List Value := [bs 120 121 122, bs 120 122 121, bs 121 120 122, bs 121 122 120, bs 122 120 121, bs 122 121 120]
def globs : List (Nat × List Value) := [(0, axesV)]
def eqs : List (TypeId × List Kd) := eqsX ++ [(23, List.replicate 3 (.int .i64)), (25, List.replicate 6 (.int .i64))]
def ρ0 : Env := { x := fun _ => xI 0, f := Ff, p := Px, g := globs }
noncomputable def cf0 (cs : List Ctr) : Cfg := { eqT := eqs, ctrs := cs, qctrs := [], fns := fnL, F := none, globs := globs, sums := sumL }
theorem cf0_ok {cs : List Ctr} (h : ∀ c ∈ cs, CtrOk Tryz.prog ρ0 c ∧ ∃ fn, Tryz.prog.funcs[c.f]? = some fn ∧ fn.body.isSome = true ∧ (fn.name == "runtime.NumGoroutine") = false) : CfgOk Tryz.prog ρ0 (cf0 cs) where
 eq := eqTOk_ok (by kernel_rfl)
 globs := rfl
 F := fun F h => by cases h
 mixed := by kernel_rfl
 fns := fnOk.look
 ctr := fun c hc => (h c (by simpa [cf0] using hc)).1
 fn := fun c hc => (h c (by simpa [cf0] using hc)).2
theorem gAxes : Tryz.prog.globalNamed "voxel/point.axes" = some 0 := by kernel_rfl
theorem tAxes : (Tryz.prog.globals[0]?).map (·.type) = some 108 := by kernel_rfl
theorem axes_trod (W : World) : DataW.trod (H := Unit) (fun _ => ()) Tryz.prog W 0 (fun _ => true) false 9 108 axesV = some (Rows.laid_voxel_point_axes, []) := by kernel_rfl
theorem glob_ok {W : World} (h : laidMetH Tryz.prog [("voxel/point.axes", Rows.laid_voxel_point_axes)] W) : GlobOk globs W.heap.size W := by
 rw [MakeChecks.laidMetH_plain _ _ _ (by kernel_rfl)] at h
 obtain ⟨ps, ⟨g0, t0, cs0, f0, p0, q0, hg0, ht0, hv0, hd0, _⟩, _, _⟩ := h
 obtain rfl := Option.some.inj (gAxes.symm.trans hg0)
 obtain rfl := Option.some.inj (tAxes.symm.trans ht0)
 have hcs : cs0.toList = axesV := trod_inj (m := 5) (ks := List.replicate 6 .str) (by kernel_rfl) hd0 (axes_trod W) rfl
 have hcell : ∀ j v, axesV[j]? = some v → W.cell? ⟨0, j, none⟩ = some v := fun j v hj => by
  rw [World.var?_cell hg0 hv0 j]
  rw [← hcs] at hj
  simpa using hj
 intro x hx
 rcases List.mem_cons.1 hx with rfl | hx
 ·exact ⟨lt_of_cell (hcell 0 _ rfl), hcell⟩
 ·cases hx
theorem door_met (os : Os) (args : Array Value) : laidMetH Tryz.prog [("voxel/point.axes", Rows.laid_voxel_point_axes)] ((World.doorLaid Tryz.prog 400 os).forCall (fun _ _ => 0) ⟨#[], args, []⟩).memory :=
 laidMetH_of_parts3 (fuel := 8) (laidMet_of_run' 8 (by kernel_rfl) (by kernel_rfl)) (by kernel_rfl) (by kernel_rfl)
end Vc
end Go.Proofs.YtaacclebncplbaaGreatDoor
