/- Contracts of functions, each out of one walk. -/
import Derived.Test.YtleapeclbkclaaaGreatDoorC07M
import Derived.Test.YtleapeclbkclaaaGreatDoorC07R
import Derived.Test.YtleapeclbkclaaaGreatDoorC04D
import Derived.Test.YtleapeclbkclaaaGreatDoorC04E
namespace Go.Proofs.YtleapeclbkclaaaGreatDoor
namespace Vc
open Go Go.RowKit
set_option linter.unusedVariables false

/-- What is left of the contract of grid.Get. -/
def GetP (x0 : Int) (x1 : Int) (x2 : Int) (x3 : Int) (x4 : Int) (x5 : Int) (x6 : X) (x7 : Int) (x8 : Int) (x9 : Int) : Prop :=
(let v0 : X := Ff 260 [(xI x0), (xI x1), (xI x2), (xI x3), (xI x4), (xI x5), (xI x7), (xI x8), (xI x9)]; (((0 ≤ v0.i) →
((v0.i < x6.i) ∧
((x6.r v0.i 0).i = (Ff 908 [xI x0, xI x1, xI x2, xI x3, xI x4, xI x5, x6, xI x7, xI x8, xI x9]).i ∧ 0 ≤ (Ff 908 [xI x0, xI x1, xI x2, xI x3, xI x4, xI x5, x6, xI x7, xI x8, xI x9]).i ∧ (Ff 908 [xI x0, xI x1, xI x2, xI x3, xI x4, xI x5, x6, xI x7, xI x8, xI x9]).i ≤ 255))) ∧
((¬ (0 ≤ v0.i)) →
(0 = (Ff 908 [xI x0, xI x1, xI x2, xI x3, xI x4, xI x5, x6, xI x7, xI x8, xI x9]).i ∧ 0 ≤ (Ff 908 [xI x0, xI x1, xI x2, xI x3, xI x4, xI x5, x6, xI x7, xI x8, xI x9]).i ∧ (Ff 908 [xI x0, xI x1, xI x2, xI x3, xI x4, xI x5, x6, xI x7, xI x8, xI x9]).i ≤ 255))))
theorem GetL (x0 : Int) (x1 : Int) (x2 : Int) (x3 : Int) (x4 : Int) (x5 : Int) (x6 : X) (x7 : Int) (x8 : Int) (x9 : Int) : (ctrR (fun j => Ff j [xI x0, xI x1, xI x2, xI x3, xI x4, xI x5, x6, xI x7, xI x8, xI x9]) cGet.fs cGet.res { ρ0 with x := fun j => [xI x0, xI x1, xI x2, xI x3, xI x4, xI x5, x6, xI x7, xI x8, xI x9].getD j (xI 0) } (walkR Tryz.prog (cfG none [cIndex] [] [] sumL) Tryz.f8 400 shGet)) = GetP x0 x1 x2 x3 x4 x5 x6 x7 x8 x9 := by kernel_rfl
set_option maxHeartbeats 4000000 in
theorem GetO (x0 : Int) (x1 : Int) (x2 : Int) (x3 : Int) (x4 : Int) (x5 : Int) (x6 : X) (x7 : Int) (x8 : Int) (x9 : Int) (g0 : -1048575 ≤ x0 ∧ x0 ≤ 1048575) (g1 : -1048575 ≤ x1 ∧ x1 ≤ 1048575) (g2 : -1048575 ≤ x2 ∧ x2 ≤ 1048575) (g3 : -1048575 ≤ x3 ∧ x3 ≤ 1048575) (g4 : -1048575 ≤ x4 ∧ x4 ≤ 1048575) (g5 : -1048575 ≤ x5 ∧ x5 ≤ 1048575) (g6 : 0 ≤ x6.i ∧ x6.i ≤ 2097152 ∧ RowOk [.int .i64 (0) (255)] x6.r x6.i.toNat) (g7 : -1048576 ≤ x7 ∧ x7 ≤ 1048576) (g8 : -1048576 ≤ x8 ∧ x8 ≤ 1048576) (g9 : -1048576 ≤ x9 ∧ x9 ≤ 1048576) (gp : Px cGet.pre.get! [xI x0, xI x1, xI x2, xI x3, xI x4, xI x5, x6, xI x7, xI x8, xI x9]) : GetP x0 x1 x2 x3 x4 x5 x6 x7 x8 x9 := by
  unfold GetP
  obtain ⟨k0, k1, k2, k3, k4⟩ := (v700 g6.1).1 gp
  intro v0
  have e0 : v0.i = (bxI x0 x1 x2 x3 x4 x5).idx (x7, x8, x9) := rfl
  refine And.intro ?_ ?_
  · intro h2
    refine andI ?_ fun o3 => ?_
    · skip -- #0
      have h5 := (idx_ok (b := bxI x0 x1 x2 x3 x4 x5) (p := (x7, x8, x9)) (idx_has.1 (by rw [← e0]; omega))).2
      have h6 : (bxI x0 x1 x2 x3 x4 x5).vol = x6.i := k3
      omega
    skip -- #1
    have h6 : (bxI x0 x1 x2 x3 x4 x5).vol = x6.i := k3
    have hh := idx_has.1 (show 0 ≤ (bxI x0 x1 x2 x3 x4 x5).idx (x7, x8, x9) by rw [← e0]; omega)
    have h5 := (idx_ok hh).2
    refine rngI (getL_in hh h6) ?_
    have := matB_iff.1 (lxI_allA (k := v0.i) (by omega) (by omega) k4)
    omega
  intro h4
  exact rngI (getL_out (show ¬ 0 ≤ v0.i by omega)) (by decide) -- #2
theorem kGet : RCtrOk Tryz.prog ρ0 cGet := by
  refine rctr_ofN (cf := cfG none [cIndex] [] [] sumL) (cfG_ok (keep0.cons kIndex nIndex) keepR0 noF) Tryz.func8 rfl 400 rfl (sh := shGet) (by kernel_rfl) val_rsh fun ds hr hp => ?_
  have hr := rshX_flat hr
  match ds, hr, hp with
  | [d0, d1, d2, d3, d4, d5, d6, d7, d8, d9], hr, hp =>
    obtain ⟨⟨e0, l0, u0⟩, ⟨e1, l1, u1⟩, ⟨e2, l2, u2⟩, ⟨e3, l3, u3⟩, ⟨e4, l4, u4⟩, ⟨e5, l5, u5⟩, l6, ⟨e7, l7, u7⟩, ⟨e8, l8, u8⟩, ⟨e9, l9, u9⟩, _⟩ := hr
    generalize d0.i = x0 at *
    generalize d1.i = x1 at *
    generalize d2.i = x2 at *
    generalize d3.i = x3 at *
    generalize d4.i = x4 at *
    generalize d5.i = x5 at *
    generalize d6 = x6 at *
    generalize d7.i = x7 at *
    generalize d8.i = x8 at *
    generalize d9.i = x9 at *
    subst e0 e1 e2 e3 e4 e5 e7 e8 e9
    exact Eq.mpr (GetL x0 x1 x2 x3 x4 x5 x6 x7 x8 x9) (GetO x0 x1 x2 x3 x4 x5 x6 x7 x8 x9 ⟨l0, u0⟩ ⟨l1, u1⟩ ⟨l2, u2⟩ ⟨l3, u3⟩ ⟨l4, u4⟩ ⟨l5, u5⟩ l6 ⟨l7, u7⟩ ⟨l8, u8⟩ ⟨l9, u9⟩ hp)
theorem nGet : ∃ fn, Tryz.prog.funcs[cGet.f]? = some fn ∧ fn.body.isSome = true ∧ (fn.name == "runtime.NumGoroutine") = false := ⟨_, Tryz.func8, by kernel_rfl, by kernel_rfl⟩

/-- What is left of the contract of voxelref07.Get. -/
def GetRP (x0 : Int) (x1 : Int) (x2 : Int) (x3 : Int) (x4 : Int) (x5 : Int) (x6 : X) (x7 : Int) (x8 : Int) (x9 : Int) : Prop :=
(let v0 : X := Ff 260 [(xI x0), (xI x1), (xI x2), (xI x3), (xI x4), (xI x5), (xI x7), (xI x8), (xI x9)]; (((v0.i < 0) →
(0 = (Ff 908 [xI x0, xI x1, xI x2, xI x3, xI x4, xI x5, x6, xI x7, xI x8, xI x9]).i ∧ 0 ≤ (Ff 908 [xI x0, xI x1, xI x2, xI x3, xI x4, xI x5, x6, xI x7, xI x8, xI x9]).i ∧ (Ff 908 [xI x0, xI x1, xI x2, xI x3, xI x4, xI x5, x6, xI x7, xI x8, xI x9]).i ≤ 255)) ∧
((¬ (v0.i < 0)) →
((v0.i < x6.i) ∧
((x6.r v0.i 0).i = (Ff 908 [xI x0, xI x1, xI x2, xI x3, xI x4, xI x5, x6, xI x7, xI x8, xI x9]).i ∧ 0 ≤ (Ff 908 [xI x0, xI x1, xI x2, xI x3, xI x4, xI x5, x6, xI x7, xI x8, xI x9]).i ∧ (Ff 908 [xI x0, xI x1, xI x2, xI x3, xI x4, xI x5, x6, xI x7, xI x8, xI x9]).i ≤ 255)))))
theorem GetRL (x0 : Int) (x1 : Int) (x2 : Int) (x3 : Int) (x4 : Int) (x5 : Int) (x6 : X) (x7 : Int) (x8 : Int) (x9 : Int) : (ctrR (fun j => Ff j [xI x0, xI x1, xI x2, xI x3, xI x4, xI x5, x6, xI x7, xI x8, xI x9]) cGetR.fs cGetR.res { ρ0 with x := fun j => [xI x0, xI x1, xI x2, xI x3, xI x4, xI x5, x6, xI x7, xI x8, xI x9].getD j (xI 0) } (walkR Tryz.prog (cfG none [cIndexR] [] [] sumL) Tryz.f9 400 shGet)) = GetRP x0 x1 x2 x3 x4 x5 x6 x7 x8 x9 := by kernel_rfl
set_option maxHeartbeats 4000000 in
theorem GetRO (x0 : Int) (x1 : Int) (x2 : Int) (x3 : Int) (x4 : Int) (x5 : Int) (x6 : X) (x7 : Int) (x8 : Int) (x9 : Int) (g0 : -1048575 ≤ x0 ∧ x0 ≤ 1048575) (g1 : -1048575 ≤ x1 ∧ x1 ≤ 1048575) (g2 : -1048575 ≤ x2 ∧ x2 ≤ 1048575) (g3 : -1048575 ≤ x3 ∧ x3 ≤ 1048575) (g4 : -1048575 ≤ x4 ∧ x4 ≤ 1048575) (g5 : -1048575 ≤ x5 ∧ x5 ≤ 1048575) (g6 : 0 ≤ x6.i ∧ x6.i ≤ 2097152 ∧ RowOk [.int .i64 (0) (255)] x6.r x6.i.toNat) (g7 : -1048576 ≤ x7 ∧ x7 ≤ 1048576) (g8 : -1048576 ≤ x8 ∧ x8 ≤ 1048576) (g9 : -1048576 ≤ x9 ∧ x9 ≤ 1048576) (gp : Px cGetR.pre.get! [xI x0, xI x1, xI x2, xI x3, xI x4, xI x5, x6, xI x7, xI x8, xI x9]) : GetRP x0 x1 x2 x3 x4 x5 x6 x7 x8 x9 := by
  unfold GetRP
  obtain ⟨k0, k1, k2, k3, k4⟩ := (v700 g6.1).1 gp
  intro v0
  have e0 : v0.i = (bxI x0 x1 x2 x3 x4 x5).idx (x7, x8, x9) := rfl
  refine And.intro ?_ ?_
  · intro h2
    exact rngI (getL_out (show ¬ 0 ≤ v0.i by omega)) (by decide) -- #0
  intro h3
  refine andI ?_ fun o4 => ?_
  · skip -- #1
    have h5 := (idx_ok (b := bxI x0 x1 x2 x3 x4 x5) (p := (x7, x8, x9)) (idx_has.1 (by rw [← e0]; omega))).2
    have h6 : (bxI x0 x1 x2 x3 x4 x5).vol = x6.i := k3
    omega
  skip -- #2
  have h6 : (bxI x0 x1 x2 x3 x4 x5).vol = x6.i := k3
  have hh := idx_has.1 (show 0 ≤ (bxI x0 x1 x2 x3 x4 x5).idx (x7, x8, x9) by rw [← e0]; omega)
  have h5 := (idx_ok hh).2
  refine rngI (getL_in hh h6) ?_
  have := matB_iff.1 (lxI_allA (k := v0.i) (by omega) (by omega) k4)
  omega
theorem kGetR : RCtrOk Tryz.prog ρ0 cGetR := by
  refine rctr_ofN (cf := cfG none [cIndexR] [] [] sumL) (cfG_ok (keep0.cons kIndexR nIndexR) keepR0 noF) Tryz.func9 rfl 400 rfl (sh := shGet) (by kernel_rfl) val_rsh fun ds hr hp => ?_
  have hr := rshX_flat hr
  match ds, hr, hp with
  | [d0, d1, d2, d3, d4, d5, d6, d7, d8, d9], hr, hp =>
    obtain ⟨⟨e0, l0, u0⟩, ⟨e1, l1, u1⟩, ⟨e2, l2, u2⟩, ⟨e3, l3, u3⟩, ⟨e4, l4, u4⟩, ⟨e5, l5, u5⟩, l6, ⟨e7, l7, u7⟩, ⟨e8, l8, u8⟩, ⟨e9, l9, u9⟩, _⟩ := hr
    generalize d0.i = x0 at *
    generalize d1.i = x1 at *
    generalize d2.i = x2 at *
    generalize d3.i = x3 at *
    generalize d4.i = x4 at *
    generalize d5.i = x5 at *
    generalize d6 = x6 at *
    generalize d7.i = x7 at *
    generalize d8.i = x8 at *
    generalize d9.i = x9 at *
    subst e0 e1 e2 e3 e4 e5 e7 e8 e9
    exact Eq.mpr (GetRL x0 x1 x2 x3 x4 x5 x6 x7 x8 x9) (GetRO x0 x1 x2 x3 x4 x5 x6 x7 x8 x9 ⟨l0, u0⟩ ⟨l1, u1⟩ ⟨l2, u2⟩ ⟨l3, u3⟩ ⟨l4, u4⟩ ⟨l5, u5⟩ l6 ⟨l7, u7⟩ ⟨l8, u8⟩ ⟨l9, u9⟩ hp)
theorem nGetR : ∃ fn, Tryz.prog.funcs[cGetR.f]? = some fn ∧ fn.body.isSome = true ∧ (fn.name == "runtime.NumGoroutine") = false := ⟨_, Tryz.func9, by kernel_rfl, by kernel_rfl⟩

/-- What is left of the contract of grid.Set. -/
def SetP (x0 : Int) (x1 : Int) (x2 : Int) (x3 : Int) (x4 : Int) (x5 : Int) (x6 : X) (x7 : Int) (x8 : Int) (x9 : Int) (x10 : Int) : Prop :=
(((x6.i = 0) →
(let v2 : X := Ff 260 [(xI x0), (xI x1), (xI x2), (xI x3), (xI x4), (xI x5), (xI x7), (xI x8), (xI x9)]; (((0 ≤ v2.i) →
 False) ∧
((¬ (0 ≤ v2.i)) →
((x0 = (Ff 701 [xI x0, xI x1, xI x2, xI x3, xI x4, xI x5, x6, xI x7, xI x8, xI x9, xI x10]).i ∧ -1048575 ≤ (Ff 701 [xI x0, xI x1, xI x2, xI x3, xI x4, xI x5, x6, xI x7, xI x8, xI x9, xI x10]).i ∧ (Ff 701 [xI x0, xI x1, xI x2, xI x3, xI x4, xI x5, x6, xI x7, xI x8, xI x9, xI x10]).i ≤ 1048575) ∧ ((x1 = (Ff 702 [xI x0, xI x1, xI x2, xI x3, xI x4, xI x5, x6, xI x7, xI x8, xI x9, xI x10]).i ∧ -1048575 ≤ (Ff 702 [xI x0, xI x1, xI x2, xI x3, xI x4, xI x5, x6, xI x7, xI x8, xI x9, xI x10]).i ∧ (Ff 702 [xI x0, xI x1, xI x2, xI x3, xI x4, xI x5, x6, xI x7, xI x8, xI x9, xI x10]).i ≤ 1048575) ∧ ((x2 = (Ff 703 [xI x0, xI x1, xI x2, xI x3, xI x4, xI x5, x6, xI x7, xI x8, xI x9, xI x10]).i ∧ -1048575 ≤ (Ff 703 [xI x0, xI x1, xI x2, xI x3, xI x4, xI x5, x6, xI x7, xI x8, xI x9, xI x10]).i ∧ (Ff 703 [xI x0, xI x1, xI x2, xI x3, xI x4, xI x5, x6, xI x7, xI x8, xI x9, xI x10]).i ≤ 1048575) ∧ ((x3 = (Ff 704 [xI x0, xI x1, xI x2, xI x3, xI x4, xI x5, x6, xI x7, xI x8, xI x9, xI x10]).i ∧ -1048575 ≤ (Ff 704 [xI x0, xI x1, xI x2, xI x3, xI x4, xI x5, x6, xI x7, xI x8, xI x9, xI x10]).i ∧ (Ff 704 [xI x0, xI x1, xI x2, xI x3, xI x4, xI x5, x6, xI x7, xI x8, xI x9, xI x10]).i ≤ 1048575) ∧ ((x4 = (Ff 705 [xI x0, xI x1, xI x2, xI x3, xI x4, xI x5, x6, xI x7, xI x8, xI x9, xI x10]).i ∧ -1048575 ≤ (Ff 705 [xI x0, xI x1, xI x2, xI x3, xI x4, xI x5, x6, xI x7, xI x8, xI x9, xI x10]).i ∧ (Ff 705 [xI x0, xI x1, xI x2, xI x3, xI x4, xI x5, x6, xI x7, xI x8, xI x9, xI x10]).i ≤ 1048575) ∧ ((x5 = (Ff 706 [xI x0, xI x1, xI x2, xI x3, xI x4, xI x5, x6, xI x7, xI x8, xI x9, xI x10]).i ∧ -1048575 ≤ (Ff 706 [xI x0, xI x1, xI x2, xI x3, xI x4, xI x5, x6, xI x7, xI x8, xI x9, xI x10]).i ∧ (Ff 706 [xI x0, xI x1, xI x2, xI x3, xI x4, xI x5, x6, xI x7, xI x8, xI x9, xI x10]).i ≤ 1048575) ∧ ((Ff 707 [xI x0, xI x1, xI x2, xI x3, xI x4, xI x5, x6, xI x7, xI x8, xI x9, xI x10]).i = 0 ∧ 0 ≤ (2097152 : Int)))))))))))) ∧
(let v6 : X := Ff 260 [(xI x0), (xI x1), (xI x2), (xI x3), (xI x4), (xI x5), (xI x7), (xI x8), (xI x9)]; (((0 ≤ v6.i) →
((v6.i < x6.i) ∧
((x0 = (Ff 701 [xI x0, xI x1, xI x2, xI x3, xI x4, xI x5, x6, xI x7, xI x8, xI x9, xI x10]).i ∧ -1048575 ≤ (Ff 701 [xI x0, xI x1, xI x2, xI x3, xI x4, xI x5, x6, xI x7, xI x8, xI x9, xI x10]).i ∧ (Ff 701 [xI x0, xI x1, xI x2, xI x3, xI x4, xI x5, x6, xI x7, xI x8, xI x9, xI x10]).i ≤ 1048575) ∧ ((x1 = (Ff 702 [xI x0, xI x1, xI x2, xI x3, xI x4, xI x5, x6, xI x7, xI x8, xI x9, xI x10]).i ∧ -1048575 ≤ (Ff 702 [xI x0, xI x1, xI x2, xI x3, xI x4, xI x5, x6, xI x7, xI x8, xI x9, xI x10]).i ∧ (Ff 702 [xI x0, xI x1, xI x2, xI x3, xI x4, xI x5, x6, xI x7, xI x8, xI x9, xI x10]).i ≤ 1048575) ∧ ((x2 = (Ff 703 [xI x0, xI x1, xI x2, xI x3, xI x4, xI x5, x6, xI x7, xI x8, xI x9, xI x10]).i ∧ -1048575 ≤ (Ff 703 [xI x0, xI x1, xI x2, xI x3, xI x4, xI x5, x6, xI x7, xI x8, xI x9, xI x10]).i ∧ (Ff 703 [xI x0, xI x1, xI x2, xI x3, xI x4, xI x5, x6, xI x7, xI x8, xI x9, xI x10]).i ≤ 1048575) ∧ ((x3 = (Ff 704 [xI x0, xI x1, xI x2, xI x3, xI x4, xI x5, x6, xI x7, xI x8, xI x9, xI x10]).i ∧ -1048575 ≤ (Ff 704 [xI x0, xI x1, xI x2, xI x3, xI x4, xI x5, x6, xI x7, xI x8, xI x9, xI x10]).i ∧ (Ff 704 [xI x0, xI x1, xI x2, xI x3, xI x4, xI x5, x6, xI x7, xI x8, xI x9, xI x10]).i ≤ 1048575) ∧ ((x4 = (Ff 705 [xI x0, xI x1, xI x2, xI x3, xI x4, xI x5, x6, xI x7, xI x8, xI x9, xI x10]).i ∧ -1048575 ≤ (Ff 705 [xI x0, xI x1, xI x2, xI x3, xI x4, xI x5, x6, xI x7, xI x8, xI x9, xI x10]).i ∧ (Ff 705 [xI x0, xI x1, xI x2, xI x3, xI x4, xI x5, x6, xI x7, xI x8, xI x9, xI x10]).i ≤ 1048575) ∧ ((x5 = (Ff 706 [xI x0, xI x1, xI x2, xI x3, xI x4, xI x5, x6, xI x7, xI x8, xI x9, xI x10]).i ∧ -1048575 ≤ (Ff 706 [xI x0, xI x1, xI x2, xI x3, xI x4, xI x5, x6, xI x7, xI x8, xI x9, xI x10]).i ∧ (Ff 706 [xI x0, xI x1, xI x2, xI x3, xI x4, xI x5, x6, xI x7, xI x8, xI x9, xI x10]).i ≤ 1048575) ∧ (rowEq [.int .i64 (0) (255)] (Ff 707 [xI x0, xI x1, xI x2, xI x3, xI x4, xI x5, x6, xI x7, xI x8, xI x9, xI x10]) (rwSet x6.r v6.i 0 (xI x10)) x6.i 2097152))))))))) ∧
((¬ (0 ≤ v6.i)) →
((x0 = (Ff 701 [xI x0, xI x1, xI x2, xI x3, xI x4, xI x5, x6, xI x7, xI x8, xI x9, xI x10]).i ∧ -1048575 ≤ (Ff 701 [xI x0, xI x1, xI x2, xI x3, xI x4, xI x5, x6, xI x7, xI x8, xI x9, xI x10]).i ∧ (Ff 701 [xI x0, xI x1, xI x2, xI x3, xI x4, xI x5, x6, xI x7, xI x8, xI x9, xI x10]).i ≤ 1048575) ∧ ((x1 = (Ff 702 [xI x0, xI x1, xI x2, xI x3, xI x4, xI x5, x6, xI x7, xI x8, xI x9, xI x10]).i ∧ -1048575 ≤ (Ff 702 [xI x0, xI x1, xI x2, xI x3, xI x4, xI x5, x6, xI x7, xI x8, xI x9, xI x10]).i ∧ (Ff 702 [xI x0, xI x1, xI x2, xI x3, xI x4, xI x5, x6, xI x7, xI x8, xI x9, xI x10]).i ≤ 1048575) ∧ ((x2 = (Ff 703 [xI x0, xI x1, xI x2, xI x3, xI x4, xI x5, x6, xI x7, xI x8, xI x9, xI x10]).i ∧ -1048575 ≤ (Ff 703 [xI x0, xI x1, xI x2, xI x3, xI x4, xI x5, x6, xI x7, xI x8, xI x9, xI x10]).i ∧ (Ff 703 [xI x0, xI x1, xI x2, xI x3, xI x4, xI x5, x6, xI x7, xI x8, xI x9, xI x10]).i ≤ 1048575) ∧ ((x3 = (Ff 704 [xI x0, xI x1, xI x2, xI x3, xI x4, xI x5, x6, xI x7, xI x8, xI x9, xI x10]).i ∧ -1048575 ≤ (Ff 704 [xI x0, xI x1, xI x2, xI x3, xI x4, xI x5, x6, xI x7, xI x8, xI x9, xI x10]).i ∧ (Ff 704 [xI x0, xI x1, xI x2, xI x3, xI x4, xI x5, x6, xI x7, xI x8, xI x9, xI x10]).i ≤ 1048575) ∧ ((x4 = (Ff 705 [xI x0, xI x1, xI x2, xI x3, xI x4, xI x5, x6, xI x7, xI x8, xI x9, xI x10]).i ∧ -1048575 ≤ (Ff 705 [xI x0, xI x1, xI x2, xI x3, xI x4, xI x5, x6, xI x7, xI x8, xI x9, xI x10]).i ∧ (Ff 705 [xI x0, xI x1, xI x2, xI x3, xI x4, xI x5, x6, xI x7, xI x8, xI x9, xI x10]).i ≤ 1048575) ∧ ((x5 = (Ff 706 [xI x0, xI x1, xI x2, xI x3, xI x4, xI x5, x6, xI x7, xI x8, xI x9, xI x10]).i ∧ -1048575 ≤ (Ff 706 [xI x0, xI x1, xI x2, xI x3, xI x4, xI x5, x6, xI x7, xI x8, xI x9, xI x10]).i ∧ (Ff 706 [xI x0, xI x1, xI x2, xI x3, xI x4, xI x5, x6, xI x7, xI x8, xI x9, xI x10]).i ≤ 1048575) ∧ (rowEq [.int .i64 (0) (255)] (Ff 707 [xI x0, xI x1, xI x2, xI x3, xI x4, xI x5, x6, xI x7, xI x8, xI x9, xI x10]) x6.r x6.i 2097152)))))))))))
theorem SetL (x0 : Int) (x1 : Int) (x2 : Int) (x3 : Int) (x4 : Int) (x5 : Int) (x6 : X) (x7 : Int) (x8 : Int) (x9 : Int) (x10 : Int) : (ctrR (fun j => Ff j [xI x0, xI x1, xI x2, xI x3, xI x4, xI x5, x6, xI x7, xI x8, xI x9, xI x10]) cSet.fs cSet.res { ρ0 with x := fun j => [xI x0, xI x1, xI x2, xI x3, xI x4, xI x5, x6, xI x7, xI x8, xI x9, xI x10].getD j (xI 0) } (walkR Tryz.prog (cfG none [cIndex] [] [] sumL) Tryz.f11 400 shSet)) = SetP x0 x1 x2 x3 x4 x5 x6 x7 x8 x9 x10 := by kernel_rfl
set_option maxHeartbeats 4000000 in
theorem SetO (x0 : Int) (x1 : Int) (x2 : Int) (x3 : Int) (x4 : Int) (x5 : Int) (x6 : X) (x7 : Int) (x8 : Int) (x9 : Int) (x10 : Int) (g0 : -1048575 ≤ x0 ∧ x0 ≤ 1048575) (g1 : -1048575 ≤ x1 ∧ x1 ≤ 1048575) (g2 : -1048575 ≤ x2 ∧ x2 ≤ 1048575) (g3 : -1048575 ≤ x3 ∧ x3 ≤ 1048575) (g4 : -1048575 ≤ x4 ∧ x4 ≤ 1048575) (g5 : -1048575 ≤ x5 ∧ x5 ≤ 1048575) (g6 : 0 ≤ x6.i ∧ x6.i ≤ 2097152 ∧ RowOk [.int .i64 (0) (255)] x6.r x6.i.toNat) (g7 : -1048576 ≤ x7 ∧ x7 ≤ 1048576) (g8 : -1048576 ≤ x8 ∧ x8 ≤ 1048576) (g9 : -1048576 ≤ x9 ∧ x9 ≤ 1048576) (g10 : 0 ≤ x10 ∧ x10 ≤ 255) (gp : Px cSet.pre.get! [xI x0, xI x1, xI x2, xI x3, xI x4, xI x5, x6, xI x7, xI x8, xI x9, xI x10]) : SetP x0 x1 x2 x3 x4 x5 x6 x7 x8 x9 x10 := by
  unfold SetP
  obtain ⟨k0, k1, k2, k3, k4⟩ := (v700 g6.1).1 gp
  refine And.intro ?_ ?_
  · intro h1
    intro v2
    have e2 : v2.i = (bxI x0 x1 x2 x3 x4 x5).idx (x7, x8, x9) := rfl
    refine And.intro ?_ ?_
    · intro h4
      skip -- #0
      have h9 : v2.i < volB x0 x1 x2 x3 x4 x5 := (idx_ok (b := bxI x0 x1 x2 x3 x4 x5) (p := (x7, x8, x9)) (idx_has.1 h4)).2
      omega
    intro h5
    skip -- #1
    refine ⟨⟨rfl, g0⟩, ⟨rfl, g1⟩, ⟨rfl, g2⟩, ⟨rfl, g3⟩, ⟨rfl, g4⟩, ⟨rfl, g5⟩, ?_, by decide⟩
    show ((setL (bxI x0 x1 x2 x3 x4 x5) (lstX deI x6) (x7, x8, x9) x10).length : Int) = 0
    unfold setL
    rw [if_neg (show ¬ 0 ≤ (bxI x0 x1 x2 x3 x4 x5).idx (x7, x8, x9) from h5), lstX_len]
    omega
  intro v6
  have e6 : v6.i = (bxI x0 x1 x2 x3 x4 x5).idx (x7, x8, x9) := rfl
  refine And.intro ?_ ?_
  · intro h8
    refine andI ?_ fun o9 => ?_
    · skip -- #2
      have h9 : v6.i < volB x0 x1 x2 x3 x4 x5 := (idx_ok (b := bxI x0 x1 x2 x3 x4 x5) (p := (x7, x8, x9)) (idx_has.1 h8)).2
      omega
    skip -- #3
    refine ⟨⟨rfl, g0⟩, ⟨rfl, g1⟩, ⟨rfl, g2⟩, ⟨rfl, g3⟩, ⟨rfl, g4⟩, ⟨rfl, g5⟩, rowEq_of eqEl_int g6.1 g6.2.1 ?_⟩
    rw [deI_set h8]
    exact (if_pos h8).symm
  intro h10
  skip -- #4
  refine ⟨⟨rfl, g0⟩, ⟨rfl, g1⟩, ⟨rfl, g2⟩, ⟨rfl, g3⟩, ⟨rfl, g4⟩, ⟨rfl, g5⟩, rowEq_of eqEl_int g6.1 g6.2.1 ?_⟩
  exact (if_neg h10).symm
theorem kSet : RCtrOk Tryz.prog ρ0 cSet := by
  refine rctr_ofN (cf := cfG none [cIndex] [] [] sumL) (cfG_ok (keep0.cons kIndex nIndex) keepR0 noF) Tryz.func11 rfl 400 rfl (sh := shSet) (by kernel_rfl) val_rsh fun ds hr hp => ?_
  have hr := rshX_flat hr
  match ds, hr, hp with
  | [d0, d1, d2, d3, d4, d5, d6, d7, d8, d9, d10], hr, hp =>
    obtain ⟨⟨e0, l0, u0⟩, ⟨e1, l1, u1⟩, ⟨e2, l2, u2⟩, ⟨e3, l3, u3⟩, ⟨e4, l4, u4⟩, ⟨e5, l5, u5⟩, l6, ⟨e7, l7, u7⟩, ⟨e8, l8, u8⟩, ⟨e9, l9, u9⟩, ⟨e10, l10, u10⟩, _⟩ := hr
    generalize d0.i = x0 at *
    generalize d1.i = x1 at *
    generalize d2.i = x2 at *
    generalize d3.i = x3 at *
    generalize d4.i = x4 at *
    generalize d5.i = x5 at *
    generalize d6 = x6 at *
    generalize d7.i = x7 at *
    generalize d8.i = x8 at *
    generalize d9.i = x9 at *
    generalize d10.i = x10 at *
    subst e0 e1 e2 e3 e4 e5 e7 e8 e9 e10
    exact Eq.mpr (SetL x0 x1 x2 x3 x4 x5 x6 x7 x8 x9 x10) (SetO x0 x1 x2 x3 x4 x5 x6 x7 x8 x9 x10 ⟨l0, u0⟩ ⟨l1, u1⟩ ⟨l2, u2⟩ ⟨l3, u3⟩ ⟨l4, u4⟩ ⟨l5, u5⟩ l6 ⟨l7, u7⟩ ⟨l8, u8⟩ ⟨l9, u9⟩ ⟨l10, u10⟩ hp)
theorem nSet : ∃ fn, Tryz.prog.funcs[cSet.f]? = some fn ∧ fn.body.isSome = true ∧ (fn.name == "runtime.NumGoroutine") = false := ⟨_, Tryz.func11, by kernel_rfl, by kernel_rfl⟩

/-- What is left of the contract of grid.Valid. -/
def ValidP (x0 : Int) (x1 : Int) (x2 : Int) (x3 : Int) (x4 : Int) (x5 : Int) (x6 : X) : Prop :=
((((¬ ((¬ ((x0 < (-1048575)) ∨ (1048575 < x0))) ∧ ((¬ ((x1 < (-1048575)) ∨ (1048575 < x1))) ∧ ((¬ ((x2 < (-1048575)) ∨ (1048575 < x2))) ∧ ((¬ ((x3 < (-1048575)) ∨ (1048575 < x3))) ∧ ((¬ ((x4 < (-1048575)) ∨ (1048575 < x4))) ∧ (¬ ((x5 < (-1048575)) ∨ (1048575 < x5))))))))) ∨ ((¬ ((((((x0 ≤ x0) ∧ (x0 < x3)) ∧ (x1 ≤ x1)) ∧ (x1 < x4)) ∧ (x2 ≤ x2)) ∧ (x2 < x5))) ∧ (¬ ((x0 = 0) ∧ ((x1 = 0) ∧ ((x2 = 0) ∧ ((x3 = 0) ∧ ((x4 = 0) ∧ (x5 = 0))))))))) →
((false = true) ↔ (Ff 700 [xI x0, xI x1, xI x2, xI x3, xI x4, xI x5, x6]).b = true)) ∧
((¬ ((¬ ((¬ ((x0 < (-1048575)) ∨ (1048575 < x0))) ∧ ((¬ ((x1 < (-1048575)) ∨ (1048575 < x1))) ∧ ((¬ ((x2 < (-1048575)) ∨ (1048575 < x2))) ∧ ((¬ ((x3 < (-1048575)) ∨ (1048575 < x3))) ∧ ((¬ ((x4 < (-1048575)) ∨ (1048575 < x4))) ∧ (¬ ((x5 < (-1048575)) ∨ (1048575 < x5))))))))) ∨ ((¬ ((((((x0 ≤ x0) ∧ (x0 < x3)) ∧ (x1 ≤ x1)) ∧ (x1 < x4)) ∧ (x2 ≤ x2)) ∧ (x2 < x5))) ∧ (¬ ((x0 = 0) ∧ ((x1 = 0) ∧ ((x2 = 0) ∧ ((x3 = 0) ∧ ((x4 = 0) ∧ (x5 = 0)))))))))) →
(let v3 : X := Ff 210 [(xI x0), (xI x1), (xI x2), (xI x3), (xI x4), (xI x5)]; ((((v3.i ≤ 2097152) ∧ (v3.i = x6.i)) →
(Px 720 [(xI x0), (xI x1), (xI x2), (xI x3), (xI x4), (xI x5), x6, (xI 0)] ∧
(∀ x20 : X, (((0 ≤ x20.i) ∧ (x20.i ≤ 2097152)) →
(Px 720 [(xI x0), (xI x1), (xI x2), (xI x3), (xI x4), (xI x5), x6, x20] →
(((x20.i < x6.i) →
((x20.i < x6.i) ∧
(((¬ ((0 ≤ (x6.r x20.i 0).i) ∧ ((x6.r x20.i 0).i < 256))) →
((false = true) ↔ (Ff 700 [xI x0, xI x1, xI x2, xI x3, xI x4, xI x5, x6]).b = true)) ∧
(((0 ≤ (x6.r x20.i 0).i) ∧ ((x6.r x20.i 0).i < 256)) →
(((x20.i + 1) ≤ 2097152) ∧
(Px 720 [(xI x0), (xI x1), (xI x2), (xI x3), (xI x4), (xI x5), x6, (xI (x20.i + 1))] ∧
(((Ff 750 [(xI x0), (xI x1), (xI x2), (xI x3), (xI x4), (xI x5), x6, (xI (x20.i + 1))]).i < (Ff 750 [(xI x0), (xI x1), (xI x2), (xI x3), (xI x4), (xI x5), x6, x20]).i) ∧
(0 < (Ff 750 [(xI x0), (xI x1), (xI x2), (xI x3), (xI x4), (xI x5), x6, x20]).i)))))))) ∧
((¬ (x20.i < x6.i)) →
((true = true) ↔ (Ff 700 [xI x0, xI x1, xI x2, xI x3, xI x4, xI x5, x6]).b = true)))))))) ∧
((¬ ((v3.i ≤ 2097152) ∧ (v3.i = x6.i))) →
((false = true) ↔ (Ff 700 [xI x0, xI x1, xI x2, xI x3, xI x4, xI x5, x6]).b = true))))))
theorem ValidL (x0 : Int) (x1 : Int) (x2 : Int) (x3 : Int) (x4 : Int) (x5 : Int) (x6 : X) : (ctrR (fun j => Ff j [xI x0, xI x1, xI x2, xI x3, xI x4, xI x5, x6]) cValid.fs cValid.res { ρ0 with x := fun j => [xI x0, xI x1, xI x2, xI x3, xI x4, xI x5, x6].getD j (xI 0) } (walkR Tryz.prog (cfG none [cVol, cEmpty] [] lpValid sumL) Tryz.f36 400 cValid.args)) = ValidP x0 x1 x2 x3 x4 x5 x6 := by kernel_rfl
set_option maxHeartbeats 4000000 in
theorem ValidO (x0 : Int) (x1 : Int) (x2 : Int) (x3 : Int) (x4 : Int) (x5 : Int) (x6 : X) (g0 : -9223372036854775808 ≤ x0 ∧ x0 ≤ 9223372036854775807) (g1 : -9223372036854775808 ≤ x1 ∧ x1 ≤ 9223372036854775807) (g2 : -9223372036854775808 ≤ x2 ∧ x2 ≤ 9223372036854775807) (g3 : -9223372036854775808 ≤ x3 ∧ x3 ≤ 9223372036854775807) (g4 : -9223372036854775808 ≤ x4 ∧ x4 ≤ 9223372036854775807) (g5 : -9223372036854775808 ≤ x5 ∧ x5 ≤ 9223372036854775807) (g6 : 0 ≤ x6.i ∧ x6.i ≤ 9223372036854775807 ∧ RowOk [.int .i64 (-9223372036854775808) (9223372036854775807)] x6.r x6.i.toNat) : ValidP x0 x1 x2 x3 x4 x5 x6 := by
  unfold ValidP
  have v7 := v700 (a := x0) (b := x1) (c := x2) (d := x3) (e := x4) (f := x5) (l := x6) g6.1
  refine And.intro ?_ ?_
  · intro h1
    skip -- #0
    refine iff_of_false Bool.false_ne_true fun hv => ?_
    obtain ⟨k1, k2, _⟩ := v7.1 hv
    have hn : ¬ (x0 < x3 ∧ x1 < x4 ∧ x2 < x5) → volB x0 x1 x2 x3 x4 x5 = 0 := fun h => if_neg h
    by_cases hc : x0 < x3 ∧ x1 < x4 ∧ x2 < x5
    · omega
    · have := hn hc
      omega
  intro h2
  intro v3
  have e3 : v3.i = volB x0 x1 x2 x3 x4 x5 := rfl
  refine And.intro ?_ ?_
  · intro h5
    refine andI ?_ fun o6 => ?_
    · exact ⟨Int.le_refl _, g6.1, rfl⟩ -- #1
    intro x20
    intro h7
    intro p8
    refine And.intro ?_ ?_
    · intro h10
      refine andI ?_ fun o11 => ?_
      · omega -- #2
      refine And.intro ?_ ?_
      · intro h13
        skip -- #3
        refine iff_of_false Bool.false_ne_true fun hv => h13 ?_
        exact matB_iff.1 (lxI_allA h7.1 (by omega) (v7.1 hv).2.2.2.2)
      intro h14
      refine andI ?_ fun o15 => ?_
      · omega -- #4
      refine andI ?_ fun o16 => ?_
      · exact ⟨Int.le_trans h7.1 (Int.le_of_lt (Int.lt_succ _)), show x20.i + 1 ≤ x6.i by omega, lxI_allS h7.1 (by omega) p8.2.2 (matB_iff.2 h14)⟩ -- #5
      refine andI ?_ fun o17 => ?_
      · skip -- #6
        show x6.i + 1 - (x20.i + 1) < x6.i + 1 - x20.i
        omega
      skip -- #7
      show 0 < x6.i + 1 - x20.i
      omega
    intro h18
    skip -- #8
    have hp : x0 < x3 ∧ x1 < x4 ∧ x2 < x5 → 0 < volB x0 x1 x2 x3 x4 x5 := fun h => vol_pos h
    refine iff_of_true rfl (v7.2 ⟨by omega, ?_, by omega, by omega, ?_⟩)
    · by_cases hc : x0 < x3 ∧ x1 < x4 ∧ x2 < x5
      · have := hp hc
        omega
      · omega
    · have := p8.2.2
      rwa [lx_all (by omega)] at this
  intro h19
  skip -- #9
  refine iff_of_false Bool.false_ne_true fun hv => ?_
  obtain ⟨_, _, k2, k3, _⟩ := v7.1 hv
  omega
theorem kValid : RCtrOk Tryz.prog ρ0 cValid := by
  refine rctr_of (cf := cfG none [cVol, cEmpty] [] lpValid sumL) (cfG_ok ((keep0.cons kEmpty nEmpty).cons kVol nVol) keepR0 noF) Tryz.func36 rfl 400 rfl fun ds hr => ?_
  have hr := rshX_flat hr
  match ds, hr with
  | [d0, d1, d2, d3, d4, d5, d6], hr =>
    obtain ⟨⟨e0, l0, u0⟩, ⟨e1, l1, u1⟩, ⟨e2, l2, u2⟩, ⟨e3, l3, u3⟩, ⟨e4, l4, u4⟩, ⟨e5, l5, u5⟩, l6, _⟩ := hr
    generalize d0.i = x0 at *
    generalize d1.i = x1 at *
    generalize d2.i = x2 at *
    generalize d3.i = x3 at *
    generalize d4.i = x4 at *
    generalize d5.i = x5 at *
    generalize d6 = x6 at *
    subst e0 e1 e2 e3 e4 e5
    exact Eq.mpr (ValidL x0 x1 x2 x3 x4 x5 x6) (ValidO x0 x1 x2 x3 x4 x5 x6 ⟨l0, u0⟩ ⟨l1, u1⟩ ⟨l2, u2⟩ ⟨l3, u3⟩ ⟨l4, u4⟩ ⟨l5, u5⟩ l6)
theorem nValid : ∃ fn, Tryz.prog.funcs[cValid.f]? = some fn ∧ fn.body.isSome = true ∧ (fn.name == "runtime.NumGoroutine") = false := ⟨_, Tryz.func36, by kernel_rfl, by kernel_rfl⟩

/-- What is left of the contract of grid.New. -/
def NewP (x0 : Int) (x1 : Int) (x2 : Int) (x3 : Int) (x4 : Int) (x5 : Int) (x6 : Int) : Prop :=
((((¬ ((¬ ((x0 < (-1048575)) ∨ (1048575 < x0))) ∧ ((¬ ((x1 < (-1048575)) ∨ (1048575 < x1))) ∧ ((¬ ((x2 < (-1048575)) ∨ (1048575 < x2))) ∧ ((¬ ((x3 < (-1048575)) ∨ (1048575 < x3))) ∧ ((¬ ((x4 < (-1048575)) ∨ (1048575 < x4))) ∧ (¬ ((x5 < (-1048575)) ∨ (1048575 < x5))))))))) ∨ (¬ ((0 ≤ x6) ∧ (x6 < 256)))) →
(((0 = (Ff 900 [xI x0, xI x1, xI x2, xI x3, xI x4, xI x5, xI x6]).i ∧ -1048575 ≤ (Ff 900 [xI x0, xI x1, xI x2, xI x3, xI x4, xI x5, xI x6]).i ∧ (Ff 900 [xI x0, xI x1, xI x2, xI x3, xI x4, xI x5, xI x6]).i ≤ 1048575) ∧ ((0 = (Ff 901 [xI x0, xI x1, xI x2, xI x3, xI x4, xI x5, xI x6]).i ∧ -1048575 ≤ (Ff 901 [xI x0, xI x1, xI x2, xI x3, xI x4, xI x5, xI x6]).i ∧ (Ff 901 [xI x0, xI x1, xI x2, xI x3, xI x4, xI x5, xI x6]).i ≤ 1048575) ∧ ((0 = (Ff 902 [xI x0, xI x1, xI x2, xI x3, xI x4, xI x5, xI x6]).i ∧ -1048575 ≤ (Ff 902 [xI x0, xI x1, xI x2, xI x3, xI x4, xI x5, xI x6]).i ∧ (Ff 902 [xI x0, xI x1, xI x2, xI x3, xI x4, xI x5, xI x6]).i ≤ 1048575) ∧ ((0 = (Ff 903 [xI x0, xI x1, xI x2, xI x3, xI x4, xI x5, xI x6]).i ∧ -1048575 ≤ (Ff 903 [xI x0, xI x1, xI x2, xI x3, xI x4, xI x5, xI x6]).i ∧ (Ff 903 [xI x0, xI x1, xI x2, xI x3, xI x4, xI x5, xI x6]).i ≤ 1048575) ∧ ((0 = (Ff 904 [xI x0, xI x1, xI x2, xI x3, xI x4, xI x5, xI x6]).i ∧ -1048575 ≤ (Ff 904 [xI x0, xI x1, xI x2, xI x3, xI x4, xI x5, xI x6]).i ∧ (Ff 904 [xI x0, xI x1, xI x2, xI x3, xI x4, xI x5, xI x6]).i ≤ 1048575) ∧ ((0 = (Ff 905 [xI x0, xI x1, xI x2, xI x3, xI x4, xI x5, xI x6]).i ∧ -1048575 ≤ (Ff 905 [xI x0, xI x1, xI x2, xI x3, xI x4, xI x5, xI x6]).i ∧ (Ff 905 [xI x0, xI x1, xI x2, xI x3, xI x4, xI x5, xI x6]).i ≤ 1048575) ∧ ((Ff 906 [xI x0, xI x1, xI x2, xI x3, xI x4, xI x5, xI x6]).i = 0 ∧ 0 ≤ (1000000000 : Int)))))))) ∧ ((1 = (Ff 907 [xI x0, xI x1, xI x2, xI x3, xI x4, xI x5, xI x6]).i ∧ 0 ≤ (Ff 907 [xI x0, xI x1, xI x2, xI x3, xI x4, xI x5, xI x6]).i ∧ (Ff 907 [xI x0, xI x1, xI x2, xI x3, xI x4, xI x5, xI x6]).i ≤ 2) ∧ True))) ∧
((¬ ((¬ ((¬ ((x0 < (-1048575)) ∨ (1048575 < x0))) ∧ ((¬ ((x1 < (-1048575)) ∨ (1048575 < x1))) ∧ ((¬ ((x2 < (-1048575)) ∨ (1048575 < x2))) ∧ ((¬ ((x3 < (-1048575)) ∨ (1048575 < x3))) ∧ ((¬ ((x4 < (-1048575)) ∨ (1048575 < x4))) ∧ (¬ ((x5 < (-1048575)) ∨ (1048575 < x5))))))))) ∨ (¬ ((0 ≤ x6) ∧ (x6 < 256))))) →
(let v3 : X := Ff 210 [(xI x0), (xI x1), (xI x2), (xI x3), (xI x4), (xI x5)]; (((2097152 < v3.i) →
(((0 = (Ff 900 [xI x0, xI x1, xI x2, xI x3, xI x4, xI x5, xI x6]).i ∧ -1048575 ≤ (Ff 900 [xI x0, xI x1, xI x2, xI x3, xI x4, xI x5, xI x6]).i ∧ (Ff 900 [xI x0, xI x1, xI x2, xI x3, xI x4, xI x5, xI x6]).i ≤ 1048575) ∧ ((0 = (Ff 901 [xI x0, xI x1, xI x2, xI x3, xI x4, xI x5, xI x6]).i ∧ -1048575 ≤ (Ff 901 [xI x0, xI x1, xI x2, xI x3, xI x4, xI x5, xI x6]).i ∧ (Ff 901 [xI x0, xI x1, xI x2, xI x3, xI x4, xI x5, xI x6]).i ≤ 1048575) ∧ ((0 = (Ff 902 [xI x0, xI x1, xI x2, xI x3, xI x4, xI x5, xI x6]).i ∧ -1048575 ≤ (Ff 902 [xI x0, xI x1, xI x2, xI x3, xI x4, xI x5, xI x6]).i ∧ (Ff 902 [xI x0, xI x1, xI x2, xI x3, xI x4, xI x5, xI x6]).i ≤ 1048575) ∧ ((0 = (Ff 903 [xI x0, xI x1, xI x2, xI x3, xI x4, xI x5, xI x6]).i ∧ -1048575 ≤ (Ff 903 [xI x0, xI x1, xI x2, xI x3, xI x4, xI x5, xI x6]).i ∧ (Ff 903 [xI x0, xI x1, xI x2, xI x3, xI x4, xI x5, xI x6]).i ≤ 1048575) ∧ ((0 = (Ff 904 [xI x0, xI x1, xI x2, xI x3, xI x4, xI x5, xI x6]).i ∧ -1048575 ≤ (Ff 904 [xI x0, xI x1, xI x2, xI x3, xI x4, xI x5, xI x6]).i ∧ (Ff 904 [xI x0, xI x1, xI x2, xI x3, xI x4, xI x5, xI x6]).i ≤ 1048575) ∧ ((0 = (Ff 905 [xI x0, xI x1, xI x2, xI x3, xI x4, xI x5, xI x6]).i ∧ -1048575 ≤ (Ff 905 [xI x0, xI x1, xI x2, xI x3, xI x4, xI x5, xI x6]).i ∧ (Ff 905 [xI x0, xI x1, xI x2, xI x3, xI x4, xI x5, xI x6]).i ≤ 1048575) ∧ ((Ff 906 [xI x0, xI x1, xI x2, xI x3, xI x4, xI x5, xI x6]).i = 0 ∧ 0 ≤ (1000000000 : Int)))))))) ∧ ((2 = (Ff 907 [xI x0, xI x1, xI x2, xI x3, xI x4, xI x5, xI x6]).i ∧ 0 ≤ (Ff 907 [xI x0, xI x1, xI x2, xI x3, xI x4, xI x5, xI x6]).i ∧ (Ff 907 [xI x0, xI x1, xI x2, xI x3, xI x4, xI x5, xI x6]).i ≤ 2) ∧ True))) ∧
((¬ (2097152 < v3.i)) →
(let v7 : X := Ff 200 [(xI x0), (xI x1), (xI x2), (xI x3), (xI x4), (xI x5)]; (((v7.b = true) →
(((0 = (Ff 900 [xI x0, xI x1, xI x2, xI x3, xI x4, xI x5, xI x6]).i ∧ -1048575 ≤ (Ff 900 [xI x0, xI x1, xI x2, xI x3, xI x4, xI x5, xI x6]).i ∧ (Ff 900 [xI x0, xI x1, xI x2, xI x3, xI x4, xI x5, xI x6]).i ≤ 1048575) ∧ ((0 = (Ff 901 [xI x0, xI x1, xI x2, xI x3, xI x4, xI x5, xI x6]).i ∧ -1048575 ≤ (Ff 901 [xI x0, xI x1, xI x2, xI x3, xI x4, xI x5, xI x6]).i ∧ (Ff 901 [xI x0, xI x1, xI x2, xI x3, xI x4, xI x5, xI x6]).i ≤ 1048575) ∧ ((0 = (Ff 902 [xI x0, xI x1, xI x2, xI x3, xI x4, xI x5, xI x6]).i ∧ -1048575 ≤ (Ff 902 [xI x0, xI x1, xI x2, xI x3, xI x4, xI x5, xI x6]).i ∧ (Ff 902 [xI x0, xI x1, xI x2, xI x3, xI x4, xI x5, xI x6]).i ≤ 1048575) ∧ ((0 = (Ff 903 [xI x0, xI x1, xI x2, xI x3, xI x4, xI x5, xI x6]).i ∧ -1048575 ≤ (Ff 903 [xI x0, xI x1, xI x2, xI x3, xI x4, xI x5, xI x6]).i ∧ (Ff 903 [xI x0, xI x1, xI x2, xI x3, xI x4, xI x5, xI x6]).i ≤ 1048575) ∧ ((0 = (Ff 904 [xI x0, xI x1, xI x2, xI x3, xI x4, xI x5, xI x6]).i ∧ -1048575 ≤ (Ff 904 [xI x0, xI x1, xI x2, xI x3, xI x4, xI x5, xI x6]).i ∧ (Ff 904 [xI x0, xI x1, xI x2, xI x3, xI x4, xI x5, xI x6]).i ≤ 1048575) ∧ ((0 = (Ff 905 [xI x0, xI x1, xI x2, xI x3, xI x4, xI x5, xI x6]).i ∧ -1048575 ≤ (Ff 905 [xI x0, xI x1, xI x2, xI x3, xI x4, xI x5, xI x6]).i ∧ (Ff 905 [xI x0, xI x1, xI x2, xI x3, xI x4, xI x5, xI x6]).i ≤ 1048575) ∧ ((Ff 906 [xI x0, xI x1, xI x2, xI x3, xI x4, xI x5, xI x6]).i = 0 ∧ 0 ≤ (1000000000 : Int)))))))) ∧ ((0 = (Ff 907 [xI x0, xI x1, xI x2, xI x3, xI x4, xI x5, xI x6]).i ∧ 0 ≤ (Ff 907 [xI x0, xI x1, xI x2, xI x3, xI x4, xI x5, xI x6]).i ∧ (Ff 907 [xI x0, xI x1, xI x2, xI x3, xI x4, xI x5, xI x6]).i ≤ 2) ∧ True))) ∧
((¬ (v7.b = true)) →
(((0 < ((((IntKind.wrap Go.IntKind.u64 ((bits Go.BinOp.and Go.IntKind.u64 1 4294967295) * (bits Go.BinOp.and Go.IntKind.u64 v3.i 4294967295))) / 4294967296) / 4294967296) + ((IntKind.wrap Go.IntKind.u64 ((bits Go.BinOp.and Go.IntKind.u64 ((IntKind.wrap Go.IntKind.u64 ((bits Go.BinOp.and Go.IntKind.u64 1 4294967295) * (bits Go.BinOp.and Go.IntKind.u64 v3.i 4294967295))) / 4294967296) 4294967295) + (IntKind.wrap Go.IntKind.u64 ((bits Go.BinOp.and Go.IntKind.u64 1 4294967295) * (v3.i / 4294967296))))) / 4294967296))) →
 False) ∧
((¬ (0 < ((((IntKind.wrap Go.IntKind.u64 ((bits Go.BinOp.and Go.IntKind.u64 1 4294967295) * (bits Go.BinOp.and Go.IntKind.u64 v3.i 4294967295))) / 4294967296) / 4294967296) + ((IntKind.wrap Go.IntKind.u64 ((bits Go.BinOp.and Go.IntKind.u64 ((IntKind.wrap Go.IntKind.u64 ((bits Go.BinOp.and Go.IntKind.u64 1 4294967295) * (bits Go.BinOp.and Go.IntKind.u64 v3.i 4294967295))) / 4294967296) 4294967295) + (IntKind.wrap Go.IntKind.u64 ((bits Go.BinOp.and Go.IntKind.u64 1 4294967295) * (v3.i / 4294967296))))) / 4294967296)))) →
((v3.i ≤ 1000000000) ∧
((1 ≤ (min v3.i 1)) ∧
(Px 971 [(xI x0), (xI x1), (xI x2), (xI x3), (xI x4), (xI x5), (xI x6), (xI (min v3.i 1)), (mkX (rwCpy (rwRep [(xI 0)]) 0 (min v3.i 1) (rwTab 1 [(xI x6)]) 0) v3.i)] ∧
(∀ x20 : X, (∀ x21 : X, (((1 ≤ x20.i) ∧ (x20.i ≤ 2097152)) →
((0 ≤ x21.i ∧ x21.i ≤ 1000000000 ∧ RowOk [.int .i64 (-9223372036854775808) (9223372036854775807)] x21.r (x21.i).toNat) →
(Px 971 [(xI x0), (xI x1), (xI x2), (xI x3), (xI x4), (xI x5), (xI x6), x20, x21] →
(((x20.i < x21.i) →
((x20.i ≤ x21.i) ∧
((x20.i ≤ x21.i) ∧
(((x20.i + (min (x21.i - x20.i) x20.i)) ≤ 2097152) ∧
(Px 971 [(xI x0), (xI x1), (xI x2), (xI x3), (xI x4), (xI x5), (xI x6), (xI (x20.i + (min (x21.i - x20.i) x20.i))), (mkX (rwCpy x21.r x20.i (min (x21.i - x20.i) x20.i) (rwSh x21.r 0) 0) x21.i)] ∧
(((Ff 971 [(xI x0), (xI x1), (xI x2), (xI x3), (xI x4), (xI x5), (xI x6), (xI (x20.i + (min (x21.i - x20.i) x20.i))), (mkX (rwCpy x21.r x20.i (min (x21.i - x20.i) x20.i) (rwSh x21.r 0) 0) x21.i)]).i < (Ff 971 [(xI x0), (xI x1), (xI x2), (xI x3), (xI x4), (xI x5), (xI x6), x20, x21]).i) ∧
(0 < (Ff 971 [(xI x0), (xI x1), (xI x2), (xI x3), (xI x4), (xI x5), (xI x6), x20, x21]).i))))))) ∧
((¬ (x20.i < x21.i)) →
(((x0 = (Ff 900 [xI x0, xI x1, xI x2, xI x3, xI x4, xI x5, xI x6]).i ∧ -1048575 ≤ (Ff 900 [xI x0, xI x1, xI x2, xI x3, xI x4, xI x5, xI x6]).i ∧ (Ff 900 [xI x0, xI x1, xI x2, xI x3, xI x4, xI x5, xI x6]).i ≤ 1048575) ∧ ((x1 = (Ff 901 [xI x0, xI x1, xI x2, xI x3, xI x4, xI x5, xI x6]).i ∧ -1048575 ≤ (Ff 901 [xI x0, xI x1, xI x2, xI x3, xI x4, xI x5, xI x6]).i ∧ (Ff 901 [xI x0, xI x1, xI x2, xI x3, xI x4, xI x5, xI x6]).i ≤ 1048575) ∧ ((x2 = (Ff 902 [xI x0, xI x1, xI x2, xI x3, xI x4, xI x5, xI x6]).i ∧ -1048575 ≤ (Ff 902 [xI x0, xI x1, xI x2, xI x3, xI x4, xI x5, xI x6]).i ∧ (Ff 902 [xI x0, xI x1, xI x2, xI x3, xI x4, xI x5, xI x6]).i ≤ 1048575) ∧ ((x3 = (Ff 903 [xI x0, xI x1, xI x2, xI x3, xI x4, xI x5, xI x6]).i ∧ -1048575 ≤ (Ff 903 [xI x0, xI x1, xI x2, xI x3, xI x4, xI x5, xI x6]).i ∧ (Ff 903 [xI x0, xI x1, xI x2, xI x3, xI x4, xI x5, xI x6]).i ≤ 1048575) ∧ ((x4 = (Ff 904 [xI x0, xI x1, xI x2, xI x3, xI x4, xI x5, xI x6]).i ∧ -1048575 ≤ (Ff 904 [xI x0, xI x1, xI x2, xI x3, xI x4, xI x5, xI x6]).i ∧ (Ff 904 [xI x0, xI x1, xI x2, xI x3, xI x4, xI x5, xI x6]).i ≤ 1048575) ∧ ((x5 = (Ff 905 [xI x0, xI x1, xI x2, xI x3, xI x4, xI x5, xI x6]).i ∧ -1048575 ≤ (Ff 905 [xI x0, xI x1, xI x2, xI x3, xI x4, xI x5, xI x6]).i ∧ (Ff 905 [xI x0, xI x1, xI x2, xI x3, xI x4, xI x5, xI x6]).i ≤ 1048575) ∧ (rowEq [.int .i64 (-9223372036854775808) (9223372036854775807)] (Ff 906 [xI x0, xI x1, xI x2, xI x3, xI x4, xI x5, xI x6]) x21.r x21.i 1000000000))))))) ∧ ((0 = (Ff 907 [xI x0, xI x1, xI x2, xI x3, xI x4, xI x5, xI x6]).i ∧ 0 ≤ (Ff 907 [xI x0, xI x1, xI x2, xI x3, xI x4, xI x5, xI x6]).i ∧ (Ff 907 [xI x0, xI x1, xI x2, xI x3, xI x4, xI x5, xI x6]).i ≤ 2) ∧ True))))))))))))))))))))))
theorem NewL (x0 : Int) (x1 : Int) (x2 : Int) (x3 : Int) (x4 : Int) (x5 : Int) (x6 : Int) : (ctrR (fun j => Ff j [xI x0, xI x1, xI x2, xI x3, xI x4, xI x5, xI x6]) cNew.fs cNew.res { ρ0 with x := fun j => [xI x0, xI x1, xI x2, xI x3, xI x4, xI x5, xI x6].getD j (xI 0) } (walkR Tryz.prog (cfG none [cVol, cEmpty] [] lpNew sumC) Tryz.f30 400 cNew.args)) = NewP x0 x1 x2 x3 x4 x5 x6 := by kernel_rfl
set_option maxHeartbeats 4000000 in
theorem NewO (x0 : Int) (x1 : Int) (x2 : Int) (x3 : Int) (x4 : Int) (x5 : Int) (x6 : Int) (g0 : -9223372036854775808 ≤ x0 ∧ x0 ≤ 9223372036854775807) (g1 : -9223372036854775808 ≤ x1 ∧ x1 ≤ 9223372036854775807) (g2 : -9223372036854775808 ≤ x2 ∧ x2 ≤ 9223372036854775807) (g3 : -9223372036854775808 ≤ x3 ∧ x3 ≤ 9223372036854775807) (g4 : -9223372036854775808 ≤ x4 ∧ x4 ≤ 9223372036854775807) (g5 : -9223372036854775808 ≤ x5 ∧ x5 ≤ 9223372036854775807) (g6 : -9223372036854775808 ≤ x6 ∧ x6 ≤ 9223372036854775807) : NewP x0 x1 x2 x3 x4 x5 x6 := by
  unfold NewP
  refine And.intro ?_ ?_
  · intro h1
    skip -- #0
    refine new_no (k := 1) (new_e1 fun h => ?_) (by omega) (by omega)
    have h8 := in20_iff.1 h.1
    have h9 : 0 ≤ x6 ∧ x6 < 256 := matB_iff.1 h.2
    omega
  intro h2
  have hr : (bxI x0 x1 x2 x3 x4 x5).in20 = true ∧ matB x6 = true := ⟨in20_iff.2 (by omega), matB_iff.2 (by omega)⟩
  intro v3
  have e3 : v3.i = (bxI x0 x1 x2 x3 x4 x5).vol := rfl
  refine And.intro ?_ ?_
  · intro h5
    exact new_no (new_e2 hr h5) (by omega) (by omega) -- #1
  intro h6
  have hE : newE (bxI x0 x1 x2 x3 x4 x5) x6 = 0 := new_e0 hr h6
  intro v7
  refine And.intro ?_ ?_
  · intro h9
    skip -- #2
    have hz : (bxI x0 x1 x2 x3 x4 x5).vol = 0 := if_neg (by have : decide (neB x0 x1 x2 x3 x4 x5) = false := by rw [← Bool.not_eq_true']; exact h9
                                                            exact of_decide_eq_false this)
    exact new_no hE (.inr hz) (by omega)
  intro h10
  have hne : neB x0 x1 x2 x3 x4 x5 := by
    have h : ¬ (!decide (neB x0 x1 x2 x3 x4 x5)) = true := h10
    rw [Bool.not_eq_true, Bool.not_eq_false'] at h
    exact of_decide_eq_true h
  have hv : 0 < v3.i := vol_pos hne
  refine And.intro ?_ ?_
  · intro h12
    skip -- #3
    rw [high0 (by omega) (by omega)] at h12
    omega
  intro h13
  refine andI ?_ fun o14 => ?_
  · omega -- #4
  refine andI ?_ fun o15 => ?_
  · omega -- #5
  refine andI ?_ fun o16 => ?_
  · skip -- #6
    refine ⟨show 0 ≤ min v3.i 1 by omega, rfl, show min v3.i 1 ≤ v3.i by omega, fun i hi => ?_⟩
    have hi : (i : Int) < min v3.i 1 := hi
    have e : i = 0 := by omega
    subst e
    show (if (0 : Int) ≤ 0 ∧ (0 : Int) < 0 + min v3.i 1 then rwTab 1 [xI x6] (0 - 0 + 0) 0 else _).i = x6
    rw [if_pos ⟨Int.le_refl _, by omega⟩]
    rfl
  intro x20
  intro x21
  intro h17
  intro r18
  intro p19
  obtain ⟨q0, q1, q2, q3⟩ := p19
  have q1 : x21.i = v3.i := q1
  refine And.intro ?_ ?_
  · intro h21
    refine andI ?_ fun o22 => ?_
    · omega -- #7
    refine andI ?_ fun o23 => ?_
    · omega -- #8
    refine andI ?_ fun o24 => ?_
    · omega -- #9
    refine andI ?_ fun o25 => ?_
    · skip -- #10
      refine ⟨show 0 ≤ x20.i + min (x21.i - x20.i) x20.i by omega, q1, show x20.i + min (x21.i - x20.i) x20.i ≤ x21.i by omega, fun i hi => ?_⟩
      have hi : (i : Int) < x20.i + min (x21.i - x20.i) x20.i := hi
      show (if x20.i ≤ (i : Int) ∧ (i : Int) < x20.i + min (x21.i - x20.i) x20.i then rwSh x21.r 0 ((i : Int) - x20.i + 0) 0 else x21.r i 0).i = x6
      by_cases hc : x20.i ≤ (i : Int)
      · rw [if_pos ⟨hc, hi⟩]
        have h := q3 (i - x20.i.toNat) (by omega)
        show (x21.r ((i : Int) - x20.i + 0 + 0) 0).i = x6
        rw [show (i : Int) - x20.i + 0 + 0 = ((i - x20.i.toNat : Nat) : Int) by omega]
        exact h
      · rw [if_neg (by omega)]
        exact q3 i (by omega)
    refine andI ?_ fun o26 => ?_
    · skip -- #11
      show v3.i + 1 - (x20.i + min (x21.i - x20.i) x20.i) < v3.i + 1 - x20.i
      omega
    skip -- #12
    show 0 < v3.i + 1 - x20.i
    omega
  intro h27
  exact new_yes hE (by omega) hr.1 q1 r18.1 r18.2.1 fun i hi => q3 i (by omega) -- #13
theorem kNew : RCtrOk Tryz.prog ρ0 cNew := by
  refine rctr_of (cf := cfG none [cVol, cEmpty] [] lpNew sumC) (cfG_ok ((keep0.cons kEmpty nEmpty).cons kVol nVol) keepR0 noF) Tryz.func30 rfl 400 rfl fun ds hr => ?_
  have hr := rshX_flat hr
  match ds, hr with
  | [d0, d1, d2, d3, d4, d5, d6], hr =>
    obtain ⟨⟨e0, l0, u0⟩, ⟨e1, l1, u1⟩, ⟨e2, l2, u2⟩, ⟨e3, l3, u3⟩, ⟨e4, l4, u4⟩, ⟨e5, l5, u5⟩, ⟨e6, l6, u6⟩, _⟩ := hr
    generalize d0.i = x0 at *
    generalize d1.i = x1 at *
    generalize d2.i = x2 at *
    generalize d3.i = x3 at *
    generalize d4.i = x4 at *
    generalize d5.i = x5 at *
    generalize d6.i = x6 at *
    subst e0 e1 e2 e3 e4 e5 e6
    exact Eq.mpr (NewL x0 x1 x2 x3 x4 x5 x6) (NewO x0 x1 x2 x3 x4 x5 x6 ⟨l0, u0⟩ ⟨l1, u1⟩ ⟨l2, u2⟩ ⟨l3, u3⟩ ⟨l4, u4⟩ ⟨l5, u5⟩ ⟨l6, u6⟩)
theorem nNew : ∃ fn, Tryz.prog.funcs[cNew.f]? = some fn ∧ fn.body.isSome = true ∧ (fn.name == "runtime.NumGoroutine") = false := ⟨_, Tryz.func30, by kernel_rfl, by kernel_rfl⟩

/-- What is left of the contract of grid.Equal. -/
def EqP (x0 : Int) (x1 : Int) (x2 : Int) (x3 : Int) (x4 : Int) (x5 : Int) (x6 : X) (x7 : Int) (x8 : Int) (x9 : Int) (x10 : Int) (x11 : Int) (x12 : Int) (x13 : X) : Prop :=
((((x0 = x7) ∧ ((x1 = x8) ∧ ((x2 = x9) ∧ ((x3 = x10) ∧ ((x4 = x11) ∧ (x5 = x12)))))) →
(((¬ (x6.i = x13.i)) →
((false = true) ↔ (Ff 715 [xI x0, xI x1, xI x2, xI x3, xI x4, xI x5, x6, xI x7, xI x8, xI x9, xI x10, xI x11, xI x12, x13]).b = true)) ∧
((x6.i = x13.i) →
(Px 734 [(xI x0), (xI x1), (xI x2), (xI x3), (xI x4), (xI x5), x6, (xI x7), (xI x8), (xI x9), (xI x10), (xI x11), (xI x12), x13, (xI 0)] ∧
(∀ x20 : X, (((0 ≤ x20.i) ∧ (x20.i ≤ 9223372036854775807)) →
(Px 734 [(xI x0), (xI x1), (xI x2), (xI x3), (xI x4), (xI x5), x6, (xI x7), (xI x8), (xI x9), (xI x10), (xI x11), (xI x12), x13, x20] →
(((x20.i < x6.i) →
((x20.i < x13.i) ∧
((x20.i < x6.i) ∧
(((¬ ((x6.r x20.i 0).i = (x13.r x20.i 0).i)) →
((false = true) ↔ (Ff 715 [xI x0, xI x1, xI x2, xI x3, xI x4, xI x5, x6, xI x7, xI x8, xI x9, xI x10, xI x11, xI x12, x13]).b = true)) ∧
(((x6.r x20.i 0).i = (x13.r x20.i 0).i) →
(Px 734 [(xI x0), (xI x1), (xI x2), (xI x3), (xI x4), (xI x5), x6, (xI x7), (xI x8), (xI x9), (xI x10), (xI x11), (xI x12), x13, (xI (x20.i + 1))] ∧
(((Ff 764 [(xI x0), (xI x1), (xI x2), (xI x3), (xI x4), (xI x5), x6, (xI x7), (xI x8), (xI x9), (xI x10), (xI x11), (xI x12), x13, (xI (x20.i + 1))]).i < (Ff 764 [(xI x0), (xI x1), (xI x2), (xI x3), (xI x4), (xI x5), x6, (xI x7), (xI x8), (xI x9), (xI x10), (xI x11), (xI x12), x13, x20]).i) ∧
(0 < (Ff 764 [(xI x0), (xI x1), (xI x2), (xI x3), (xI x4), (xI x5), x6, (xI x7), (xI x8), (xI x9), (xI x10), (xI x11), (xI x12), x13, x20]).i)))))))) ∧
((¬ (x20.i < x6.i)) →
((true = true) ↔ (Ff 715 [xI x0, xI x1, xI x2, xI x3, xI x4, xI x5, x6, xI x7, xI x8, xI x9, xI x10, xI x11, xI x12, x13]).b = true)))))))))) ∧
((¬ ((x0 = x7) ∧ ((x1 = x8) ∧ ((x2 = x9) ∧ ((x3 = x10) ∧ ((x4 = x11) ∧ (x5 = x12))))))) →
((false = true) ↔ (Ff 715 [xI x0, xI x1, xI x2, xI x3, xI x4, xI x5, x6, xI x7, xI x8, xI x9, xI x10, xI x11, xI x12, x13]).b = true)))
theorem EqL (x0 : Int) (x1 : Int) (x2 : Int) (x3 : Int) (x4 : Int) (x5 : Int) (x6 : X) (x7 : Int) (x8 : Int) (x9 : Int) (x10 : Int) (x11 : Int) (x12 : Int) (x13 : X) : (ctrR (fun j => Ff j [xI x0, xI x1, xI x2, xI x3, xI x4, xI x5, x6, xI x7, xI x8, xI x9, xI x10, xI x11, xI x12, x13]) cEq.fs cEq.res { ρ0 with x := fun j => [xI x0, xI x1, xI x2, xI x3, xI x4, xI x5, x6, xI x7, xI x8, xI x9, xI x10, xI x11, xI x12, x13].getD j (xI 0) } (walkR Tryz.prog (cfG none [] [] lpEq sumL) Tryz.f23 400 cEq.args)) = EqP x0 x1 x2 x3 x4 x5 x6 x7 x8 x9 x10 x11 x12 x13 := by kernel_rfl
set_option maxHeartbeats 4000000 in
theorem EqO (x0 : Int) (x1 : Int) (x2 : Int) (x3 : Int) (x4 : Int) (x5 : Int) (x6 : X) (x7 : Int) (x8 : Int) (x9 : Int) (x10 : Int) (x11 : Int) (x12 : Int) (x13 : X) (g0 : -9223372036854775808 ≤ x0 ∧ x0 ≤ 9223372036854775807) (g1 : -9223372036854775808 ≤ x1 ∧ x1 ≤ 9223372036854775807) (g2 : -9223372036854775808 ≤ x2 ∧ x2 ≤ 9223372036854775807) (g3 : -9223372036854775808 ≤ x3 ∧ x3 ≤ 9223372036854775807) (g4 : -9223372036854775808 ≤ x4 ∧ x4 ≤ 9223372036854775807) (g5 : -9223372036854775808 ≤ x5 ∧ x5 ≤ 9223372036854775807) (g6 : 0 ≤ x6.i ∧ x6.i ≤ 9223372036854775807 ∧ RowOk [.int .i64 (-9223372036854775808) (9223372036854775807)] x6.r x6.i.toNat) (g7 : -9223372036854775808 ≤ x7 ∧ x7 ≤ 9223372036854775807) (g8 : -9223372036854775808 ≤ x8 ∧ x8 ≤ 9223372036854775807) (g9 : -9223372036854775808 ≤ x9 ∧ x9 ≤ 9223372036854775807) (g10 : -9223372036854775808 ≤ x10 ∧ x10 ≤ 9223372036854775807) (g11 : -9223372036854775808 ≤ x11 ∧ x11 ≤ 9223372036854775807) (g12 : -9223372036854775808 ≤ x12 ∧ x12 ≤ 9223372036854775807) (g13 : 0 ≤ x13.i ∧ x13.i ≤ 9223372036854775807 ∧ RowOk [.int .i64 (-9223372036854775808) (9223372036854775807)] x13.r x13.i.toNat) : EqP x0 x1 x2 x3 x4 x5 x6 x7 x8 x9 x10 x11 x12 x13 := by
  unfold EqP
  refine And.intro ?_ ?_
  · intro h1
    refine And.intro ?_ ?_
    · intro h3
      skip -- #0
      refine iff_of_false Bool.false_ne_true fun hv => ?_
      obtain ⟨e, e2⟩ := eqG_iff.1 hv
      exact h3 (lst_len g6.1 g13.1 e2)
    intro h4
    refine andI ?_ fun o5 => ?_
    · exact ⟨Int.le_refl _, fun j hj => absurd hj (by show ¬ (j : Int) < 0; omega)⟩ -- #1
    intro x20
    intro h6
    intro p7
    refine And.intro ?_ ?_
    · intro h9
      refine andI ?_ fun o10 => ?_
      · omega -- #2
      refine andI ?_ fun o11 => ?_
      · omega -- #3
      refine And.intro ?_ ?_
      · intro h13
        skip -- #4
        refine iff_of_false Bool.false_ne_true fun hv => h13 ?_
        exact lst_at h6.1 h9 (by omega) (eqG_iff.1 hv).2
      intro h14
      refine andI ?_ fun o15 => ?_
      · skip -- #5
        refine ⟨Int.le_trans h6.1 (Int.le_of_lt (Int.lt_succ _)), fun j hj => ?_⟩
        have hj : (j : Int) < x20.i + 1 := hj
        by_cases e : (j : Int) = x20.i
        · rw [e]
          exact h14
        · exact p7.2 j (by omega)
      refine andI ?_ fun o16 => ?_
      · skip -- #6
        show x6.i + 1 - (x20.i + 1) < x6.i + 1 - x20.i
        omega
      skip -- #7
      show 0 < x6.i + 1 - x20.i
      omega
    intro h17
    skip -- #8
    refine iff_of_true rfl (eqG_iff.2 ⟨h1, lstX_ext (by omega) fun j hj => ?_⟩)
    exact p7.2 j (by omega)
  intro h18
  skip -- #9
  refine iff_of_false Bool.false_ne_true fun hv => h18 ?_
  exact (eqG_iff.1 hv).1
theorem kEq : RCtrOk Tryz.prog ρ0 cEq := by
  refine rctr_of (cf := cfG none [] [] lpEq sumL) (cfG_ok keep0 keepR0 noF) Tryz.func23 rfl 400 rfl fun ds hr => ?_
  have hr := rshX_flat hr
  match ds, hr with
  | [d0, d1, d2, d3, d4, d5, d6, d7, d8, d9, d10, d11, d12, d13], hr =>
    obtain ⟨⟨e0, l0, u0⟩, ⟨e1, l1, u1⟩, ⟨e2, l2, u2⟩, ⟨e3, l3, u3⟩, ⟨e4, l4, u4⟩, ⟨e5, l5, u5⟩, l6, ⟨e7, l7, u7⟩, ⟨e8, l8, u8⟩, ⟨e9, l9, u9⟩, ⟨e10, l10, u10⟩, ⟨e11, l11, u11⟩, ⟨e12, l12, u12⟩, l13, _⟩ := hr
    generalize d0.i = x0 at *
    generalize d1.i = x1 at *
    generalize d2.i = x2 at *
    generalize d3.i = x3 at *
    generalize d4.i = x4 at *
    generalize d5.i = x5 at *
    generalize d6 = x6 at *
    generalize d7.i = x7 at *
    generalize d8.i = x8 at *
    generalize d9.i = x9 at *
    generalize d10.i = x10 at *
    generalize d11.i = x11 at *
    generalize d12.i = x12 at *
    generalize d13 = x13 at *
    subst e0 e1 e2 e3 e4 e5 e7 e8 e9 e10 e11 e12
    exact Eq.mpr (EqL x0 x1 x2 x3 x4 x5 x6 x7 x8 x9 x10 x11 x12 x13) (EqO x0 x1 x2 x3 x4 x5 x6 x7 x8 x9 x10 x11 x12 x13 ⟨l0, u0⟩ ⟨l1, u1⟩ ⟨l2, u2⟩ ⟨l3, u3⟩ ⟨l4, u4⟩ ⟨l5, u5⟩ l6 ⟨l7, u7⟩ ⟨l8, u8⟩ ⟨l9, u9⟩ ⟨l10, u10⟩ ⟨l11, u11⟩ ⟨l12, u12⟩ l13)
theorem nEq : ∃ fn, Tryz.prog.funcs[cEq.f]? = some fn ∧ fn.body.isSome = true ∧ (fn.name == "runtime.NumGoroutine") = false := ⟨_, Tryz.func23, by kernel_rfl, by kernel_rfl⟩

/-- What is left of the contract of grid.Count. -/
def CntP (x0 : Int) (x1 : Int) (x2 : Int) (x3 : Int) (x4 : Int) (x5 : Int) (x6 : X) (x7 : Int) : Prop :=
(Px 735 [(xI x0), (xI x1), (xI x2), (xI x3), (xI x4), (xI x5), x6, (xI x7), (xI 0), (xI 0)] ∧
(∀ x20 : X, (∀ x21 : X, (((0 ≤ x20.i) ∧ (x20.i ≤ 9223372036854775807)) →
(((0 ≤ x21.i) ∧ (x21.i ≤ 9223372036854775807)) →
(Px 735 [(xI x0), (xI x1), (xI x2), (xI x3), (xI x4), (xI x5), x6, (xI x7), x20, x21] →
(((x20.i < x6.i) →
((x20.i < x6.i) ∧
((0 ≤ (bif (decide ((x6.r x20.i 0).i = x7)) then (IntKind.wrap Go.IntKind.i64 (x21.i + 1)) else x21.i)) ∧
(Px 735 [(xI x0), (xI x1), (xI x2), (xI x3), (xI x4), (xI x5), x6, (xI x7), (xI (x20.i + 1)), (xI (bif (decide ((x6.r x20.i 0).i = x7)) then (IntKind.wrap Go.IntKind.i64 (x21.i + 1)) else x21.i))] ∧
(((Ff 765 [(xI x0), (xI x1), (xI x2), (xI x3), (xI x4), (xI x5), x6, (xI x7), (xI (x20.i + 1)), (xI (bif (decide ((x6.r x20.i 0).i = x7)) then (IntKind.wrap Go.IntKind.i64 (x21.i + 1)) else x21.i))]).i < (Ff 765 [(xI x0), (xI x1), (xI x2), (xI x3), (xI x4), (xI x5), x6, (xI x7), x20, x21]).i) ∧
(0 < (Ff 765 [(xI x0), (xI x1), (xI x2), (xI x3), (xI x4), (xI x5), x6, (xI x7), x20, x21]).i)))))) ∧
((¬ (x20.i < x6.i)) →
(x21.i = (Ff 716 [xI x0, xI x1, xI x2, xI x3, xI x4, xI x5, x6, xI x7]).i ∧ 0 ≤ (Ff 716 [xI x0, xI x1, xI x2, xI x3, xI x4, xI x5, x6, xI x7]).i ∧ (Ff 716 [xI x0, xI x1, xI x2, xI x3, xI x4, xI x5, x6, xI x7]).i ≤ 9223372036854775807)))))))))
theorem CntL (x0 : Int) (x1 : Int) (x2 : Int) (x3 : Int) (x4 : Int) (x5 : Int) (x6 : X) (x7 : Int) : (ctrR (fun j => Ff j [xI x0, xI x1, xI x2, xI x3, xI x4, xI x5, x6, xI x7]) cCnt.fs cCnt.res { ρ0 with x := fun j => [xI x0, xI x1, xI x2, xI x3, xI x4, xI x5, x6, xI x7].getD j (xI 0) } (walkR Tryz.prog (cfG none [] [] lpCnt sumL) Tryz.f24 400 cCnt.args)) = CntP x0 x1 x2 x3 x4 x5 x6 x7 := by kernel_rfl
set_option maxHeartbeats 4000000 in
theorem CntO (x0 : Int) (x1 : Int) (x2 : Int) (x3 : Int) (x4 : Int) (x5 : Int) (x6 : X) (x7 : Int) (g0 : -9223372036854775808 ≤ x0 ∧ x0 ≤ 9223372036854775807) (g1 : -9223372036854775808 ≤ x1 ∧ x1 ≤ 9223372036854775807) (g2 : -9223372036854775808 ≤ x2 ∧ x2 ≤ 9223372036854775807) (g3 : -9223372036854775808 ≤ x3 ∧ x3 ≤ 9223372036854775807) (g4 : -9223372036854775808 ≤ x4 ∧ x4 ≤ 9223372036854775807) (g5 : -9223372036854775808 ≤ x5 ∧ x5 ≤ 9223372036854775807) (g6 : 0 ≤ x6.i ∧ x6.i ≤ 9223372036854775807 ∧ RowOk [.int .i64 (-9223372036854775808) (9223372036854775807)] x6.r x6.i.toNat) (g7 : -9223372036854775808 ≤ x7 ∧ x7 ≤ 9223372036854775807) : CntP x0 x1 x2 x3 x4 x5 x6 x7 := by
  unfold CntP
  refine andI ?_ fun o0 => ?_
  · exact ⟨Int.le_refl _, g6.1, rfl⟩ -- #0
  intro x20
  intro x21
  intro h1
  intro h2
  intro p3
  refine And.intro ?_ ?_
  · intro h5
    have hm : x21.i = (((lstX deI x6).take x20.i.toNat).count x7 : Nat) := p3.2.2
    have hl : x21.i ≤ x20.i := by rw [hm]; exact cnt_le h1.1
    have hs : (((((lstX deI x6).take (x20.i + 1).toNat).count x7 : Nat)) : Int) = (bif (decide ((x6.r x20.i 0).i = x7)) then (IntKind.wrap Go.IntKind.i64 (x21.i + 1)) else x21.i) := by
      have hw : IntKind.wrap Go.IntKind.i64 (x21.i + 1) = x21.i + 1 := wrap_fits ⟨by show -9223372036854775808 ≤ x21.i + 1; omega, by show x21.i + 1 ≤ 9223372036854775807; omega⟩
      rw [cnt_step h1.1 h5, hw, hm, Bool.cond_decide]
      split <;> omega
    refine andI ?_ fun o6 => ?_
    · omega -- #1
    refine andI ?_ fun o7 => ?_
    · skip -- #2
      rw [← hs]
      omega
    refine andI ?_ fun o8 => ?_
    · exact ⟨Int.le_trans h1.1 (Int.le_of_lt (Int.lt_succ _)), show x20.i + 1 ≤ x6.i by omega, hs.symm⟩ -- #3
    refine andI ?_ fun o9 => ?_
    · skip -- #4
      show x6.i + 1 - (x20.i + 1) < x6.i + 1 - x20.i
      omega
    skip -- #5
    show 0 < x6.i + 1 - x20.i
    omega
  intro h10
  skip -- #6
  have hm : x21.i = (((lstX deI x6).take x20.i.toNat).count x7 : Nat) := p3.2.2
  rw [lx_all (by omega)] at hm
  exact rngI hm.symm (by omega)
theorem kCnt : RCtrOk Tryz.prog ρ0 cCnt := by
  refine rctr_of (cf := cfG none [] [] lpCnt sumL) (cfG_ok keep0 keepR0 noF) Tryz.func24 rfl 400 rfl fun ds hr => ?_
  have hr := rshX_flat hr
  match ds, hr with
  | [d0, d1, d2, d3, d4, d5, d6, d7], hr =>
    obtain ⟨⟨e0, l0, u0⟩, ⟨e1, l1, u1⟩, ⟨e2, l2, u2⟩, ⟨e3, l3, u3⟩, ⟨e4, l4, u4⟩, ⟨e5, l5, u5⟩, l6, ⟨e7, l7, u7⟩, _⟩ := hr
    generalize d0.i = x0 at *
    generalize d1.i = x1 at *
    generalize d2.i = x2 at *
    generalize d3.i = x3 at *
    generalize d4.i = x4 at *
    generalize d5.i = x5 at *
    generalize d6 = x6 at *
    generalize d7.i = x7 at *
    subst e0 e1 e2 e3 e4 e5 e7
    exact Eq.mpr (CntL x0 x1 x2 x3 x4 x5 x6 x7) (CntO x0 x1 x2 x3 x4 x5 x6 x7 ⟨l0, u0⟩ ⟨l1, u1⟩ ⟨l2, u2⟩ ⟨l3, u3⟩ ⟨l4, u4⟩ ⟨l5, u5⟩ l6 ⟨l7, u7⟩)
theorem nCnt : ∃ fn, Tryz.prog.funcs[cCnt.f]? = some fn ∧ fn.body.isSome = true ∧ (fn.name == "runtime.NumGoroutine") = false := ⟨_, Tryz.func24, by kernel_rfl, by kernel_rfl⟩

/-- What is left of the contract of grid.Shift. -/
def ShfP (x0 : Int) (x1 : Int) (x2 : Int) (x3 : Int) (x4 : Int) (x5 : Int) (x6 : X) (x7 : Int) (x8 : Int) (x9 : Int) : Prop :=
(((x6.i = 0) →
(((0 < x6.i) →
(((x0 + x7) = (Ff 930 [xI x0, xI x1, xI x2, xI x3, xI x4, xI x5, x6, xI x7, xI x8, xI x9]).i ∧ -2097151 ≤ (Ff 930 [xI x0, xI x1, xI x2, xI x3, xI x4, xI x5, x6, xI x7, xI x8, xI x9]).i ∧ (Ff 930 [xI x0, xI x1, xI x2, xI x3, xI x4, xI x5, x6, xI x7, xI x8, xI x9]).i ≤ 2097151) ∧ (((x1 + x8) = (Ff 931 [xI x0, xI x1, xI x2, xI x3, xI x4, xI x5, x6, xI x7, xI x8, xI x9]).i ∧ -2097151 ≤ (Ff 931 [xI x0, xI x1, xI x2, xI x3, xI x4, xI x5, x6, xI x7, xI x8, xI x9]).i ∧ (Ff 931 [xI x0, xI x1, xI x2, xI x3, xI x4, xI x5, x6, xI x7, xI x8, xI x9]).i ≤ 2097151) ∧ (((x2 + x9) = (Ff 932 [xI x0, xI x1, xI x2, xI x3, xI x4, xI x5, x6, xI x7, xI x8, xI x9]).i ∧ -2097151 ≤ (Ff 932 [xI x0, xI x1, xI x2, xI x3, xI x4, xI x5, x6, xI x7, xI x8, xI x9]).i ∧ (Ff 932 [xI x0, xI x1, xI x2, xI x3, xI x4, xI x5, x6, xI x7, xI x8, xI x9]).i ≤ 2097151) ∧ (((x3 + x7) = (Ff 933 [xI x0, xI x1, xI x2, xI x3, xI x4, xI x5, x6, xI x7, xI x8, xI x9]).i ∧ -2097151 ≤ (Ff 933 [xI x0, xI x1, xI x2, xI x3, xI x4, xI x5, x6, xI x7, xI x8, xI x9]).i ∧ (Ff 933 [xI x0, xI x1, xI x2, xI x3, xI x4, xI x5, x6, xI x7, xI x8, xI x9]).i ≤ 2097151) ∧ (((x4 + x8) = (Ff 934 [xI x0, xI x1, xI x2, xI x3, xI x4, xI x5, x6, xI x7, xI x8, xI x9]).i ∧ -2097151 ≤ (Ff 934 [xI x0, xI x1, xI x2, xI x3, xI x4, xI x5, x6, xI x7, xI x8, xI x9]).i ∧ (Ff 934 [xI x0, xI x1, xI x2, xI x3, xI x4, xI x5, x6, xI x7, xI x8, xI x9]).i ≤ 2097151) ∧ (((x5 + x9) = (Ff 935 [xI x0, xI x1, xI x2, xI x3, xI x4, xI x5, x6, xI x7, xI x8, xI x9]).i ∧ -2097151 ≤ (Ff 935 [xI x0, xI x1, xI x2, xI x3, xI x4, xI x5, x6, xI x7, xI x8, xI x9]).i ∧ (Ff 935 [xI x0, xI x1, xI x2, xI x3, xI x4, xI x5, x6, xI x7, xI x8, xI x9]).i ≤ 2097151) ∧ ((Ff 936 [xI x0, xI x1, xI x2, xI x3, xI x4, xI x5, x6, xI x7, xI x8, xI x9]).i = 0 ∧ 0 ≤ (2097152 : Int))))))))) ∧
((¬ (0 < x6.i)) →
((x0 = (Ff 930 [xI x0, xI x1, xI x2, xI x3, xI x4, xI x5, x6, xI x7, xI x8, xI x9]).i ∧ -2097151 ≤ (Ff 930 [xI x0, xI x1, xI x2, xI x3, xI x4, xI x5, x6, xI x7, xI x8, xI x9]).i ∧ (Ff 930 [xI x0, xI x1, xI x2, xI x3, xI x4, xI x5, x6, xI x7, xI x8, xI x9]).i ≤ 2097151) ∧ ((x1 = (Ff 931 [xI x0, xI x1, xI x2, xI x3, xI x4, xI x5, x6, xI x7, xI x8, xI x9]).i ∧ -2097151 ≤ (Ff 931 [xI x0, xI x1, xI x2, xI x3, xI x4, xI x5, x6, xI x7, xI x8, xI x9]).i ∧ (Ff 931 [xI x0, xI x1, xI x2, xI x3, xI x4, xI x5, x6, xI x7, xI x8, xI x9]).i ≤ 2097151) ∧ ((x2 = (Ff 932 [xI x0, xI x1, xI x2, xI x3, xI x4, xI x5, x6, xI x7, xI x8, xI x9]).i ∧ -2097151 ≤ (Ff 932 [xI x0, xI x1, xI x2, xI x3, xI x4, xI x5, x6, xI x7, xI x8, xI x9]).i ∧ (Ff 932 [xI x0, xI x1, xI x2, xI x3, xI x4, xI x5, x6, xI x7, xI x8, xI x9]).i ≤ 2097151) ∧ ((x3 = (Ff 933 [xI x0, xI x1, xI x2, xI x3, xI x4, xI x5, x6, xI x7, xI x8, xI x9]).i ∧ -2097151 ≤ (Ff 933 [xI x0, xI x1, xI x2, xI x3, xI x4, xI x5, x6, xI x7, xI x8, xI x9]).i ∧ (Ff 933 [xI x0, xI x1, xI x2, xI x3, xI x4, xI x5, x6, xI x7, xI x8, xI x9]).i ≤ 2097151) ∧ ((x4 = (Ff 934 [xI x0, xI x1, xI x2, xI x3, xI x4, xI x5, x6, xI x7, xI x8, xI x9]).i ∧ -2097151 ≤ (Ff 934 [xI x0, xI x1, xI x2, xI x3, xI x4, xI x5, x6, xI x7, xI x8, xI x9]).i ∧ (Ff 934 [xI x0, xI x1, xI x2, xI x3, xI x4, xI x5, x6, xI x7, xI x8, xI x9]).i ≤ 2097151) ∧ ((x5 = (Ff 935 [xI x0, xI x1, xI x2, xI x3, xI x4, xI x5, x6, xI x7, xI x8, xI x9]).i ∧ -2097151 ≤ (Ff 935 [xI x0, xI x1, xI x2, xI x3, xI x4, xI x5, x6, xI x7, xI x8, xI x9]).i ∧ (Ff 935 [xI x0, xI x1, xI x2, xI x3, xI x4, xI x5, x6, xI x7, xI x8, xI x9]).i ≤ 2097151) ∧ ((Ff 936 [xI x0, xI x1, xI x2, xI x3, xI x4, xI x5, x6, xI x7, xI x8, xI x9]).i = 0 ∧ 0 ≤ (2097152 : Int))))))))))) ∧
(((0 < x6.i) →
(((x0 + x7) = (Ff 930 [xI x0, xI x1, xI x2, xI x3, xI x4, xI x5, x6, xI x7, xI x8, xI x9]).i ∧ -2097151 ≤ (Ff 930 [xI x0, xI x1, xI x2, xI x3, xI x4, xI x5, x6, xI x7, xI x8, xI x9]).i ∧ (Ff 930 [xI x0, xI x1, xI x2, xI x3, xI x4, xI x5, x6, xI x7, xI x8, xI x9]).i ≤ 2097151) ∧ (((x1 + x8) = (Ff 931 [xI x0, xI x1, xI x2, xI x3, xI x4, xI x5, x6, xI x7, xI x8, xI x9]).i ∧ -2097151 ≤ (Ff 931 [xI x0, xI x1, xI x2, xI x3, xI x4, xI x5, x6, xI x7, xI x8, xI x9]).i ∧ (Ff 931 [xI x0, xI x1, xI x2, xI x3, xI x4, xI x5, x6, xI x7, xI x8, xI x9]).i ≤ 2097151) ∧ (((x2 + x9) = (Ff 932 [xI x0, xI x1, xI x2, xI x3, xI x4, xI x5, x6, xI x7, xI x8, xI x9]).i ∧ -2097151 ≤ (Ff 932 [xI x0, xI x1, xI x2, xI x3, xI x4, xI x5, x6, xI x7, xI x8, xI x9]).i ∧ (Ff 932 [xI x0, xI x1, xI x2, xI x3, xI x4, xI x5, x6, xI x7, xI x8, xI x9]).i ≤ 2097151) ∧ (((x3 + x7) = (Ff 933 [xI x0, xI x1, xI x2, xI x3, xI x4, xI x5, x6, xI x7, xI x8, xI x9]).i ∧ -2097151 ≤ (Ff 933 [xI x0, xI x1, xI x2, xI x3, xI x4, xI x5, x6, xI x7, xI x8, xI x9]).i ∧ (Ff 933 [xI x0, xI x1, xI x2, xI x3, xI x4, xI x5, x6, xI x7, xI x8, xI x9]).i ≤ 2097151) ∧ (((x4 + x8) = (Ff 934 [xI x0, xI x1, xI x2, xI x3, xI x4, xI x5, x6, xI x7, xI x8, xI x9]).i ∧ -2097151 ≤ (Ff 934 [xI x0, xI x1, xI x2, xI x3, xI x4, xI x5, x6, xI x7, xI x8, xI x9]).i ∧ (Ff 934 [xI x0, xI x1, xI x2, xI x3, xI x4, xI x5, x6, xI x7, xI x8, xI x9]).i ≤ 2097151) ∧ (((x5 + x9) = (Ff 935 [xI x0, xI x1, xI x2, xI x3, xI x4, xI x5, x6, xI x7, xI x8, xI x9]).i ∧ -2097151 ≤ (Ff 935 [xI x0, xI x1, xI x2, xI x3, xI x4, xI x5, x6, xI x7, xI x8, xI x9]).i ∧ (Ff 935 [xI x0, xI x1, xI x2, xI x3, xI x4, xI x5, x6, xI x7, xI x8, xI x9]).i ≤ 2097151) ∧ (rowEq [.int .i64 (0) (255)] (Ff 936 [xI x0, xI x1, xI x2, xI x3, xI x4, xI x5, x6, xI x7, xI x8, xI x9]) x6.r x6.i 2097152)))))))) ∧
((¬ (0 < x6.i)) →
((x0 = (Ff 930 [xI x0, xI x1, xI x2, xI x3, xI x4, xI x5, x6, xI x7, xI x8, xI x9]).i ∧ -2097151 ≤ (Ff 930 [xI x0, xI x1, xI x2, xI x3, xI x4, xI x5, x6, xI x7, xI x8, xI x9]).i ∧ (Ff 930 [xI x0, xI x1, xI x2, xI x3, xI x4, xI x5, x6, xI x7, xI x8, xI x9]).i ≤ 2097151) ∧ ((x1 = (Ff 931 [xI x0, xI x1, xI x2, xI x3, xI x4, xI x5, x6, xI x7, xI x8, xI x9]).i ∧ -2097151 ≤ (Ff 931 [xI x0, xI x1, xI x2, xI x3, xI x4, xI x5, x6, xI x7, xI x8, xI x9]).i ∧ (Ff 931 [xI x0, xI x1, xI x2, xI x3, xI x4, xI x5, x6, xI x7, xI x8, xI x9]).i ≤ 2097151) ∧ ((x2 = (Ff 932 [xI x0, xI x1, xI x2, xI x3, xI x4, xI x5, x6, xI x7, xI x8, xI x9]).i ∧ -2097151 ≤ (Ff 932 [xI x0, xI x1, xI x2, xI x3, xI x4, xI x5, x6, xI x7, xI x8, xI x9]).i ∧ (Ff 932 [xI x0, xI x1, xI x2, xI x3, xI x4, xI x5, x6, xI x7, xI x8, xI x9]).i ≤ 2097151) ∧ ((x3 = (Ff 933 [xI x0, xI x1, xI x2, xI x3, xI x4, xI x5, x6, xI x7, xI x8, xI x9]).i ∧ -2097151 ≤ (Ff 933 [xI x0, xI x1, xI x2, xI x3, xI x4, xI x5, x6, xI x7, xI x8, xI x9]).i ∧ (Ff 933 [xI x0, xI x1, xI x2, xI x3, xI x4, xI x5, x6, xI x7, xI x8, xI x9]).i ≤ 2097151) ∧ ((x4 = (Ff 934 [xI x0, xI x1, xI x2, xI x3, xI x4, xI x5, x6, xI x7, xI x8, xI x9]).i ∧ -2097151 ≤ (Ff 934 [xI x0, xI x1, xI x2, xI x3, xI x4, xI x5, x6, xI x7, xI x8, xI x9]).i ∧ (Ff 934 [xI x0, xI x1, xI x2, xI x3, xI x4, xI x5, x6, xI x7, xI x8, xI x9]).i ≤ 2097151) ∧ ((x5 = (Ff 935 [xI x0, xI x1, xI x2, xI x3, xI x4, xI x5, x6, xI x7, xI x8, xI x9]).i ∧ -2097151 ≤ (Ff 935 [xI x0, xI x1, xI x2, xI x3, xI x4, xI x5, x6, xI x7, xI x8, xI x9]).i ∧ (Ff 935 [xI x0, xI x1, xI x2, xI x3, xI x4, xI x5, x6, xI x7, xI x8, xI x9]).i ≤ 2097151) ∧ (rowEq [.int .i64 (0) (255)] (Ff 936 [xI x0, xI x1, xI x2, xI x3, xI x4, xI x5, x6, xI x7, xI x8, xI x9]) x6.r x6.i 2097152))))))))))
theorem ShfL (x0 : Int) (x1 : Int) (x2 : Int) (x3 : Int) (x4 : Int) (x5 : Int) (x6 : X) (x7 : Int) (x8 : Int) (x9 : Int) : (ctrR (fun j => Ff j [xI x0, xI x1, xI x2, xI x3, xI x4, xI x5, x6, xI x7, xI x8, xI x9]) cShf.fs cShf.res { ρ0 with x := fun j => [xI x0, xI x1, xI x2, xI x3, xI x4, xI x5, x6, xI x7, xI x8, xI x9].getD j (xI 0) } (walkR Tryz.prog (cfG none [] [] [] sumL) Tryz.f19 400 shShf)) = ShfP x0 x1 x2 x3 x4 x5 x6 x7 x8 x9 := by kernel_rfl
set_option maxHeartbeats 4000000 in
theorem ShfO (x0 : Int) (x1 : Int) (x2 : Int) (x3 : Int) (x4 : Int) (x5 : Int) (x6 : X) (x7 : Int) (x8 : Int) (x9 : Int) (g0 : -1048575 ≤ x0 ∧ x0 ≤ 1048575) (g1 : -1048575 ≤ x1 ∧ x1 ≤ 1048575) (g2 : -1048575 ≤ x2 ∧ x2 ≤ 1048575) (g3 : -1048575 ≤ x3 ∧ x3 ≤ 1048575) (g4 : -1048575 ≤ x4 ∧ x4 ≤ 1048575) (g5 : -1048575 ≤ x5 ∧ x5 ≤ 1048575) (g6 : 0 ≤ x6.i ∧ x6.i ≤ 2097152 ∧ RowOk [.int .i64 (0) (255)] x6.r x6.i.toNat) (g7 : -1048576 ≤ x7 ∧ x7 ≤ 1048576) (g8 : -1048576 ≤ x8 ∧ x8 ≤ 1048576) (g9 : -1048576 ≤ x9 ∧ x9 ≤ 1048576) (gp : Px cShf.pre.get! [xI x0, xI x1, xI x2, xI x3, xI x4, xI x5, x6, xI x7, xI x8, xI x9]) : ShfP x0 x1 x2 x3 x4 x5 x6 x7 x8 x9 := by
  unfold ShfP
  obtain ⟨k0, k1, k2, k3, k4⟩ := (v700 g6.1).1 gp
  have hr : rowEq [.int .i64 (0) (255)] (rowG enI (lstX deI x6)) x6.r x6.i 2097152 := rowEq_of eqEl_int g6.1 g6.2.1 rfl
  have hl : ((lstX deI x6).length : Int) = x6.i := by rw [lstX_len]; omega
  refine And.intro ?_ ?_
  · intro h1
    refine And.intro ?_ ?_
    · intro h3
      exact absurd h3 (by omega) -- #0
    intro h4
    skip -- #1
    have e : shfB (bxI x0 x1 x2 x3 x4 x5) (lstX deI x6) (x7, x8, x9) = bxI x0 x1 x2 x3 x4 x5 := if_pos (by omega)
    refine ⟨rngI (c := x0) (congrArg Bx.a e) ?_, rngI (c := x1) (congrArg Bx.b e) ?_, rngI (c := x2) (congrArg Bx.c e) ?_, rngI (c := x3) (congrArg Bx.d e) ?_, rngI (c := x4) (congrArg Bx.e e) ?_, rngI (c := x5) (congrArg Bx.f e) ?_, ?_⟩
    · omega
    · omega
    · omega
    · omega
    · omega
    · omega
    exact ⟨hl.trans (by omega), by decide⟩
  refine And.intro ?_ ?_
  · intro h6
    skip -- #2
    have e : shfB (bxI x0 x1 x2 x3 x4 x5) (lstX deI x6) (x7, x8, x9) = ⟨x0 + x7, x1 + x8, x2 + x9, x3 + x7, x4 + x8, x5 + x9⟩ := if_neg (by omega)
    refine ⟨rngI (c := x0 + x7) (congrArg Bx.a e) ?_, rngI (c := x1 + x8) (congrArg Bx.b e) ?_, rngI (c := x2 + x9) (congrArg Bx.c e) ?_, rngI (c := x3 + x7) (congrArg Bx.d e) ?_, rngI (c := x4 + x8) (congrArg Bx.e e) ?_, rngI (c := x5 + x9) (congrArg Bx.f e) ?_, hr⟩
    all_goals omega
  intro h7
  skip -- #3
  have e : shfB (bxI x0 x1 x2 x3 x4 x5) (lstX deI x6) (x7, x8, x9) = bxI x0 x1 x2 x3 x4 x5 := if_pos (by omega)
  refine ⟨rngI (c := x0) (congrArg Bx.a e) ?_, rngI (c := x1) (congrArg Bx.b e) ?_, rngI (c := x2) (congrArg Bx.c e) ?_, rngI (c := x3) (congrArg Bx.d e) ?_, rngI (c := x4) (congrArg Bx.e e) ?_, rngI (c := x5) (congrArg Bx.f e) ?_, hr⟩
  all_goals omega
theorem kShf : RCtrOk Tryz.prog ρ0 cShf := by
  refine rctr_ofN (cf := cfG none [] [] [] sumL) (cfG_ok keep0 keepR0 noF) Tryz.func19 rfl 400 rfl (sh := shShf) (by kernel_rfl) val_rsh fun ds hr hp => ?_
  have hr := rshX_flat hr
  match ds, hr, hp with
  | [d0, d1, d2, d3, d4, d5, d6, d7, d8, d9], hr, hp =>
    obtain ⟨⟨e0, l0, u0⟩, ⟨e1, l1, u1⟩, ⟨e2, l2, u2⟩, ⟨e3, l3, u3⟩, ⟨e4, l4, u4⟩, ⟨e5, l5, u5⟩, l6, ⟨e7, l7, u7⟩, ⟨e8, l8, u8⟩, ⟨e9, l9, u9⟩, _⟩ := hr
    generalize d0.i = x0 at *
    generalize d1.i = x1 at *
    generalize d2.i = x2 at *
    generalize d3.i = x3 at *
    generalize d4.i = x4 at *
    generalize d5.i = x5 at *
    generalize d6 = x6 at *
    generalize d7.i = x7 at *
    generalize d8.i = x8 at *
    generalize d9.i = x9 at *
    subst e0 e1 e2 e3 e4 e5 e7 e8 e9
    exact Eq.mpr (ShfL x0 x1 x2 x3 x4 x5 x6 x7 x8 x9) (ShfO x0 x1 x2 x3 x4 x5 x6 x7 x8 x9 ⟨l0, u0⟩ ⟨l1, u1⟩ ⟨l2, u2⟩ ⟨l3, u3⟩ ⟨l4, u4⟩ ⟨l5, u5⟩ l6 ⟨l7, u7⟩ ⟨l8, u8⟩ ⟨l9, u9⟩ hp)
theorem nShf : ∃ fn, Tryz.prog.funcs[cShf.f]? = some fn ∧ fn.body.isSome = true ∧ (fn.name == "runtime.NumGoroutine") = false := ⟨_, Tryz.func19, by kernel_rfl, by kernel_rfl⟩
end Vc
end Go.Proofs.YtleapeclbkclaaaGreatDoor
