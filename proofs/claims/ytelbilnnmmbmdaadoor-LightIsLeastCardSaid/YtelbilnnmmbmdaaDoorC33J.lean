/- Contracts of functions, each out of one walk. -/
import Derived.Test.YtelbilnnmmbmdaaDoorC33N
namespace Go.Proofs.YtelbilnnmmbmdaaDoor
namespace Vc
open Go Go.RowKit
set_option linter.unusedVariables false
def BrRP (x0 x1 x2 x3 : Int) : Prop :=
 let A := [xI x0, xI x1, xI x2, xI x3]; (rI (max (max x0 x1) (max x2 x3)) (Ff 1208 A).i (-9223372036854775808) 9223372036854775807)
theorem BrRL (x0 x1 x2 x3 : Int) : (ctrR (fun j => Ff j [xI x0, xI x1, xI x2, xI x3]) cBrR.fs cBrR.res { ρ0 with x := fun j => [xI x0, xI x1, xI x2, xI x3].getD j (xI 0) } (walkR Tryd.prog (cfG none [] [] [] sumL) Tryd.f24 400 cBrR.args)) = BrRP x0 x1 x2 x3 := by kernel_rfl
set_option maxHeartbeats 4000000 in
theorem BrRO (x0 x1 x2 x3 : Int) (g0 : -9223372036854775808 ≤ x0 ∧ x0 ≤ 9223372036854775807) (g1 : -9223372036854775808 ≤ x1 ∧ x1 ≤ 9223372036854775807) (g2 : -9223372036854775808 ≤ x2 ∧ x2 ≤ 9223372036854775807) (g3 : -9223372036854775808 ≤ x3 ∧ x3 ≤ 9223372036854775807) : BrRP x0 x1 x2 x3 := by
 unfold BrRP
 intro A
 exact ⟨rfl, by show _ ≤ max (max x0 x1) (max x2 x3); omega, by show max (max x0 x1) (max x2 x3) ≤ _; omega⟩
theorem kBrR : RCtrOk Tryd.prog ρ0 cBrR := by
 refine rctr_of (cf := cfG none [] [] [] sumL) (cfG_ok keep0 keepR0 noF) Tryd.func24 rfl 400 rfl fun ds hr => ?_
 have hr := rshX_flat hr
 match ds, hr with
 | [d0, d1, d2, d3], hr =>
  obtain ⟨⟨e0, l0, u0⟩, ⟨e1, l1, u1⟩, ⟨e2, l2, u2⟩, ⟨e3, l3, u3⟩, _⟩ := hr
  generalize d0.i = x0, d1.i = x1, d2.i = x2, d3.i = x3 at *
  subst e0 e1 e2 e3
  exact Eq.mpr (BrRL x0 x1 x2 x3) (BrRO x0 x1 x2 x3 ⟨l0, u0⟩ ⟨l1, u1⟩ ⟨l2, u2⟩ ⟨l3, u3⟩)
theorem nBrR : Hs cBrR.f := ⟨_, Tryd.func24, by kernel_rfl, by kernel_rfl⟩
def BrPP (x0 x1 x2 x3 : Int) : Prop :=
 let A := [xI x0, xI x1, xI x2, xI x3]; (rI (max (max (max x0 x1) x2) x3) (Ff 1208 A).i (-9223372036854775808) 9223372036854775807)
theorem BrPL (x0 x1 x2 x3 : Int) : (ctrR (fun j => Ff j [xI x0, xI x1, xI x2, xI x3]) cBrP.fs cBrP.res { ρ0 with x := fun j => [xI x0, xI x1, xI x2, xI x3].getD j (xI 0) } (walkR Tryd.prog (cfG none [] [] [] sumL) Tryd.f23 400 cBrP.args)) = BrPP x0 x1 x2 x3 := by kernel_rfl
set_option maxHeartbeats 4000000 in
theorem BrPO (x0 x1 x2 x3 : Int) (g0 : -9223372036854775808 ≤ x0 ∧ x0 ≤ 9223372036854775807) (g1 : -9223372036854775808 ≤ x1 ∧ x1 ≤ 9223372036854775807) (g2 : -9223372036854775808 ≤ x2 ∧ x2 ≤ 9223372036854775807) (g3 : -9223372036854775808 ≤ x3 ∧ x3 ≤ 9223372036854775807) : BrPP x0 x1 x2 x3 := by
 unfold BrPP
 intro A
 exact ⟨by show _ = max (max x0 x1) (max x2 x3); omega, by show _ ≤ max (max x0 x1) (max x2 x3); omega, by show max (max x0 x1) (max x2 x3) ≤ _; omega⟩
theorem kBrP : RCtrOk Tryd.prog ρ0 cBrP := by
 refine rctr_of (cf := cfG none [] [] [] sumL) (cfG_ok keep0 keepR0 noF) Tryd.func23 rfl 400 rfl fun ds hr => ?_
 have hr := rshX_flat hr
 match ds, hr with
 | [d0, d1, d2, d3], hr =>
  obtain ⟨⟨e0, l0, u0⟩, ⟨e1, l1, u1⟩, ⟨e2, l2, u2⟩, ⟨e3, l3, u3⟩, _⟩ := hr
  generalize d0.i = x0, d1.i = x1, d2.i = x2, d3.i = x3 at *
  subst e0 e1 e2 e3
  exact Eq.mpr (BrPL x0 x1 x2 x3) (BrPO x0 x1 x2 x3 ⟨l0, u0⟩ ⟨l1, u1⟩ ⟨l2, u2⟩ ⟨l3, u3⟩)
theorem nBrP : Hs cBrP.f := ⟨_, Tryd.func23, by kernel_rfl, by kernel_rfl⟩
end Vc
end Go.Proofs.YtelbilnnmmbmdaaDoor
