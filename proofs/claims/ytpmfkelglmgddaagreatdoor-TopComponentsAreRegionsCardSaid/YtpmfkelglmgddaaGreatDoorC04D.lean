/- Contracts of functions, each out of one walk. -/
import Derived.Test.YtpmfkelglmgddaaGreatDoorTcC
namespace Go.Proofs.YtpmfkelglmgddaaGreatDoor
namespace Vc
open Go Go.RowKit
set_option linter.unusedVariables false
def OR (x0 x1 x2 x3 x4 x5 x6 x7 x8 : Int) : Prop :=
 (((((((x3 ≤ x0) ∧ (x0 < x6)) ∧ (x4 ≤ x1)) ∧ (x1 < x7)) ∧ (x5 ≤ x2)) ∧ (x2 < x8)) ↔ (Ff 201 [xI x0, xI x1, xI x2, xI x3, xI x4, xI x5, xI x6, xI x7, xI x8]).b = true)
theorem Rr (x0 x1 x2 x3 x4 x5 x6 x7 x8 : Int) : ((kE Tryz.prog (pI []) Tryz.f93 3000 (so GH.args 0)).pK { ρ0 with x := fun j => [xI x0, xI x1, xI x2, xI x3, xI x4, xI x5, xI x6, xI x7, xI x8].getD j (xI 0) } (fun j => Ff j [xI x0, xI x1, xI x2, xI x3, xI x4, xI x5, xI x6, xI x7, xI x8]) GH.fs GH.res) = OR x0 x1 x2 x3 x4 x5 x6 x7 x8 := by kernel_rfl
set_option maxHeartbeats 1000000 in
theorem Rt (x0 x1 x2 x3 x4 x5 x6 x7 x8 : Int) (h0 : -1048576 ≤ x0 ∧ x0 ≤ 1048576) (h1 : -1048576 ≤ x1 ∧ x1 ≤ 1048576) (h2 : -1048576 ≤ x2 ∧ x2 ≤ 1048576) (h3 : -1048575 ≤ x3 ∧ x3 ≤ 1048575) (h4 : -1048575 ≤ x4 ∧ x4 ≤ 1048575) (h5 : -1048575 ≤ x5 ∧ x5 ≤ 1048575) (h6 : -1048575 ≤ x6 ∧ x6 ≤ 1048575) (h7 : -1048575 ≤ x7 ∧ x7 ≤ 1048575) (h8 : -1048575 ≤ x8 ∧ x8 ≤ 1048575) : OR x0 x1 x2 x3 x4 x5 x6 x7 x8 := by
 unfold OR
 rw [GC]
 show _ ↔ (decide (jS x0 x1 x2 x3 x4 x5 x6 x7 x8)) = true
 rw [decide_eq_true_eq]
 unfold jS
 omega
theorem QW : fZ Tryz.prog ρ0 GH := by
 refine gX (cf := pI []) (gh bt) Tryz.func93 rfl 3000 fun ds hr => ?_
 match ds, hr with
 | [d0, d1, d2, d3, d4, d5, d6, d7, d8], hr =>
  obtain ⟨⟨⟨e0, l0, u0⟩, ⟨e1, l1, u1⟩, ⟨e2, l2, u2⟩, _⟩, ⟨⟨e3, l3, u3⟩, ⟨e4, l4, u4⟩, ⟨e5, l5, u5⟩, ⟨e6, l6, u6⟩, ⟨e7, l7, u7⟩, ⟨e8, l8, u8⟩, _⟩, _⟩ := hr
  generalize d0.i = x0, d1.i = x1, d2.i = x2, d3.i = x3, d4.i = x4, d5.i = x5, d6.i = x6, d7.i = x7, d8.i = x8 at *
  subst e0 e1 e2 e3 e4 e5 e6 e7 e8
  exact Eq.mpr (Rr x0 x1 x2 x3 x4 x5 x6 x7 x8) (Rt x0 x1 x2 x3 x4 x5 x6 x7 x8 ⟨l0, u0⟩ ⟨l1, u1⟩ ⟨l2, u2⟩ ⟨l3, u3⟩ ⟨l4, u4⟩ ⟨l5, u5⟩ ⟨l6, u6⟩ ⟨l7, u7⟩ ⟨l8, u8⟩)
theorem QX : Hs GH.f := ⟨_, Tryz.func93, by kernel_rfl, by kernel_rfl⟩
def J0 (x0 x1 x2 x3 x4 x5 x6 x7 x8 : Int) : Prop :=
 (((((x3 ≤ x0) ∧ (x0 < x6)) ∧ ((x4 ≤ x1) ∧ (x1 < x7))) ∧ ((x5 ≤ x2) ∧ (x2 < x8))) ↔ (Ff 201 [xI x0, xI x1, xI x2, xI x3, xI x4, xI x5, xI x6, xI x7, xI x8]).b = true)
theorem OS (x0 x1 x2 x3 x4 x5 x6 x7 x8 : Int) : ((kE Tryz.prog (pI []) Tryz.f67 3000 (so ub.args 0)).pK { ρ0 with x := fun j => [xI x0, xI x1, xI x2, xI x3, xI x4, xI x5, xI x6, xI x7, xI x8].getD j (xI 0) } (fun j => Ff j [xI x0, xI x1, xI x2, xI x3, xI x4, xI x5, xI x6, xI x7, xI x8]) ub.fs ub.res) = J0 x0 x1 x2 x3 x4 x5 x6 x7 x8 := by kernel_rfl
set_option maxHeartbeats 1000000 in
theorem OT (x0 x1 x2 x3 x4 x5 x6 x7 x8 : Int) (h0 : -1048576 ≤ x0 ∧ x0 ≤ 1048576) (h1 : -1048576 ≤ x1 ∧ x1 ≤ 1048576) (h2 : -1048576 ≤ x2 ∧ x2 ≤ 1048576) (h3 : -1048575 ≤ x3 ∧ x3 ≤ 1048575) (h4 : -1048575 ≤ x4 ∧ x4 ≤ 1048575) (h5 : -1048575 ≤ x5 ∧ x5 ≤ 1048575) (h6 : -1048575 ≤ x6 ∧ x6 ≤ 1048575) (h7 : -1048575 ≤ x7 ∧ x7 ≤ 1048575) (h8 : -1048575 ≤ x8 ∧ x8 ≤ 1048575) : J0 x0 x1 x2 x3 x4 x5 x6 x7 x8 := by
 unfold J0
 rw [GC]
 show _ ↔ (decide (jS x0 x1 x2 x3 x4 x5 x6 x7 x8)) = true
 rw [decide_eq_true_eq]
 unfold jS
 omega
theorem MD : fZ Tryz.prog ρ0 ub := by
 refine gX (cf := pI []) (gh bt) Tryz.func67 rfl 3000 fun ds hr => ?_
 match ds, hr with
 | [d0, d1, d2, d3, d4, d5, d6, d7, d8], hr =>
  obtain ⟨⟨⟨e0, l0, u0⟩, ⟨e1, l1, u1⟩, ⟨e2, l2, u2⟩, _⟩, ⟨⟨e3, l3, u3⟩, ⟨e4, l4, u4⟩, ⟨e5, l5, u5⟩, ⟨e6, l6, u6⟩, ⟨e7, l7, u7⟩, ⟨e8, l8, u8⟩, _⟩, _⟩ := hr
  generalize d0.i = x0, d1.i = x1, d2.i = x2, d3.i = x3, d4.i = x4, d5.i = x5, d6.i = x6, d7.i = x7, d8.i = x8 at *
  subst e0 e1 e2 e3 e4 e5 e6 e7 e8
  exact Eq.mpr (OS x0 x1 x2 x3 x4 x5 x6 x7 x8) (OT x0 x1 x2 x3 x4 x5 x6 x7 x8 ⟨l0, u0⟩ ⟨l1, u1⟩ ⟨l2, u2⟩ ⟨l3, u3⟩ ⟨l4, u4⟩ ⟨l5, u5⟩ ⟨l6, u6⟩ ⟨l7, u7⟩ ⟨l8, u8⟩)
theorem ME : Hs ub.f := ⟨_, Tryz.func67, by kernel_rfl, by kernel_rfl⟩
def Dr (x0 x1 x2 x3 x4 x5 : Int) : Prop :=
 (
  ((¬ ((((((x0 ≤ x0) ∧ (x0 < x3)) ∧ (x1 ≤ x1)) ∧ (x1 < x4)) ∧ (x2 ≤ x2)) ∧ (x2 < x5))) →
   ((0 = (Ff 205 [xI x0, xI x1, xI x2, xI x3, xI x4, xI x5]).i ∧ 0 ≤ (Ff 205 [xI x0, xI x1, xI x2, xI x3, xI x4, xI x5]).i ∧ (Ff 205 [xI x0, xI x1, xI x2, xI x3, xI x4, xI x5]).i ≤ 2097150) ∧ ((0 = (Ff 206 [xI x0, xI x1, xI x2, xI x3, xI x4, xI x5]).i ∧ 0 ≤ (Ff 206 [xI x0, xI x1, xI x2, xI x3, xI x4, xI x5]).i ∧ (Ff 206 [xI x0, xI x1, xI x2, xI x3, xI x4, xI x5]).i ≤ 2097150) ∧ (0 = (Ff 207 [xI x0, xI x1, xI x2, xI x3, xI x4, xI x5]).i ∧ 0 ≤ (Ff 207 [xI x0, xI x1, xI x2, xI x3, xI x4, xI x5]).i ∧ (Ff 207 [xI x0, xI x1, xI x2, xI x3, xI x4, xI x5]).i ≤ 2097150))))
 ∧
  (((((((x0 ≤ x0) ∧ (x0 < x3)) ∧ (x1 ≤ x1)) ∧ (x1 < x4)) ∧ (x2 ≤ x2)) ∧ (x2 < x5)) →
   (((x3 + ((-1) * x0)) = (Ff 205 [xI x0, xI x1, xI x2, xI x3, xI x4, xI x5]).i ∧ 0 ≤ (Ff 205 [xI x0, xI x1, xI x2, xI x3, xI x4, xI x5]).i ∧ (Ff 205 [xI x0, xI x1, xI x2, xI x3, xI x4, xI x5]).i ≤ 2097150) ∧ (((x4 + ((-1) * x1)) = (Ff 206 [xI x0, xI x1, xI x2, xI x3, xI x4, xI x5]).i ∧ 0 ≤ (Ff 206 [xI x0, xI x1, xI x2, xI x3, xI x4, xI x5]).i ∧ (Ff 206 [xI x0, xI x1, xI x2, xI x3, xI x4, xI x5]).i ≤ 2097150) ∧ ((x5 + ((-1) * x2)) = (Ff 207 [xI x0, xI x1, xI x2, xI x3, xI x4, xI x5]).i ∧ 0 ≤ (Ff 207 [xI x0, xI x1, xI x2, xI x3, xI x4, xI x5]).i ∧ (Ff 207 [xI x0, xI x1, xI x2, xI x3, xI x4, xI x5]).i ≤ 2097150)))))
theorem MF (x0 x1 x2 x3 x4 x5 : Int) : ((kE Tryz.prog (pI []) Tryz.f90 3000 (so jj.args 0)).pK { ρ0 with x := fun j => [xI x0, xI x1, xI x2, xI x3, xI x4, xI x5].getD j (xI 0) } (fun j => Ff j [xI x0, xI x1, xI x2, xI x3, xI x4, xI x5]) jj.fs jj.res) = Dr x0 x1 x2 x3 x4 x5 := by kernel_rfl
set_option maxHeartbeats 1000000 in
theorem MG (x0 x1 x2 x3 x4 x5 : Int) (h0 : -1048575 ≤ x0 ∧ x0 ≤ 1048575) (h1 : -1048575 ≤ x1 ∧ x1 ≤ 1048575) (h2 : -1048575 ≤ x2 ∧ x2 ≤ 1048575) (h3 : -1048575 ≤ x3 ∧ x3 ≤ 1048575) (h4 : -1048575 ≤ x4 ∧ x4 ≤ 1048575) (h5 : -1048575 ≤ x5 ∧ x5 ≤ 1048575) : Dr x0 x1 x2 x3 x4 x5 := by
 unfold Dr
 simp only [yd, ye, GD, yf]
 unfold yc
 by_cases h : lK x0 x1 x2 x3 x4 x5
 ·simp only [if_pos h]
  unfold lK at h
  refine ⟨fun g => ?_, fun g => ?_⟩
  ·first | (exfalso; omega) | ((repeat' apply And.intro) <;> first | trivial | omega)
  ·first | (exfalso; omega) | ((repeat' apply And.intro) <;> first | trivial | omega)
 ·simp only [if_neg h]
  unfold lK at h
  refine ⟨fun g => ?_, fun g => ?_⟩
  ·first | (exfalso; omega) | ((repeat' apply And.intro) <;> first | trivial | omega)
  ·first | (exfalso; omega) | ((repeat' apply And.intro) <;> first | trivial | omega)
theorem Dt : fZ Tryz.prog ρ0 jj := by
 refine gX (cf := pI []) (gh bt) Tryz.func90 rfl 3000 fun ds hr => ?_
 match ds, hr with
 | [d0, d1, d2, d3, d4, d5], hr =>
  obtain ⟨⟨⟨e0, l0, u0⟩, ⟨e1, l1, u1⟩, ⟨e2, l2, u2⟩, ⟨e3, l3, u3⟩, ⟨e4, l4, u4⟩, ⟨e5, l5, u5⟩, _⟩, _⟩ := hr
  generalize d0.i = x0, d1.i = x1, d2.i = x2, d3.i = x3, d4.i = x4, d5.i = x5 at *
  subst e0 e1 e2 e3 e4 e5
  exact Eq.mpr (MF x0 x1 x2 x3 x4 x5) (MG x0 x1 x2 x3 x4 x5 ⟨l0, u0⟩ ⟨l1, u1⟩ ⟨l2, u2⟩ ⟨l3, u3⟩ ⟨l4, u4⟩ ⟨l5, u5⟩)
theorem Du : Hs jj.f := ⟨_, Tryz.func90, by kernel_rfl, by kernel_rfl⟩
def yg (x0 x1 x2 x3 x4 x5 : Int) : Prop :=
 (
  ((((x3 ≤ x0) ∨ (x4 ≤ x1)) ∨ (x5 ≤ x2)) →
   ((0 = (Ff 205 [xI x0, xI x1, xI x2, xI x3, xI x4, xI x5]).i ∧ 0 ≤ (Ff 205 [xI x0, xI x1, xI x2, xI x3, xI x4, xI x5]).i ∧ (Ff 205 [xI x0, xI x1, xI x2, xI x3, xI x4, xI x5]).i ≤ 2097150) ∧ ((0 = (Ff 206 [xI x0, xI x1, xI x2, xI x3, xI x4, xI x5]).i ∧ 0 ≤ (Ff 206 [xI x0, xI x1, xI x2, xI x3, xI x4, xI x5]).i ∧ (Ff 206 [xI x0, xI x1, xI x2, xI x3, xI x4, xI x5]).i ≤ 2097150) ∧ (0 = (Ff 207 [xI x0, xI x1, xI x2, xI x3, xI x4, xI x5]).i ∧ 0 ≤ (Ff 207 [xI x0, xI x1, xI x2, xI x3, xI x4, xI x5]).i ∧ (Ff 207 [xI x0, xI x1, xI x2, xI x3, xI x4, xI x5]).i ≤ 2097150))))
 ∧
  ((¬ (((x3 ≤ x0) ∨ (x4 ≤ x1)) ∨ (x5 ≤ x2))) →
   (((x3 - x0) = (Ff 205 [xI x0, xI x1, xI x2, xI x3, xI x4, xI x5]).i ∧ 0 ≤ (Ff 205 [xI x0, xI x1, xI x2, xI x3, xI x4, xI x5]).i ∧ (Ff 205 [xI x0, xI x1, xI x2, xI x3, xI x4, xI x5]).i ≤ 2097150) ∧ (((x4 - x1) = (Ff 206 [xI x0, xI x1, xI x2, xI x3, xI x4, xI x5]).i ∧ 0 ≤ (Ff 206 [xI x0, xI x1, xI x2, xI x3, xI x4, xI x5]).i ∧ (Ff 206 [xI x0, xI x1, xI x2, xI x3, xI x4, xI x5]).i ≤ 2097150) ∧ ((x5 - x2) = (Ff 207 [xI x0, xI x1, xI x2, xI x3, xI x4, xI x5]).i ∧ 0 ≤ (Ff 207 [xI x0, xI x1, xI x2, xI x3, xI x4, xI x5]).i ∧ (Ff 207 [xI x0, xI x1, xI x2, xI x3, xI x4, xI x5]).i ≤ 2097150)))))
theorem J1 (x0 x1 x2 x3 x4 x5 : Int) : ((kE Tryz.prog (pI []) Tryz.f63 3000 (so gY.args 0)).pK { ρ0 with x := fun j => [xI x0, xI x1, xI x2, xI x3, xI x4, xI x5].getD j (xI 0) } (fun j => Ff j [xI x0, xI x1, xI x2, xI x3, xI x4, xI x5]) gY.fs gY.res) = yg x0 x1 x2 x3 x4 x5 := by kernel_rfl
set_option maxHeartbeats 1000000 in
theorem J2 (x0 x1 x2 x3 x4 x5 : Int) (h0 : -1048575 ≤ x0 ∧ x0 ≤ 1048575) (h1 : -1048575 ≤ x1 ∧ x1 ≤ 1048575) (h2 : -1048575 ≤ x2 ∧ x2 ≤ 1048575) (h3 : -1048575 ≤ x3 ∧ x3 ≤ 1048575) (h4 : -1048575 ≤ x4 ∧ x4 ≤ 1048575) (h5 : -1048575 ≤ x5 ∧ x5 ≤ 1048575) : yg x0 x1 x2 x3 x4 x5 := by
 unfold yg
 simp only [yd, ye, GD, yf]
 unfold yc
 by_cases h : lK x0 x1 x2 x3 x4 x5
 ·simp only [if_pos h]
  unfold lK at h
  refine ⟨fun g => ?_, fun g => ?_⟩
  ·first | (exfalso; omega) | ((repeat' apply And.intro) <;> first | trivial | omega)
  ·first | (exfalso; omega) | ((repeat' apply And.intro) <;> first | trivial | omega)
 ·simp only [if_neg h]
  unfold lK at h
  refine ⟨fun g => ?_, fun g => ?_⟩
  ·first | (exfalso; omega) | ((repeat' apply And.intro) <;> first | trivial | omega)
  ·first | (exfalso; omega) | ((repeat' apply And.intro) <;> first | trivial | omega)
theorem Dv : fZ Tryz.prog ρ0 gY := by
 refine gX (cf := pI []) (gh bt) Tryz.func63 rfl 3000 fun ds hr => ?_
 match ds, hr with
 | [d0, d1, d2, d3, d4, d5], hr =>
  obtain ⟨⟨⟨e0, l0, u0⟩, ⟨e1, l1, u1⟩, ⟨e2, l2, u2⟩, ⟨e3, l3, u3⟩, ⟨e4, l4, u4⟩, ⟨e5, l5, u5⟩, _⟩, _⟩ := hr
  generalize d0.i = x0, d1.i = x1, d2.i = x2, d3.i = x3, d4.i = x4, d5.i = x5 at *
  subst e0 e1 e2 e3 e4 e5
  exact Eq.mpr (J1 x0 x1 x2 x3 x4 x5) (J2 x0 x1 x2 x3 x4 x5 ⟨l0, u0⟩ ⟨l1, u1⟩ ⟨l2, u2⟩ ⟨l3, u3⟩ ⟨l4, u4⟩ ⟨l5, u5⟩)
theorem Dw : Hs gY.f := ⟨_, Tryz.func63, by kernel_rfl, by kernel_rfl⟩
end Vc
end Go.Proofs.YtpmfkelglmgddaaGreatDoor
