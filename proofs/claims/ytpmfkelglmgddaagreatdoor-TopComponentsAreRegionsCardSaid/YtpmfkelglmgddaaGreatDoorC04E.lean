/- Contracts of functions, each out of one walk. -/
import Derived.Test.YtpmfkelglmgddaaGreatDoorTcC
import Derived.Test.YtpmfkelglmgddaaGreatDoorC04D
namespace Go.Proofs.YtpmfkelglmgddaaGreatDoor
namespace Vc
open Go Go.RowKit
set_option linter.unusedVariables false
def J3 (x0 x1 x2 x3 x4 x5 : Int) : Prop :=
 ((((Ff 205 [xI x0, xI x1, xI x2, xI x3, xI x4, xI x5]).i * (Ff 206 [xI x0, xI x1, xI x2, xI x3, xI x4, xI x5]).i) * (Ff 207 [xI x0, xI x1, xI x2, xI x3, xI x4, xI x5]).i) = (Ff 210 [xI x0, xI x1, xI x2, xI x3, xI x4, xI x5]).i ∧ 0 ≤ (Ff 210 [xI x0, xI x1, xI x2, xI x3, xI x4, xI x5]).i ∧ (Ff 210 [xI x0, xI x1, xI x2, xI x3, xI x4, xI x5]).i ≤ 9223345648600875000)
theorem OU (x0 x1 x2 x3 x4 x5 : Int) : ((kE Tryz.prog (pI [jj]) Tryz.f89 3000 (so yh.args 0)).pK { ρ0 with x := fun j => [xI x0, xI x1, xI x2, xI x3, xI x4, xI x5].getD j (xI 0) } (fun j => Ff j [xI x0, xI x1, xI x2, xI x3, xI x4, xI x5]) yh.fs yh.res) = J3 x0 x1 x2 x3 x4 x5 := by kernel_rfl
set_option maxHeartbeats 1000000 in
theorem OV (x0 x1 x2 x3 x4 x5 : Int) (h0 : -1048575 ≤ x0 ∧ x0 ≤ 1048575) (h1 : -1048575 ≤ x1 ∧ x1 ≤ 1048575) (h2 : -1048575 ≤ x2 ∧ x2 ≤ 1048575) (h3 : -1048575 ≤ x3 ∧ x3 ≤ 1048575) (h4 : -1048575 ≤ x4 ∧ x4 ≤ 1048575) (h5 : -1048575 ≤ x5 ∧ x5 ≤ 1048575) : J3 x0 x1 x2 x3 x4 x5 := by
 unfold J3
 simp only [yd, ye, GD, JW, yf]
 try simp only [Int.add_zero]
 have hv := tZ h0 h1 h2 h3 h4 h5
 refine ⟨?_, hv⟩
 exact zS x0 x1 x2 x3 x4 x5
theorem OW : fZ Tryz.prog ρ0 yh := by
 refine gX (cf := pI [jj]) (gh (bt.cons Dt Du)) Tryz.func89 rfl 3000 fun ds hr => ?_
 match ds, hr with
 | [d0, d1, d2, d3, d4, d5], hr =>
  obtain ⟨⟨⟨e0, l0, u0⟩, ⟨e1, l1, u1⟩, ⟨e2, l2, u2⟩, ⟨e3, l3, u3⟩, ⟨e4, l4, u4⟩, ⟨e5, l5, u5⟩, _⟩, _⟩ := hr
  generalize d0.i = x0, d1.i = x1, d2.i = x2, d3.i = x3, d4.i = x4, d5.i = x5 at *
  subst e0 e1 e2 e3 e4 e5
  exact Eq.mpr (OU x0 x1 x2 x3 x4 x5) (OV x0 x1 x2 x3 x4 x5 ⟨l0, u0⟩ ⟨l1, u1⟩ ⟨l2, u2⟩ ⟨l3, u3⟩ ⟨l4, u4⟩ ⟨l5, u5⟩)
theorem OX : Hs yh.f := ⟨_, Tryz.func89, by kernel_rfl, by kernel_rfl⟩
def Dx (x0 x1 x2 x3 x4 x5 : Int) : Prop :=
 ((((Ff 205 [xI x0, xI x1, xI x2, xI x3, xI x4, xI x5]).i * (Ff 206 [xI x0, xI x1, xI x2, xI x3, xI x4, xI x5]).i) * (Ff 207 [xI x0, xI x1, xI x2, xI x3, xI x4, xI x5]).i) = (Ff 210 [xI x0, xI x1, xI x2, xI x3, xI x4, xI x5]).i ∧ 0 ≤ (Ff 210 [xI x0, xI x1, xI x2, xI x3, xI x4, xI x5]).i ∧ (Ff 210 [xI x0, xI x1, xI x2, xI x3, xI x4, xI x5]).i ≤ 9223345648600875000)
theorem MH (x0 x1 x2 x3 x4 x5 : Int) : ((kE Tryz.prog (pI [gY]) Tryz.f39 3000 (so pM.args 0)).pK { ρ0 with x := fun j => [xI x0, xI x1, xI x2, xI x3, xI x4, xI x5].getD j (xI 0) } (fun j => Ff j [xI x0, xI x1, xI x2, xI x3, xI x4, xI x5]) pM.fs pM.res) = Dx x0 x1 x2 x3 x4 x5 := by kernel_rfl
set_option maxHeartbeats 1000000 in
theorem MI (x0 x1 x2 x3 x4 x5 : Int) (h0 : -1048575 ≤ x0 ∧ x0 ≤ 1048575) (h1 : -1048575 ≤ x1 ∧ x1 ≤ 1048575) (h2 : -1048575 ≤ x2 ∧ x2 ≤ 1048575) (h3 : -1048575 ≤ x3 ∧ x3 ≤ 1048575) (h4 : -1048575 ≤ x4 ∧ x4 ≤ 1048575) (h5 : -1048575 ≤ x5 ∧ x5 ≤ 1048575) : Dx x0 x1 x2 x3 x4 x5 := by
 unfold Dx
 simp only [yd, ye, GD, JW, yf]
 try simp only [Int.add_zero]
 have hv := tZ h0 h1 h2 h3 h4 h5
 refine ⟨?_, hv⟩
 exact zS x0 x1 x2 x3 x4 x5
theorem MJ : fZ Tryz.prog ρ0 pM := by
 refine gX (cf := pI [gY]) (gh (bt.cons Dv Dw)) Tryz.func39 rfl 3000 fun ds hr => ?_
 match ds, hr with
 | [d0, d1, d2, d3, d4, d5], hr =>
  obtain ⟨⟨⟨e0, l0, u0⟩, ⟨e1, l1, u1⟩, ⟨e2, l2, u2⟩, ⟨e3, l3, u3⟩, ⟨e4, l4, u4⟩, ⟨e5, l5, u5⟩, _⟩, _⟩ := hr
  generalize d0.i = x0, d1.i = x1, d2.i = x2, d3.i = x3, d4.i = x4, d5.i = x5 at *
  subst e0 e1 e2 e3 e4 e5
  exact Eq.mpr (MH x0 x1 x2 x3 x4 x5) (MI x0 x1 x2 x3 x4 x5 ⟨l0, u0⟩ ⟨l1, u1⟩ ⟨l2, u2⟩ ⟨l3, u3⟩ ⟨l4, u4⟩ ⟨l5, u5⟩)
theorem MK : Hs pM.f := ⟨_, Tryz.func39, by kernel_rfl, by kernel_rfl⟩
def yi (x0 x1 x2 x3 x4 x5 x6 x7 x8 : Int) : Prop :=
 (
  ((¬ ((Ff 201 [xI x6, xI x7, xI x8, xI x0, xI x1, xI x2, xI x3, xI x4, xI x5]).b = true)) →
   ((-1) = (Ff 260 [xI x0, xI x1, xI x2, xI x3, xI x4, xI x5, xI x6, xI x7, xI x8]).i ∧ -1 ≤ (Ff 260 [xI x0, xI x1, xI x2, xI x3, xI x4, xI x5, xI x6, xI x7, xI x8]).i ∧ (Ff 260 [xI x0, xI x1, xI x2, xI x3, xI x4, xI x5, xI x6, xI x7, xI x8]).i ≤ 9223345648600874999))
 ∧
  (((Ff 201 [xI x6, xI x7, xI x8, xI x0, xI x1, xI x2, xI x3, xI x4, xI x5]).b = true) →
   ((((((x8 + ((-1) * x2)) * (Ff 206 [xI x0, xI x1, xI x2, xI x3, xI x4, xI x5]).i) + (x7 + ((-1) * x1))) * (Ff 205 [xI x0, xI x1, xI x2, xI x3, xI x4, xI x5]).i) + (x6 + ((-1) * x0))) = (Ff 260 [xI x0, xI x1, xI x2, xI x3, xI x4, xI x5, xI x6, xI x7, xI x8]).i ∧ -1 ≤ (Ff 260 [xI x0, xI x1, xI x2, xI x3, xI x4, xI x5, xI x6, xI x7, xI x8]).i ∧ (Ff 260 [xI x0, xI x1, xI x2, xI x3, xI x4, xI x5, xI x6, xI x7, xI x8]).i ≤ 9223345648600874999)))
theorem J4 (x0 x1 x2 x3 x4 x5 x6 x7 x8 : Int) : ((kE Tryz.prog (pI [GH, jj]) Tryz.f73 3000 (so kP.args 0)).pK { ρ0 with x := fun j => [xI x0, xI x1, xI x2, xI x3, xI x4, xI x5, xI x6, xI x7, xI x8].getD j (xI 0) } (fun j => Ff j [xI x0, xI x1, xI x2, xI x3, xI x4, xI x5, xI x6, xI x7, xI x8]) kP.fs kP.res) = yi x0 x1 x2 x3 x4 x5 x6 x7 x8 := by kernel_rfl
set_option maxHeartbeats 1000000 in
theorem J5 (x0 x1 x2 x3 x4 x5 x6 x7 x8 : Int) (h0 : -1048575 ≤ x0 ∧ x0 ≤ 1048575) (h1 : -1048575 ≤ x1 ∧ x1 ≤ 1048575) (h2 : -1048575 ≤ x2 ∧ x2 ≤ 1048575) (h3 : -1048575 ≤ x3 ∧ x3 ≤ 1048575) (h4 : -1048575 ≤ x4 ∧ x4 ≤ 1048575) (h5 : -1048575 ≤ x5 ∧ x5 ≤ 1048575) (h6 : -1048576 ≤ x6 ∧ x6 ≤ 1048576) (h7 : -1048576 ≤ x7 ∧ x7 ≤ 1048576) (h8 : -1048576 ≤ x8 ∧ x8 ≤ 1048576) : yi x0 x1 x2 x3 x4 x5 x6 x7 x8 := by
 unfold yi
 simp only [GC, yd, ye, MC, yf, J6]
 try simp only [Int.add_zero]
 by_cases p : jS x6 x7 x8 x0 x1 x2 x3 x4 x5
 ·have ne := ua p
  have r := zU h0 h1 h2 h3 h4 h5 p
  simp only [p, decide_true, yc, if_pos ne]
  unfold sP at r ⊢
  simp only [if_pos p] at r ⊢
  refine ⟨fun h => absurd trivial h, fun _ => ⟨?_, by omega, by omega⟩⟩
  have e1 : x8 + -1 * x2 = x8 - x2 := by omega
  have e2 : x7 + -1 * x1 = x7 - x1 := by omega
  rw [e1, e2]; omega
 ·simp [p, sP]
theorem J7 : fZ Tryz.prog ρ0 kP := by
 refine gX (cf := pI [GH, jj]) (gh ((bt.cons Dt Du).cons QW QX)) Tryz.func73 rfl 3000 fun ds hr => ?_
 match ds, hr with
 | [d0, d1, d2, d3, d4, d5, d6, d7, d8], hr =>
  obtain ⟨⟨⟨e0, l0, u0⟩, ⟨e1, l1, u1⟩, ⟨e2, l2, u2⟩, ⟨e3, l3, u3⟩, ⟨e4, l4, u4⟩, ⟨e5, l5, u5⟩, _⟩, ⟨⟨e6, l6, u6⟩, ⟨e7, l7, u7⟩, ⟨e8, l8, u8⟩, _⟩, _⟩ := hr
  generalize d0.i = x0, d1.i = x1, d2.i = x2, d3.i = x3, d4.i = x4, d5.i = x5, d6.i = x6, d7.i = x7, d8.i = x8 at *
  subst e0 e1 e2 e3 e4 e5 e6 e7 e8
  exact Eq.mpr (J4 x0 x1 x2 x3 x4 x5 x6 x7 x8) (J5 x0 x1 x2 x3 x4 x5 x6 x7 x8 ⟨l0, u0⟩ ⟨l1, u1⟩ ⟨l2, u2⟩ ⟨l3, u3⟩ ⟨l4, u4⟩ ⟨l5, u5⟩ ⟨l6, u6⟩ ⟨l7, u7⟩ ⟨l8, u8⟩)
theorem J8 : Hs kP.f := ⟨_, Tryz.func73, by kernel_rfl, by kernel_rfl⟩
def uc (x0 x1 x2 x3 x4 x5 x6 x7 x8 : Int) : Prop :=
 (
  ((¬ ((Ff 201 [xI x6, xI x7, xI x8, xI x0, xI x1, xI x2, xI x3, xI x4, xI x5]).b = true)) →
   ((-1) = (Ff 260 [xI x0, xI x1, xI x2, xI x3, xI x4, xI x5, xI x6, xI x7, xI x8]).i ∧ -1 ≤ (Ff 260 [xI x0, xI x1, xI x2, xI x3, xI x4, xI x5, xI x6, xI x7, xI x8]).i ∧ (Ff 260 [xI x0, xI x1, xI x2, xI x3, xI x4, xI x5, xI x6, xI x7, xI x8]).i ≤ 9223345648600874999))
 ∧
  (((Ff 201 [xI x6, xI x7, xI x8, xI x0, xI x1, xI x2, xI x3, xI x4, xI x5]).b = true) →
   (((x6 - x0) + ((Ff 205 [xI x0, xI x1, xI x2, xI x3, xI x4, xI x5]).i * ((x7 - x1) + ((Ff 206 [xI x0, xI x1, xI x2, xI x3, xI x4, xI x5]).i * (x8 - x2))))) = (Ff 260 [xI x0, xI x1, xI x2, xI x3, xI x4, xI x5, xI x6, xI x7, xI x8]).i ∧ -1 ≤ (Ff 260 [xI x0, xI x1, xI x2, xI x3, xI x4, xI x5, xI x6, xI x7, xI x8]).i ∧ (Ff 260 [xI x0, xI x1, xI x2, xI x3, xI x4, xI x5, xI x6, xI x7, xI x8]).i ≤ 9223345648600874999)))
theorem GI (x0 x1 x2 x3 x4 x5 x6 x7 x8 : Int) : ((kE Tryz.prog (pI [ub, gY]) Tryz.f42 3000 (so gZ.args 0)).pK { ρ0 with x := fun j => [xI x0, xI x1, xI x2, xI x3, xI x4, xI x5, xI x6, xI x7, xI x8].getD j (xI 0) } (fun j => Ff j [xI x0, xI x1, xI x2, xI x3, xI x4, xI x5, xI x6, xI x7, xI x8]) gZ.fs gZ.res) = uc x0 x1 x2 x3 x4 x5 x6 x7 x8 := by kernel_rfl
set_option maxHeartbeats 1000000 in
theorem GJ (x0 x1 x2 x3 x4 x5 x6 x7 x8 : Int) (h0 : -1048575 ≤ x0 ∧ x0 ≤ 1048575) (h1 : -1048575 ≤ x1 ∧ x1 ≤ 1048575) (h2 : -1048575 ≤ x2 ∧ x2 ≤ 1048575) (h3 : -1048575 ≤ x3 ∧ x3 ≤ 1048575) (h4 : -1048575 ≤ x4 ∧ x4 ≤ 1048575) (h5 : -1048575 ≤ x5 ∧ x5 ≤ 1048575) (h6 : -1048576 ≤ x6 ∧ x6 ≤ 1048576) (h7 : -1048576 ≤ x7 ∧ x7 ≤ 1048576) (h8 : -1048576 ≤ x8 ∧ x8 ≤ 1048576) : uc x0 x1 x2 x3 x4 x5 x6 x7 x8 := by
 unfold uc
 simp only [GC, yd, ye, MC, yf, J6]
 try simp only [Int.add_zero]
 by_cases p : jS x6 x7 x8 x0 x1 x2 x3 x4 x5
 ·have ne := ua p
  have r := zU h0 h1 h2 h3 h4 h5 p
  simp only [p, decide_true, yc, if_pos ne]
  unfold sP at r ⊢
  simp only [if_pos p] at r ⊢
  refine ⟨fun h => absurd trivial h, fun _ => ⟨?_, by omega, by omega⟩⟩
  rw [Int.mul_comm (x3 - x0), Int.mul_comm (x4 - x1), Int.add_comm (x7 - x1)]; omega
 ·simp [p, sP]
theorem GK : fZ Tryz.prog ρ0 gZ := by
 refine gX (cf := pI [ub, gY]) (gh ((bt.cons Dv Dw).cons MD ME)) Tryz.func42 rfl 3000 fun ds hr => ?_
 match ds, hr with
 | [d0, d1, d2, d3, d4, d5, d6, d7, d8], hr =>
  obtain ⟨⟨⟨e0, l0, u0⟩, ⟨e1, l1, u1⟩, ⟨e2, l2, u2⟩, ⟨e3, l3, u3⟩, ⟨e4, l4, u4⟩, ⟨e5, l5, u5⟩, _⟩, ⟨⟨e6, l6, u6⟩, ⟨e7, l7, u7⟩, ⟨e8, l8, u8⟩, _⟩, _⟩ := hr
  generalize d0.i = x0, d1.i = x1, d2.i = x2, d3.i = x3, d4.i = x4, d5.i = x5, d6.i = x6, d7.i = x7, d8.i = x8 at *
  subst e0 e1 e2 e3 e4 e5 e6 e7 e8
  exact Eq.mpr (GI x0 x1 x2 x3 x4 x5 x6 x7 x8) (GJ x0 x1 x2 x3 x4 x5 x6 x7 x8 ⟨l0, u0⟩ ⟨l1, u1⟩ ⟨l2, u2⟩ ⟨l3, u3⟩ ⟨l4, u4⟩ ⟨l5, u5⟩ ⟨l6, u6⟩ ⟨l7, u7⟩ ⟨l8, u8⟩)
theorem GM : Hs gZ.f := ⟨_, Tryz.func42, by kernel_rfl, by kernel_rfl⟩
def OY (x0 x1 x2 x3 x4 x5 x6 : Int) : Prop :=
 (
  (((x6 < 0) ∨ ((Ff 210 [xI x0, xI x1, xI x2, xI x3, xI x4, xI x5]).i ≤ x6)) →
   (((0 = (Ff 270 [xI x0, xI x1, xI x2, xI x3, xI x4, xI x5, xI x6]).i ∧ -1048575 ≤ (Ff 270 [xI x0, xI x1, xI x2, xI x3, xI x4, xI x5, xI x6]).i ∧ (Ff 270 [xI x0, xI x1, xI x2, xI x3, xI x4, xI x5, xI x6]).i ≤ 1048575) ∧ ((0 = (Ff 271 [xI x0, xI x1, xI x2, xI x3, xI x4, xI x5, xI x6]).i ∧ -1048575 ≤ (Ff 271 [xI x0, xI x1, xI x2, xI x3, xI x4, xI x5, xI x6]).i ∧ (Ff 271 [xI x0, xI x1, xI x2, xI x3, xI x4, xI x5, xI x6]).i ≤ 1048575) ∧ (0 = (Ff 272 [xI x0, xI x1, xI x2, xI x3, xI x4, xI x5, xI x6]).i ∧ -1048575 ≤ (Ff 272 [xI x0, xI x1, xI x2, xI x3, xI x4, xI x5, xI x6]).i ∧ (Ff 272 [xI x0, xI x1, xI x2, xI x3, xI x4, xI x5, xI x6]).i ≤ 1048575))) ∧ (((false = true) ↔ (Ff 273 [xI x0, xI x1, xI x2, xI x3, xI x4, xI x5, xI x6]).b = true) ∧ True)))
 ∧
  ((¬ ((x6 < 0) ∨ ((Ff 210 [xI x0, xI x1, xI x2, xI x3, xI x4, xI x5]).i ≤ x6))) →
   (
    (0 < (Ff 205 [xI x0, xI x1, xI x2, xI x3, xI x4, xI x5]).i)
   ∧
    (
     (0 < (Ff 206 [xI x0, xI x1, xI x2, xI x3, xI x4, xI x5]).i)
    ∧
     (
      (0 < (Ff 206 [xI x0, xI x1, xI x2, xI x3, xI x4, xI x5]).i)
     ∧
      (
       (0 < (Ff 205 [xI x0, xI x1, xI x2, xI x3, xI x4, xI x5]).i)
      ∧
       ((((x0 + (x6 % (Ff 205 [xI x0, xI x1, xI x2, xI x3, xI x4, xI x5]).i)) = (Ff 270 [xI x0, xI x1, xI x2, xI x3, xI x4, xI x5, xI x6]).i ∧ -1048575 ≤ (Ff 270 [xI x0, xI x1, xI x2, xI x3, xI x4, xI x5, xI x6]).i ∧ (Ff 270 [xI x0, xI x1, xI x2, xI x3, xI x4, xI x5, xI x6]).i ≤ 1048575) ∧ (((x1 + ((x6 / (Ff 205 [xI x0, xI x1, xI x2, xI x3, xI x4, xI x5]).i) % (Ff 206 [xI x0, xI x1, xI x2, xI x3, xI x4, xI x5]).i)) = (Ff 271 [xI x0, xI x1, xI x2, xI x3, xI x4, xI x5, xI x6]).i ∧ -1048575 ≤ (Ff 271 [xI x0, xI x1, xI x2, xI x3, xI x4, xI x5, xI x6]).i ∧ (Ff 271 [xI x0, xI x1, xI x2, xI x3, xI x4, xI x5, xI x6]).i ≤ 1048575) ∧ ((IntKind.wrap Go.IntKind.i64 (x2 + ((x6 / (Ff 205 [xI x0, xI x1, xI x2, xI x3, xI x4, xI x5]).i) / (Ff 206 [xI x0, xI x1, xI x2, xI x3, xI x4, xI x5]).i))) = (Ff 272 [xI x0, xI x1, xI x2, xI x3, xI x4, xI x5, xI x6]).i ∧ -1048575 ≤ (Ff 272 [xI x0, xI x1, xI x2, xI x3, xI x4, xI x5, xI x6]).i ∧ (Ff 272 [xI x0, xI x1, xI x2, xI x3, xI x4, xI x5, xI x6]).i ≤ 1048575))) ∧ (((true = true) ↔ (Ff 273 [xI x0, xI x1, xI x2, xI x3, xI x4, xI x5, xI x6]).b = true) ∧ True))))))))
theorem Ru (x0 x1 x2 x3 x4 x5 x6 : Int) : ((kE Tryz.prog (pI [yh, jj]) Tryz.f69 3000 (so J9.args 0)).pK { ρ0 with x := fun j => [xI x0, xI x1, xI x2, xI x3, xI x4, xI x5, xI x6].getD j (xI 0) } (fun j => Ff j [xI x0, xI x1, xI x2, xI x3, xI x4, xI x5, xI x6]) J9.fs J9.res) = OY x0 x1 x2 x3 x4 x5 x6 := by kernel_rfl
set_option maxHeartbeats 1000000 in
theorem Rv (x0 x1 x2 x3 x4 x5 x6 : Int) (h0 : -1048575 ≤ x0 ∧ x0 ≤ 1048575) (h1 : -1048575 ≤ x1 ∧ x1 ≤ 1048575) (h2 : -1048575 ≤ x2 ∧ x2 ≤ 1048575) (h3 : -1048575 ≤ x3 ∧ x3 ≤ 1048575) (h4 : -1048575 ≤ x4 ∧ x4 ≤ 1048575) (h5 : -1048575 ≤ x5 ∧ x5 ≤ 1048575) (h6 : -9223372036854775808 ≤ x6 ∧ x6 ≤ 9223372036854775807) : OY x0 x1 x2 x3 x4 x5 x6 := by
 unfold OY
 simp only [yd, ye, JW, OI, OJ, OK, OL, yf, J6]
 try simp only [Int.add_zero]
 by_cases p : okB x0 x1 x2 x3 x4 x5 x6
 ·have ne := Dn p
  have r := JY h0 h1 h2 h3 h4 h5 p
  simp only [yc, if_pos ne, JT, JU, JV, if_pos p]
  have p' := p
  unfold okB at p'
  unfold jS at r
  unfold lK at ne
  refine ⟨fun h => absurd h (by omega), fun _ => ?_⟩
  have w : IntKind.i64.wrap (x2 + x6 / (x3 - x0) / (x4 - x1)) = x2 + x6 / (x3 - x0) / (x4 - x1) := ed (by simp only [hD, hU]; omega)
  rw [w]
  simp [p]
  omega
 ·simp [p, JT, JU, JV]
  unfold okB at p
  omega
theorem Rw : fZ Tryz.prog ρ0 J9 := by
 refine gX (cf := pI [yh, jj]) (gh ((bt.cons Dt Du).cons OW OX)) Tryz.func69 rfl 3000 fun ds hr => ?_
 match ds, hr with
 | [d0, d1, d2, d3, d4, d5, d6], hr =>
  obtain ⟨⟨⟨e0, l0, u0⟩, ⟨e1, l1, u1⟩, ⟨e2, l2, u2⟩, ⟨e3, l3, u3⟩, ⟨e4, l4, u4⟩, ⟨e5, l5, u5⟩, _⟩, ⟨⟨e6, l6, u6⟩, _⟩, _⟩ := hr
  generalize d0.i = x0, d1.i = x1, d2.i = x2, d3.i = x3, d4.i = x4, d5.i = x5, d6.i = x6 at *
  subst e0 e1 e2 e3 e4 e5 e6
  exact Eq.mpr (Ru x0 x1 x2 x3 x4 x5 x6) (Rv x0 x1 x2 x3 x4 x5 x6 ⟨l0, u0⟩ ⟨l1, u1⟩ ⟨l2, u2⟩ ⟨l3, u3⟩ ⟨l4, u4⟩ ⟨l5, u5⟩ ⟨l6, u6⟩)
theorem Rx : Hs J9.f := ⟨_, Tryz.func69, by kernel_rfl, by kernel_rfl⟩
end Vc
end Go.Proofs.YtpmfkelglmgddaaGreatDoor
