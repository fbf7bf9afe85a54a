/- Contracts of functions, each out of one walk. -/
import Derived.Test.YtleapeclbkclaaaGreatDoorC07Ha
import Derived.Test.YtleapeclbkclaaaGreatDoorC07R
import Derived.Test.YtleapeclbkclaaaGreatDoorC07S
import Derived.Test.YtleapeclbkclaaaGreatDoorC07T
import Derived.Test.YtleapeclbkclaaaGreatDoorC04D
import Derived.Test.YtleapeclbkclaaaGreatDoorC04E
import Derived.Test.YtleapeclbkclaaaGreatDoorC04L
import Derived.Test.YtleapeclbkclaaaGreatDoorC04V
namespace Go.Proofs.YtleapeclbkclaaaGreatDoor
namespace Vc
open Go Go.RowKit
set_option linter.unusedVariables false

/-- What is left of the contract of voxelref07.Fill. -/
def FilRP (x0 : Int) (x1 : Int) (x2 : Int) (x3 : Int) (x4 : Int) (x5 : Int) (x6 : X) (x7 : Int) (x8 : Int) (x9 : Int) (x10 : Int) (x11 : Int) (x12 : Int) (x13 : Int) : Prop :=
(Px 985 [(xI x0), (xI x1), (xI x2), (xI x3), (xI x4), (xI x5), x6, (xI x7), (xI x8), (xI x9), (xI x10), (xI x11), (xI x12), (xI x13), (xI 0), x6] ∧
(∀ x20 : X, (∀ x21 : X, (((0 ≤ x20.i) ∧ (x20.i ≤ 2097152)) →
((0 ≤ x21.i ∧ x21.i ≤ 2097152 ∧ RowOk SMat x21.r (x21.i).toNat) →
(Px 985 [(xI x0), (xI x1), (xI x2), (xI x3), (xI x4), (xI x5), x6, (xI x7), (xI x8), (xI x9), (xI x10), (xI x11), (xI x12), (xI x13), x20, x21] →
(((x20.i < x6.i) →
(let v6 : X := Ff 270 [(xI x0), (xI x1), (xI x2), (xI x3), (xI x4), (xI x5), (xI x20.i)]; let v7 : X := Ff 271 [(xI x0), (xI x1), (xI x2), (xI x3), (xI x4), (xI x5), (xI x20.i)]; let v8 : X := Ff 272 [(xI x0), (xI x1), (xI x2), (xI x3), (xI x4), (xI x5), (xI x20.i)]; let v9 : X := Ff 201 [(xI v6.i), (xI v7.i), (xI v8.i), (xI x7), (xI x8), (xI x9), (xI x10), (xI x11), (xI x12)]; (((v9.b = true) →
((x20.i < x21.i) ∧
(Px 985 [(xI x0), (xI x1), (xI x2), (xI x3), (xI x4), (xI x5), x6, (xI x7), (xI x8), (xI x9), (xI x10), (xI x11), (xI x12), (xI x13), (xI (x20.i + 1)), (mkX (rwSet x21.r x20.i 0 (xI x13)) x21.i)] ∧
(((Ff 985 [(xI x0), (xI x1), (xI x2), (xI x3), (xI x4), (xI x5), x6, (xI x7), (xI x8), (xI x9), (xI x10), (xI x11), (xI x12), (xI x13), (xI (x20.i + 1)), (mkX (rwSet x21.r x20.i 0 (xI x13)) x21.i)]).i < (Ff 985 [(xI x0), (xI x1), (xI x2), (xI x3), (xI x4), (xI x5), x6, (xI x7), (xI x8), (xI x9), (xI x10), (xI x11), (xI x12), (xI x13), x20, x21]).i) ∧
(0 < (Ff 985 [(xI x0), (xI x1), (xI x2), (xI x3), (xI x4), (xI x5), x6, (xI x7), (xI x8), (xI x9), (xI x10), (xI x11), (xI x12), (xI x13), x20, x21]).i))))) ∧
((¬ (v9.b = true)) →
(Px 985 [(xI x0), (xI x1), (xI x2), (xI x3), (xI x4), (xI x5), x6, (xI x7), (xI x8), (xI x9), (xI x10), (xI x11), (xI x12), (xI x13), (xI (x20.i + 1)), x21] ∧
(((Ff 985 [(xI x0), (xI x1), (xI x2), (xI x3), (xI x4), (xI x5), x6, (xI x7), (xI x8), (xI x9), (xI x10), (xI x11), (xI x12), (xI x13), (xI (x20.i + 1)), x21]).i < (Ff 985 [(xI x0), (xI x1), (xI x2), (xI x3), (xI x4), (xI x5), x6, (xI x7), (xI x8), (xI x9), (xI x10), (xI x11), (xI x12), (xI x13), x20, x21]).i) ∧
(0 < (Ff 985 [(xI x0), (xI x1), (xI x2), (xI x3), (xI x4), (xI x5), x6, (xI x7), (xI x8), (xI x9), (xI x10), (xI x11), (xI x12), (xI x13), x20, x21]).i))))))) ∧
((¬ (x20.i < x6.i)) →
((x0 = (Ff 920 [xI x0, xI x1, xI x2, xI x3, xI x4, xI x5, x6, xI x7, xI x8, xI x9, xI x10, xI x11, xI x12, xI x13]).i ∧ -1048575 ≤ (Ff 920 [xI x0, xI x1, xI x2, xI x3, xI x4, xI x5, x6, xI x7, xI x8, xI x9, xI x10, xI x11, xI x12, xI x13]).i ∧ (Ff 920 [xI x0, xI x1, xI x2, xI x3, xI x4, xI x5, x6, xI x7, xI x8, xI x9, xI x10, xI x11, xI x12, xI x13]).i ≤ 1048575) ∧ ((x1 = (Ff 921 [xI x0, xI x1, xI x2, xI x3, xI x4, xI x5, x6, xI x7, xI x8, xI x9, xI x10, xI x11, xI x12, xI x13]).i ∧ -1048575 ≤ (Ff 921 [xI x0, xI x1, xI x2, xI x3, xI x4, xI x5, x6, xI x7, xI x8, xI x9, xI x10, xI x11, xI x12, xI x13]).i ∧ (Ff 921 [xI x0, xI x1, xI x2, xI x3, xI x4, xI x5, x6, xI x7, xI x8, xI x9, xI x10, xI x11, xI x12, xI x13]).i ≤ 1048575) ∧ ((x2 = (Ff 922 [xI x0, xI x1, xI x2, xI x3, xI x4, xI x5, x6, xI x7, xI x8, xI x9, xI x10, xI x11, xI x12, xI x13]).i ∧ -1048575 ≤ (Ff 922 [xI x0, xI x1, xI x2, xI x3, xI x4, xI x5, x6, xI x7, xI x8, xI x9, xI x10, xI x11, xI x12, xI x13]).i ∧ (Ff 922 [xI x0, xI x1, xI x2, xI x3, xI x4, xI x5, x6, xI x7, xI x8, xI x9, xI x10, xI x11, xI x12, xI x13]).i ≤ 1048575) ∧ ((x3 = (Ff 923 [xI x0, xI x1, xI x2, xI x3, xI x4, xI x5, x6, xI x7, xI x8, xI x9, xI x10, xI x11, xI x12, xI x13]).i ∧ -1048575 ≤ (Ff 923 [xI x0, xI x1, xI x2, xI x3, xI x4, xI x5, x6, xI x7, xI x8, xI x9, xI x10, xI x11, xI x12, xI x13]).i ∧ (Ff 923 [xI x0, xI x1, xI x2, xI x3, xI x4, xI x5, x6, xI x7, xI x8, xI x9, xI x10, xI x11, xI x12, xI x13]).i ≤ 1048575) ∧ ((x4 = (Ff 924 [xI x0, xI x1, xI x2, xI x3, xI x4, xI x5, x6, xI x7, xI x8, xI x9, xI x10, xI x11, xI x12, xI x13]).i ∧ -1048575 ≤ (Ff 924 [xI x0, xI x1, xI x2, xI x3, xI x4, xI x5, x6, xI x7, xI x8, xI x9, xI x10, xI x11, xI x12, xI x13]).i ∧ (Ff 924 [xI x0, xI x1, xI x2, xI x3, xI x4, xI x5, x6, xI x7, xI x8, xI x9, xI x10, xI x11, xI x12, xI x13]).i ≤ 1048575) ∧ ((x5 = (Ff 925 [xI x0, xI x1, xI x2, xI x3, xI x4, xI x5, x6, xI x7, xI x8, xI x9, xI x10, xI x11, xI x12, xI x13]).i ∧ -1048575 ≤ (Ff 925 [xI x0, xI x1, xI x2, xI x3, xI x4, xI x5, x6, xI x7, xI x8, xI x9, xI x10, xI x11, xI x12, xI x13]).i ∧ (Ff 925 [xI x0, xI x1, xI x2, xI x3, xI x4, xI x5, x6, xI x7, xI x8, xI x9, xI x10, xI x11, xI x12, xI x13]).i ≤ 1048575) ∧ (rowEq SMat (Ff 926 [xI x0, xI x1, xI x2, xI x3, xI x4, xI x5, x6, xI x7, xI x8, xI x9, xI x10, xI x11, xI x12, xI x13]) x21.r x21.i 2097152)))))))))))))))
theorem FilRL (x0 : Int) (x1 : Int) (x2 : Int) (x3 : Int) (x4 : Int) (x5 : Int) (x6 : X) (x7 : Int) (x8 : Int) (x9 : Int) (x10 : Int) (x11 : Int) (x12 : Int) (x13 : Int) : (ctrR (fun j => Ff j [xI x0, xI x1, xI x2, xI x3, xI x4, xI x5, x6, xI x7, xI x8, xI x9, xI x10, xI x11, xI x12, xI x13]) cFilR.fs cFilR.res { ρ0 with x := fun j => [xI x0, xI x1, xI x2, xI x3, xI x4, xI x5, x6, xI x7, xI x8, xI x9, xI x10, xI x11, xI x12, xI x13].getD j (xI 0) } (walkR Tryz.prog (cfG none [cAtR, cInR] [] lpFilR sumC) Tryz.f16 400 shFil)) = FilRP x0 x1 x2 x3 x4 x5 x6 x7 x8 x9 x10 x11 x12 x13 := by kernel_rfl
set_option maxHeartbeats 4000000 in
theorem FilRO (x0 : Int) (x1 : Int) (x2 : Int) (x3 : Int) (x4 : Int) (x5 : Int) (x6 : X) (x7 : Int) (x8 : Int) (x9 : Int) (x10 : Int) (x11 : Int) (x12 : Int) (x13 : Int) (g0 : -1048575 ≤ x0 ∧ x0 ≤ 1048575) (g1 : -1048575 ≤ x1 ∧ x1 ≤ 1048575) (g2 : -1048575 ≤ x2 ∧ x2 ≤ 1048575) (g3 : -1048575 ≤ x3 ∧ x3 ≤ 1048575) (g4 : -1048575 ≤ x4 ∧ x4 ≤ 1048575) (g5 : -1048575 ≤ x5 ∧ x5 ≤ 1048575) (g6 : 0 ≤ x6.i ∧ x6.i ≤ 2097152 ∧ RowOk SMat x6.r x6.i.toNat) (g7 : -1048575 ≤ x7 ∧ x7 ≤ 1048575) (g8 : -1048575 ≤ x8 ∧ x8 ≤ 1048575) (g9 : -1048575 ≤ x9 ∧ x9 ≤ 1048575) (g10 : -1048575 ≤ x10 ∧ x10 ≤ 1048575) (g11 : -1048575 ≤ x11 ∧ x11 ≤ 1048575) (g12 : -1048575 ≤ x12 ∧ x12 ≤ 1048575) (g13 : 0 ≤ x13 ∧ x13 ≤ 255) (gp : Px cFilR.pre.get! [xI x0, xI x1, xI x2, xI x3, xI x4, xI x5, x6, xI x7, xI x8, xI x9, xI x10, xI x11, xI x12, xI x13]) : FilRP x0 x1 x2 x3 x4 x5 x6 x7 x8 x9 x10 x11 x12 x13 := by
  unfold FilRP
  obtain ⟨q1, q2⟩ := gp
  obtain ⟨k0, k1, k2, k3, k4⟩ := (v700 g6.1).1 q1
  refine andI ?_ fun o0 => ?_
  · exact ⟨Int.le_refl _, g6.1, rfl, fun j hj => (if_neg fun h => absurd h.1 (by show ¬ (j : Int) < 0; omega)).symm⟩ -- #0
  intro x20
  intro x21
  intro h1
  intro r2
  intro p3
  obtain ⟨i0, i1, i2, i3⟩ := p3
  have i2 : x21.i = x6.i := i2
  refine And.intro ?_ ?_
  · intro h5
    intro v6
    intro v7
    intro v8
    intro v9
    have e9 : v9.b = (bxI x7 x8 x9 x10 x11 x12).has ((bxI x0 x1 x2 x3 x4 x5).at x20.i) := rfl
    refine And.intro ?_ ?_
    · intro h11
      refine andI ?_ fun o12 => ?_
      · omega -- #1
      refine andI ?_ fun o13 => ?_
      · skip -- #2
        refine ⟨show 0 ≤ x20.i + 1 by omega, show x20.i + 1 ≤ x6.i by omega, i2, fun j hj => ?_⟩
        refine set_i.trans ?_
        show _ = if (j : Int) < x20.i + 1 ∧ (bxI x7 x8 x9 x10 x11 x12).has ((bxI x0 x1 x2 x3 x4 x5).at j) = true then x13 else _
        by_cases e : (j : Int) = x20.i
        · rw [if_pos e, if_pos ⟨by omega, by rw [e, ← e9]; exact h11⟩]
          rfl
        · rw [if_neg e, i3 j hj]
          by_cases hl : (j : Int) < x20.i
          · have : ((j : Int) < x20.i + 1) := by omega
            simp only [hl, this, true_and]
            rfl
          · have : ¬ ((j : Int) < x20.i + 1) := by omega
            simp only [hl, this, false_and, if_false]
      refine andI ?_ fun o14 => ?_
      · skip -- #3
        show x6.i + 1 - (x20.i + 1) < x6.i + 1 - x20.i
        omega
      skip -- #4
      show 0 < x6.i + 1 - x20.i
      omega
    intro h15
    refine andI ?_ fun o16 => ?_
    · skip -- #5
      refine ⟨show 0 ≤ x20.i + 1 by omega, show x20.i + 1 ≤ x6.i by omega, i2, fun j hj => ?_⟩
      show (x21.r j 0).i = if (j : Int) < x20.i + 1 ∧ (bxI x7 x8 x9 x10 x11 x12).has ((bxI x0 x1 x2 x3 x4 x5).at j) = true then _ else _
      rw [i3 j hj]
      by_cases e : (j : Int) = x20.i
      · have hn : ¬ (bxI x7 x8 x9 x10 x11 x12).has ((bxI x0 x1 x2 x3 x4 x5).at j) = true := by rw [e, ← e9]; exact h15
        rw [if_neg (fun h => hn h.2), if_neg (fun h => hn h.2)]
      · by_cases hl : (j : Int) < x20.i
        · have : ((j : Int) < x20.i + 1) := by omega
          simp only [hl, this, true_and]
        · have : ¬ ((j : Int) < x20.i + 1) := by omega
          simp only [hl, this, false_and, if_false]
    refine andI ?_ fun o17 => ?_
    · skip -- #6
      show x6.i + 1 - (x20.i + 1) < x6.i + 1 - x20.i
      omega
    skip -- #7
    show 0 < x6.i + 1 - x20.i
    omega
  intro h18
  skip -- #8
  refine ⟨⟨rfl, g0⟩, ⟨rfl, g1⟩, ⟨rfl, g2⟩, ⟨rfl, g3⟩, ⟨rfl, g4⟩, ⟨rfl, g5⟩, rowEq_of eqEl_int r2.1 r2.2.1 ?_⟩
  refine filL_of (o := x21) (l := x6) i2 fun j hj => ?_
  rw [i3 j hj]
  have : (j : Int) < x20.i := by omega
  simp only [this, true_and]
theorem kFilR : RCtrOk Tryz.prog ρ0 cFilR := by
  refine rctr_ofN (cf := cfG none [cAtR, cInR] [] lpFilR sumC) (cfG_ok ((keep0.cons kInR nInR).cons kAtR nAtR) keepR0 noF) Tryz.func16 rfl 400 rfl (sh := shFil) (by kernel_rfl) fil_rsh fun ds hr hp => ?_
  have hr := rshX_flat hr
  match ds, hr, hp with
  | [d0, d1, d2, d3, d4, d5, d6, d7, d8, d9, d10, d11, d12, d13], hr, hp =>
    obtain ⟨⟨e0, l0, u0⟩, ⟨e1, l1, u1⟩, ⟨e2, l2, u2⟩, ⟨e3, l3, u3⟩, ⟨e4, l4, u4⟩, ⟨e5, l5, u5⟩, l6, ⟨e7, l7, u7⟩, ⟨e8, l8, u8⟩, ⟨e9, l9, u9⟩, ⟨e10, l10, u10⟩, ⟨e11, l11, u11⟩, ⟨e12, l12, u12⟩, ⟨e13, l13, u13⟩, _⟩ := hr
    generalize d0.i = x0 at *
    generalize d1.i = x1 at *
    generalize d2.i = x2 at *
    generalize d3.i = x3 at *
    generalize d4.i = x4 at *
    generalize d5.i = x5 at *
    generalize d6 = x6 at *
    generalize d7.i = x7 at *
    generalize d8.i = x8 at *
    generalize d9.i = x9 at *
    generalize d10.i = x10 at *
    generalize d11.i = x11 at *
    generalize d12.i = x12 at *
    generalize d13.i = x13 at *
    subst e0 e1 e2 e3 e4 e5 e7 e8 e9 e10 e11 e12 e13
    exact Eq.mpr (FilRL x0 x1 x2 x3 x4 x5 x6 x7 x8 x9 x10 x11 x12 x13) (FilRO x0 x1 x2 x3 x4 x5 x6 x7 x8 x9 x10 x11 x12 x13 ⟨l0, u0⟩ ⟨l1, u1⟩ ⟨l2, u2⟩ ⟨l3, u3⟩ ⟨l4, u4⟩ ⟨l5, u5⟩ l6 ⟨l7, u7⟩ ⟨l8, u8⟩ ⟨l9, u9⟩ ⟨l10, u10⟩ ⟨l11, u11⟩ ⟨l12, u12⟩ ⟨l13, u13⟩ hp)
theorem nFilR : ∃ fn, Tryz.prog.funcs[cFilR.f]? = some fn ∧ fn.body.isSome = true ∧ (fn.name == "runtime.NumGoroutine") = false := ⟨_, Tryz.func16, by kernel_rfl, by kernel_rfl⟩

/-- What is left of the contract of voxelref07.Write. -/
def WrRP (x0 : Int) (x1 : Int) (x2 : Int) (x3 : Int) (x4 : Int) (x5 : Int) (x6 : X) (x7 : X) : Prop :=
(Px 973 [(xI x0), (xI x1), (xI x2), (xI x3), (xI x4), (xI x5), x6, x7, (xI 0), x6] ∧
(∀ x20 : X, (∀ x21 : X, (((0 ≤ x20.i) ∧ (x20.i ≤ 9223372036854775807)) →
((0 ≤ x21.i ∧ x21.i ≤ 2097152 ∧ RowOk SMat x21.r (x21.i).toNat) →
(Px 973 [(xI x0), (xI x1), (xI x2), (xI x3), (xI x4), (xI x5), x6, x7, x20, x21] →
(((x20.i < x7.i) →
((x20.i < x7.i) ∧
(let v7 : X := Ff 260 [(xI x0), (xI x1), (xI x2), (xI x3), (xI x4), (xI x5), (xI (x7.r x20.i 0).i), (xI (x7.r x20.i 1).i), (xI (x7.r x20.i 2).i)]; (((0 ≤ v7.i) →
((v7.i < x21.i) ∧
((x20.i < x7.i) ∧
(Px 973 [(xI x0), (xI x1), (xI x2), (xI x3), (xI x4), (xI x5), x6, x7, (xI (x20.i + 1)), (mkX (rwSet x21.r v7.i 0 (selX x7.r x20.i 4)) x21.i)] ∧
(((Ff 973 [(xI x0), (xI x1), (xI x2), (xI x3), (xI x4), (xI x5), x6, x7, (xI (x20.i + 1)), (mkX (rwSet x21.r v7.i 0 (selX x7.r x20.i 4)) x21.i)]).i < (Ff 973 [(xI x0), (xI x1), (xI x2), (xI x3), (xI x4), (xI x5), x6, x7, x20, x21]).i) ∧
(0 < (Ff 973 [(xI x0), (xI x1), (xI x2), (xI x3), (xI x4), (xI x5), x6, x7, x20, x21]).i)))))) ∧
((¬ (0 ≤ v7.i)) →
(Px 973 [(xI x0), (xI x1), (xI x2), (xI x3), (xI x4), (xI x5), x6, x7, (xI (x20.i + 1)), x21] ∧
(((Ff 973 [(xI x0), (xI x1), (xI x2), (xI x3), (xI x4), (xI x5), x6, x7, (xI (x20.i + 1)), x21]).i < (Ff 973 [(xI x0), (xI x1), (xI x2), (xI x3), (xI x4), (xI x5), x6, x7, x20, x21]).i) ∧
(0 < (Ff 973 [(xI x0), (xI x1), (xI x2), (xI x3), (xI x4), (xI x5), x6, x7, x20, x21]).i)))))))) ∧
((¬ (x20.i < x7.i)) →
((x0 = (Ff 910 [xI x0, xI x1, xI x2, xI x3, xI x4, xI x5, x6, x7]).i ∧ -1048575 ≤ (Ff 910 [xI x0, xI x1, xI x2, xI x3, xI x4, xI x5, x6, x7]).i ∧ (Ff 910 [xI x0, xI x1, xI x2, xI x3, xI x4, xI x5, x6, x7]).i ≤ 1048575) ∧ ((x1 = (Ff 911 [xI x0, xI x1, xI x2, xI x3, xI x4, xI x5, x6, x7]).i ∧ -1048575 ≤ (Ff 911 [xI x0, xI x1, xI x2, xI x3, xI x4, xI x5, x6, x7]).i ∧ (Ff 911 [xI x0, xI x1, xI x2, xI x3, xI x4, xI x5, x6, x7]).i ≤ 1048575) ∧ ((x2 = (Ff 912 [xI x0, xI x1, xI x2, xI x3, xI x4, xI x5, x6, x7]).i ∧ -1048575 ≤ (Ff 912 [xI x0, xI x1, xI x2, xI x3, xI x4, xI x5, x6, x7]).i ∧ (Ff 912 [xI x0, xI x1, xI x2, xI x3, xI x4, xI x5, x6, x7]).i ≤ 1048575) ∧ ((x3 = (Ff 913 [xI x0, xI x1, xI x2, xI x3, xI x4, xI x5, x6, x7]).i ∧ -1048575 ≤ (Ff 913 [xI x0, xI x1, xI x2, xI x3, xI x4, xI x5, x6, x7]).i ∧ (Ff 913 [xI x0, xI x1, xI x2, xI x3, xI x4, xI x5, x6, x7]).i ≤ 1048575) ∧ ((x4 = (Ff 914 [xI x0, xI x1, xI x2, xI x3, xI x4, xI x5, x6, x7]).i ∧ -1048575 ≤ (Ff 914 [xI x0, xI x1, xI x2, xI x3, xI x4, xI x5, x6, x7]).i ∧ (Ff 914 [xI x0, xI x1, xI x2, xI x3, xI x4, xI x5, x6, x7]).i ≤ 1048575) ∧ ((x5 = (Ff 915 [xI x0, xI x1, xI x2, xI x3, xI x4, xI x5, x6, x7]).i ∧ -1048575 ≤ (Ff 915 [xI x0, xI x1, xI x2, xI x3, xI x4, xI x5, x6, x7]).i ∧ (Ff 915 [xI x0, xI x1, xI x2, xI x3, xI x4, xI x5, x6, x7]).i ≤ 1048575) ∧ (rowEq SMat (Ff 916 [xI x0, xI x1, xI x2, xI x3, xI x4, xI x5, x6, x7]) x21.r x21.i 2097152)))))))))))))))
theorem WrRL (x0 : Int) (x1 : Int) (x2 : Int) (x3 : Int) (x4 : Int) (x5 : Int) (x6 : X) (x7 : X) : (ctrR (fun j => Ff j [xI x0, xI x1, xI x2, xI x3, xI x4, xI x5, x6, x7]) cWrR.fs cWrR.res { ρ0 with x := fun j => [xI x0, xI x1, xI x2, xI x3, xI x4, xI x5, x6, x7].getD j (xI 0) } (walkR Tryz.prog (cfG none [cIndexR] [] lpWrR sumC) Tryz.f14 400 shWr)) = WrRP x0 x1 x2 x3 x4 x5 x6 x7 := by kernel_rfl
set_option maxHeartbeats 4000000 in
theorem WrRO (x0 : Int) (x1 : Int) (x2 : Int) (x3 : Int) (x4 : Int) (x5 : Int) (x6 : X) (x7 : X) (g0 : -1048575 ≤ x0 ∧ x0 ≤ 1048575) (g1 : -1048575 ≤ x1 ∧ x1 ≤ 1048575) (g2 : -1048575 ≤ x2 ∧ x2 ≤ 1048575) (g3 : -1048575 ≤ x3 ∧ x3 ≤ 1048575) (g4 : -1048575 ≤ x4 ∧ x4 ≤ 1048575) (g5 : -1048575 ≤ x5 ∧ x5 ≤ 1048575) (g6 : 0 ≤ x6.i ∧ x6.i ≤ 2097152 ∧ RowOk SMat x6.r x6.i.toNat) (g7 : 0 ≤ x7.i ∧ x7.i ≤ 9223372036854775807 ∧ RowOk [.int .i64 (-1048576) (1048576), .int .i64 (-1048576) (1048576), .int .i64 (-1048576) (1048576), .int .i64 (-9223372036854775808) (9223372036854775807), .int .i64 (0) (255)] x7.r x7.i.toNat) (gp : Px cWrR.pre.get! [xI x0, xI x1, xI x2, xI x3, xI x4, xI x5, x6, x7]) : WrRP x0 x1 x2 x3 x4 x5 x6 x7 := by
  unfold WrRP
  obtain ⟨gv, gc⟩ := gp
  obtain ⟨k0, k1, k2, k3, k4⟩ := (v700 g6.1).1 gv
  have hV : (bxI x0 x1 x2 x3 x4 x5).vol = x6.i := k3
  refine andI ?_ fun o0 => ?_
  · exact ⟨Int.le_refl _, g7.1, rfl, rfl⟩ -- #0
  intro x20
  intro x21
  intro h1
  intro r2
  intro p3
  obtain ⟨q0, q1, q2, q3⟩ := p3
  have q2 : x21.i = x6.i := q2
  have q3 : lstX deI x21 = wrL (bxI x0 x1 x2 x3 x4 x5) (lstX deI x6) ((lstX deC x7).take x20.i.toNat) := q3
  refine And.intro ?_ ?_
  · intro h5
    refine andI ?_ fun o6 => ?_
    · exact h5 -- #1
    intro v7
    have hx : 0 ≤ v7.i → v7.i < x6.i := fun h => by
      have h9 : v7.i < (bxI x0 x1 x2 x3 x4 x5).vol := (idx_ok (b := bxI x0 x1 x2 x3 x4 x5) (p := ((x7.r x20.i 0).i, (x7.r x20.i 1).i, (x7.r x20.i 2).i)) (idx_has.1 h)).2
      omega
    have hs : wrL (bxI x0 x1 x2 x3 x4 x5) (lstX deI x6) ((lstX deC x7).take (x20.i + 1).toNat) = setL (bxI x0 x1 x2 x3 x4 x5) (lstX deI x21) ((x7.r x20.i 0).i, (x7.r x20.i 1).i, (x7.r x20.i 2).i) (x7.r x20.i 4).i := by
      rw [lx_take h1.1 h5, wr_snoc, ← q3]
      rfl
    refine And.intro ?_ ?_
    · intro h9
      refine andI ?_ fun o10 => ?_
      · skip -- #2
        have := hx h9
        omega
      refine andI ?_ fun o11 => ?_
      · exact h5 -- #3
      refine andI ?_ fun o12 => ?_
      · skip -- #4
        refine ⟨show 0 ≤ x20.i + 1 by omega, show x20.i + 1 ≤ x7.i by omega, q2, ?_⟩
        show _ = wrL (bxI x0 x1 x2 x3 x4 x5) (lstX deI x6) ((lstX deC x7).take (x20.i + 1).toNat)
        rw [hs, deI_set h9]
        exact (if_pos h9).symm
      refine andI ?_ fun o13 => ?_
      · skip -- #5
        show x7.i + 1 - (x20.i + 1) < x7.i + 1 - x20.i
        omega
      skip -- #6
      show 0 < x7.i + 1 - x20.i
      omega
    intro h14
    refine andI ?_ fun o15 => ?_
    · skip -- #7
      refine ⟨show 0 ≤ x20.i + 1 by omega, show x20.i + 1 ≤ x7.i by omega, q2, ?_⟩
      show _ = wrL (bxI x0 x1 x2 x3 x4 x5) (lstX deI x6) ((lstX deC x7).take (x20.i + 1).toNat)
      rw [hs]
      exact (if_neg h14).symm
    refine andI ?_ fun o16 => ?_
    · skip -- #8
      show x7.i + 1 - (x20.i + 1) < x7.i + 1 - x20.i
      omega
    skip -- #9
    show 0 < x7.i + 1 - x20.i
    omega
  intro h17
  skip -- #10
  refine ⟨⟨rfl, g0⟩, ⟨rfl, g1⟩, ⟨rfl, g2⟩, ⟨rfl, g3⟩, ⟨rfl, g4⟩, ⟨rfl, g5⟩, rowEq_of eqEl_int r2.1 r2.2.1 ?_⟩
  rw [lx_all (by omega)] at q3
  exact q3
theorem kWrR : RCtrOk Tryz.prog ρ0 cWrR := by
  refine rctr_ofN (cf := cfG none [cIndexR] [] lpWrR sumC) (cfG_ok (keep0.cons kIndexR nIndexR) keepR0 noF) Tryz.func14 rfl 400 rfl (sh := shWr) (by kernel_rfl) wr_rsh fun ds hr hp => ?_
  have hr := rshX_flat hr
  match ds, hr, hp with
  | [d0, d1, d2, d3, d4, d5, d6, d7], hr, hp =>
    obtain ⟨⟨e0, l0, u0⟩, ⟨e1, l1, u1⟩, ⟨e2, l2, u2⟩, ⟨e3, l3, u3⟩, ⟨e4, l4, u4⟩, ⟨e5, l5, u5⟩, l6, l7, _⟩ := hr
    generalize d0.i = x0 at *
    generalize d1.i = x1 at *
    generalize d2.i = x2 at *
    generalize d3.i = x3 at *
    generalize d4.i = x4 at *
    generalize d5.i = x5 at *
    generalize d6 = x6 at *
    generalize d7 = x7 at *
    subst e0 e1 e2 e3 e4 e5
    exact Eq.mpr (WrRL x0 x1 x2 x3 x4 x5 x6 x7) (WrRO x0 x1 x2 x3 x4 x5 x6 x7 ⟨l0, u0⟩ ⟨l1, u1⟩ ⟨l2, u2⟩ ⟨l3, u3⟩ ⟨l4, u4⟩ ⟨l5, u5⟩ l6 l7 hp)
theorem nWrR : ∃ fn, Tryz.prog.funcs[cWrR.f]? = some fn ∧ fn.body.isSome = true ∧ (fn.name == "runtime.NumGoroutine") = false := ⟨_, Tryz.func14, by kernel_rfl, by kernel_rfl⟩

/-- What is left of the contract of voxelref07.Shift. -/
def ShfRP (x0 : Int) (x1 : Int) (x2 : Int) (x3 : Int) (x4 : Int) (x5 : Int) (x6 : X) (x7 : Int) (x8 : Int) (x9 : Int) : Prop :=
(((0 < x6.i) →
(((x0 + x7) = (Ff 930 [xI x0, xI x1, xI x2, xI x3, xI x4, xI x5, x6, xI x7, xI x8, xI x9]).i ∧ -2097151 ≤ (Ff 930 [xI x0, xI x1, xI x2, xI x3, xI x4, xI x5, x6, xI x7, xI x8, xI x9]).i ∧ (Ff 930 [xI x0, xI x1, xI x2, xI x3, xI x4, xI x5, x6, xI x7, xI x8, xI x9]).i ≤ 2097151) ∧ (((x1 + x8) = (Ff 931 [xI x0, xI x1, xI x2, xI x3, xI x4, xI x5, x6, xI x7, xI x8, xI x9]).i ∧ -2097151 ≤ (Ff 931 [xI x0, xI x1, xI x2, xI x3, xI x4, xI x5, x6, xI x7, xI x8, xI x9]).i ∧ (Ff 931 [xI x0, xI x1, xI x2, xI x3, xI x4, xI x5, x6, xI x7, xI x8, xI x9]).i ≤ 2097151) ∧ (((x2 + x9) = (Ff 932 [xI x0, xI x1, xI x2, xI x3, xI x4, xI x5, x6, xI x7, xI x8, xI x9]).i ∧ -2097151 ≤ (Ff 932 [xI x0, xI x1, xI x2, xI x3, xI x4, xI x5, x6, xI x7, xI x8, xI x9]).i ∧ (Ff 932 [xI x0, xI x1, xI x2, xI x3, xI x4, xI x5, x6, xI x7, xI x8, xI x9]).i ≤ 2097151) ∧ (((x3 + x7) = (Ff 933 [xI x0, xI x1, xI x2, xI x3, xI x4, xI x5, x6, xI x7, xI x8, xI x9]).i ∧ -2097151 ≤ (Ff 933 [xI x0, xI x1, xI x2, xI x3, xI x4, xI x5, x6, xI x7, xI x8, xI x9]).i ∧ (Ff 933 [xI x0, xI x1, xI x2, xI x3, xI x4, xI x5, x6, xI x7, xI x8, xI x9]).i ≤ 2097151) ∧ (((x4 + x8) = (Ff 934 [xI x0, xI x1, xI x2, xI x3, xI x4, xI x5, x6, xI x7, xI x8, xI x9]).i ∧ -2097151 ≤ (Ff 934 [xI x0, xI x1, xI x2, xI x3, xI x4, xI x5, x6, xI x7, xI x8, xI x9]).i ∧ (Ff 934 [xI x0, xI x1, xI x2, xI x3, xI x4, xI x5, x6, xI x7, xI x8, xI x9]).i ≤ 2097151) ∧ (((x5 + x9) = (Ff 935 [xI x0, xI x1, xI x2, xI x3, xI x4, xI x5, x6, xI x7, xI x8, xI x9]).i ∧ -2097151 ≤ (Ff 935 [xI x0, xI x1, xI x2, xI x3, xI x4, xI x5, x6, xI x7, xI x8, xI x9]).i ∧ (Ff 935 [xI x0, xI x1, xI x2, xI x3, xI x4, xI x5, x6, xI x7, xI x8, xI x9]).i ≤ 2097151) ∧ (rowEq SMat (Ff 936 [xI x0, xI x1, xI x2, xI x3, xI x4, xI x5, x6, xI x7, xI x8, xI x9]) x6.r x6.i 2097152)))))))) ∧
((¬ (0 < x6.i)) →
((x0 = (Ff 930 [xI x0, xI x1, xI x2, xI x3, xI x4, xI x5, x6, xI x7, xI x8, xI x9]).i ∧ -2097151 ≤ (Ff 930 [xI x0, xI x1, xI x2, xI x3, xI x4, xI x5, x6, xI x7, xI x8, xI x9]).i ∧ (Ff 930 [xI x0, xI x1, xI x2, xI x3, xI x4, xI x5, x6, xI x7, xI x8, xI x9]).i ≤ 2097151) ∧ ((x1 = (Ff 931 [xI x0, xI x1, xI x2, xI x3, xI x4, xI x5, x6, xI x7, xI x8, xI x9]).i ∧ -2097151 ≤ (Ff 931 [xI x0, xI x1, xI x2, xI x3, xI x4, xI x5, x6, xI x7, xI x8, xI x9]).i ∧ (Ff 931 [xI x0, xI x1, xI x2, xI x3, xI x4, xI x5, x6, xI x7, xI x8, xI x9]).i ≤ 2097151) ∧ ((x2 = (Ff 932 [xI x0, xI x1, xI x2, xI x3, xI x4, xI x5, x6, xI x7, xI x8, xI x9]).i ∧ -2097151 ≤ (Ff 932 [xI x0, xI x1, xI x2, xI x3, xI x4, xI x5, x6, xI x7, xI x8, xI x9]).i ∧ (Ff 932 [xI x0, xI x1, xI x2, xI x3, xI x4, xI x5, x6, xI x7, xI x8, xI x9]).i ≤ 2097151) ∧ ((x3 = (Ff 933 [xI x0, xI x1, xI x2, xI x3, xI x4, xI x5, x6, xI x7, xI x8, xI x9]).i ∧ -2097151 ≤ (Ff 933 [xI x0, xI x1, xI x2, xI x3, xI x4, xI x5, x6, xI x7, xI x8, xI x9]).i ∧ (Ff 933 [xI x0, xI x1, xI x2, xI x3, xI x4, xI x5, x6, xI x7, xI x8, xI x9]).i ≤ 2097151) ∧ ((x4 = (Ff 934 [xI x0, xI x1, xI x2, xI x3, xI x4, xI x5, x6, xI x7, xI x8, xI x9]).i ∧ -2097151 ≤ (Ff 934 [xI x0, xI x1, xI x2, xI x3, xI x4, xI x5, x6, xI x7, xI x8, xI x9]).i ∧ (Ff 934 [xI x0, xI x1, xI x2, xI x3, xI x4, xI x5, x6, xI x7, xI x8, xI x9]).i ≤ 2097151) ∧ ((x5 = (Ff 935 [xI x0, xI x1, xI x2, xI x3, xI x4, xI x5, x6, xI x7, xI x8, xI x9]).i ∧ -2097151 ≤ (Ff 935 [xI x0, xI x1, xI x2, xI x3, xI x4, xI x5, x6, xI x7, xI x8, xI x9]).i ∧ (Ff 935 [xI x0, xI x1, xI x2, xI x3, xI x4, xI x5, x6, xI x7, xI x8, xI x9]).i ≤ 2097151) ∧ (rowEq SMat (Ff 936 [xI x0, xI x1, xI x2, xI x3, xI x4, xI x5, x6, xI x7, xI x8, xI x9]) x6.r x6.i 2097152)))))))))
theorem ShfRL (x0 : Int) (x1 : Int) (x2 : Int) (x3 : Int) (x4 : Int) (x5 : Int) (x6 : X) (x7 : Int) (x8 : Int) (x9 : Int) : (ctrR (fun j => Ff j [xI x0, xI x1, xI x2, xI x3, xI x4, xI x5, x6, xI x7, xI x8, xI x9]) cShfR.fs cShfR.res { ρ0 with x := fun j => [xI x0, xI x1, xI x2, xI x3, xI x4, xI x5, x6, xI x7, xI x8, xI x9].getD j (xI 0) } (walkR Tryz.prog (cfG none [] [] [] sumC) Tryz.f20 400 shShf)) = ShfRP x0 x1 x2 x3 x4 x5 x6 x7 x8 x9 := by kernel_rfl
set_option maxHeartbeats 4000000 in
theorem ShfRO (x0 : Int) (x1 : Int) (x2 : Int) (x3 : Int) (x4 : Int) (x5 : Int) (x6 : X) (x7 : Int) (x8 : Int) (x9 : Int) (g0 : -1048575 ≤ x0 ∧ x0 ≤ 1048575) (g1 : -1048575 ≤ x1 ∧ x1 ≤ 1048575) (g2 : -1048575 ≤ x2 ∧ x2 ≤ 1048575) (g3 : -1048575 ≤ x3 ∧ x3 ≤ 1048575) (g4 : -1048575 ≤ x4 ∧ x4 ≤ 1048575) (g5 : -1048575 ≤ x5 ∧ x5 ≤ 1048575) (g6 : 0 ≤ x6.i ∧ x6.i ≤ 2097152 ∧ RowOk SMat x6.r x6.i.toNat) (g7 : -1048576 ≤ x7 ∧ x7 ≤ 1048576) (g8 : -1048576 ≤ x8 ∧ x8 ≤ 1048576) (g9 : -1048576 ≤ x9 ∧ x9 ≤ 1048576) (gp : Px cShfR.pre.get! [xI x0, xI x1, xI x2, xI x3, xI x4, xI x5, x6, xI x7, xI x8, xI x9]) : ShfRP x0 x1 x2 x3 x4 x5 x6 x7 x8 x9 := by
  unfold ShfRP
  obtain ⟨k0, k1, k2, k3, k4⟩ := (v700 g6.1).1 gp
  have hr : rowEq [.int .i64 (0) (255)] (rowG enI (lstX deI x6)) x6.r x6.i 2097152 := rowEq_of eqEl_int g6.1 g6.2.1 rfl
  have hl : ((lstX deI x6).length : Int) = x6.i := by rw [lstX_len]; omega
  refine And.intro ?_ ?_
  · intro h1
    skip -- #0
    have e : shfB (bxI x0 x1 x2 x3 x4 x5) (lstX deI x6) (x7, x8, x9) = ⟨x0 + x7, x1 + x8, x2 + x9, x3 + x7, x4 + x8, x5 + x9⟩ := if_neg (by omega)
    refine ⟨rngI (c := x0 + x7) (congrArg Bx.a e) ?_, rngI (c := x1 + x8) (congrArg Bx.b e) ?_, rngI (c := x2 + x9) (congrArg Bx.c e) ?_, rngI (c := x3 + x7) (congrArg Bx.d e) ?_, rngI (c := x4 + x8) (congrArg Bx.e e) ?_, rngI (c := x5 + x9) (congrArg Bx.f e) ?_, hr⟩
    all_goals omega
  intro h2
  skip -- #1
  have e : shfB (bxI x0 x1 x2 x3 x4 x5) (lstX deI x6) (x7, x8, x9) = bxI x0 x1 x2 x3 x4 x5 := if_pos (by omega)
  refine ⟨rngI (c := x0) (congrArg Bx.a e) ?_, rngI (c := x1) (congrArg Bx.b e) ?_, rngI (c := x2) (congrArg Bx.c e) ?_, rngI (c := x3) (congrArg Bx.d e) ?_, rngI (c := x4) (congrArg Bx.e e) ?_, rngI (c := x5) (congrArg Bx.f e) ?_, hr⟩
  all_goals omega
theorem kShfR : RCtrOk Tryz.prog ρ0 cShfR := by
  refine rctr_ofN (cf := cfG none [] [] [] sumC) (cfG_ok keep0 keepR0 noF) Tryz.func20 rfl 400 rfl (sh := shShf) (by kernel_rfl) val_rsh fun ds hr hp => ?_
  have hr := rshX_flat hr
  match ds, hr, hp with
  | [d0, d1, d2, d3, d4, d5, d6, d7, d8, d9], hr, hp =>
    obtain ⟨⟨e0, l0, u0⟩, ⟨e1, l1, u1⟩, ⟨e2, l2, u2⟩, ⟨e3, l3, u3⟩, ⟨e4, l4, u4⟩, ⟨e5, l5, u5⟩, l6, ⟨e7, l7, u7⟩, ⟨e8, l8, u8⟩, ⟨e9, l9, u9⟩, _⟩ := hr
    generalize d0.i = x0 at *
    generalize d1.i = x1 at *
    generalize d2.i = x2 at *
    generalize d3.i = x3 at *
    generalize d4.i = x4 at *
    generalize d5.i = x5 at *
    generalize d6 = x6 at *
    generalize d7.i = x7 at *
    generalize d8.i = x8 at *
    generalize d9.i = x9 at *
    subst e0 e1 e2 e3 e4 e5 e7 e8 e9
    exact Eq.mpr (ShfRL x0 x1 x2 x3 x4 x5 x6 x7 x8 x9) (ShfRO x0 x1 x2 x3 x4 x5 x6 x7 x8 x9 ⟨l0, u0⟩ ⟨l1, u1⟩ ⟨l2, u2⟩ ⟨l3, u3⟩ ⟨l4, u4⟩ ⟨l5, u5⟩ l6 ⟨l7, u7⟩ ⟨l8, u8⟩ ⟨l9, u9⟩ hp)
theorem nShfR : ∃ fn, Tryz.prog.funcs[cShfR.f]? = some fn ∧ fn.body.isSome = true ∧ (fn.name == "runtime.NumGoroutine") = false := ⟨_, Tryz.func20, by kernel_rfl, by kernel_rfl⟩

/-- What is left of the contract of voxelref07.Turn. -/
def TurGRP (x0 : Int) (x1 : Int) (x2 : Int) (x3 : Int) (x4 : Int) (x5 : Int) (x6 : Int) (x7 : X) : Prop :=
(Px 979 [(xI x0), (xI x1), (xI x2), (xI x3), (xI x4), (xI x5), (xI x6), x7, (xI 0), x7] ∧
(∀ x20 : X, (∀ x21 : X, (((0 ≤ x20.i) ∧ (x20.i ≤ 2097152)) →
((0 ≤ x21.i ∧ x21.i ≤ 2097152 ∧ RowOk SMat x21.r (x21.i).toNat) →
(Px 979 [(xI x0), (xI x1), (xI x2), (xI x3), (xI x4), (xI x5), (xI x6), x7, x20, x21] →
(((x20.i < x7.i) →
(let v6 : X := Ff 300 [(xI x0), (xI x1), (xI x2), (xI x3), (xI x4), (xI x5), (xI x6)]; let v7 : X := Ff 301 [(xI x0), (xI x1), (xI x2), (xI x3), (xI x4), (xI x5), (xI x6)]; let v8 : X := Ff 302 [(xI x0), (xI x1), (xI x2), (xI x3), (xI x4), (xI x5), (xI x6)]; let v9 : X := Ff 303 [(xI x0), (xI x1), (xI x2), (xI x3), (xI x4), (xI x5), (xI x6)]; let v10 : X := Ff 304 [(xI x0), (xI x1), (xI x2), (xI x3), (xI x4), (xI x5), (xI x6)]; let v11 : X := Ff 305 [(xI x0), (xI x1), (xI x2), (xI x3), (xI x4), (xI x5), (xI x6)]; let v12 : X := Ff 270 [(xI x1), (xI x2), (xI x3), (xI x4), (xI x5), (xI x6), (xI x20.i)]; let v13 : X := Ff 271 [(xI x1), (xI x2), (xI x3), (xI x4), (xI x5), (xI x6), (xI x20.i)]; let v14 : X := Ff 272 [(xI x1), (xI x2), (xI x3), (xI x4), (xI x5), (xI x6), (xI x20.i)]; let v15 : X := Ff 293 [(xI x0), (xI v12.i), (xI v13.i), (xI v14.i)]; let v16 : X := Ff 294 [(xI x0), (xI v12.i), (xI v13.i), (xI v14.i)]; let v17 : X := Ff 295 [(xI x0), (xI v12.i), (xI v13.i), (xI v14.i)]; let v18 : X := Ff 260 [(xI v6.i), (xI v7.i), (xI v8.i), (xI v9.i), (xI v10.i), (xI v11.i), (xI v15.i), (xI v16.i), (xI v17.i)]; ((0 ≤ v18.i) ∧
((v18.i < x21.i) ∧
((x20.i < x7.i) ∧
(Px 979 [(xI x0), (xI x1), (xI x2), (xI x3), (xI x4), (xI x5), (xI x6), x7, (xI (x20.i + 1)), (mkX (rwSet x21.r v18.i 0 (selX x7.r x20.i 0)) x21.i)] ∧
(((Ff 979 [(xI x0), (xI x1), (xI x2), (xI x3), (xI x4), (xI x5), (xI x6), x7, (xI (x20.i + 1)), (mkX (rwSet x21.r v18.i 0 (selX x7.r x20.i 0)) x21.i)]).i < (Ff 979 [(xI x0), (xI x1), (xI x2), (xI x3), (xI x4), (xI x5), (xI x6), x7, x20, x21]).i) ∧
(0 < (Ff 979 [(xI x0), (xI x1), (xI x2), (xI x3), (xI x4), (xI x5), (xI x6), x7, x20, x21]).i)))))))) ∧
((¬ (x20.i < x7.i)) →
(let v25 : X := Ff 300 [(xI x0), (xI x1), (xI x2), (xI x3), (xI x4), (xI x5), (xI x6)]; let v26 : X := Ff 301 [(xI x0), (xI x1), (xI x2), (xI x3), (xI x4), (xI x5), (xI x6)]; let v27 : X := Ff 302 [(xI x0), (xI x1), (xI x2), (xI x3), (xI x4), (xI x5), (xI x6)]; let v28 : X := Ff 303 [(xI x0), (xI x1), (xI x2), (xI x3), (xI x4), (xI x5), (xI x6)]; let v29 : X := Ff 304 [(xI x0), (xI x1), (xI x2), (xI x3), (xI x4), (xI x5), (xI x6)]; let v30 : X := Ff 305 [(xI x0), (xI x1), (xI x2), (xI x3), (xI x4), (xI x5), (xI x6)]; ((v25.i = (Ff 940 [xI x0, xI x1, xI x2, xI x3, xI x4, xI x5, xI x6, x7]).i ∧ -1048575 ≤ (Ff 940 [xI x0, xI x1, xI x2, xI x3, xI x4, xI x5, xI x6, x7]).i ∧ (Ff 940 [xI x0, xI x1, xI x2, xI x3, xI x4, xI x5, xI x6, x7]).i ≤ 1048575) ∧ ((v26.i = (Ff 941 [xI x0, xI x1, xI x2, xI x3, xI x4, xI x5, xI x6, x7]).i ∧ -1048575 ≤ (Ff 941 [xI x0, xI x1, xI x2, xI x3, xI x4, xI x5, xI x6, x7]).i ∧ (Ff 941 [xI x0, xI x1, xI x2, xI x3, xI x4, xI x5, xI x6, x7]).i ≤ 1048575) ∧ ((v27.i = (Ff 942 [xI x0, xI x1, xI x2, xI x3, xI x4, xI x5, xI x6, x7]).i ∧ -1048575 ≤ (Ff 942 [xI x0, xI x1, xI x2, xI x3, xI x4, xI x5, xI x6, x7]).i ∧ (Ff 942 [xI x0, xI x1, xI x2, xI x3, xI x4, xI x5, xI x6, x7]).i ≤ 1048575) ∧ ((v28.i = (Ff 943 [xI x0, xI x1, xI x2, xI x3, xI x4, xI x5, xI x6, x7]).i ∧ -1048575 ≤ (Ff 943 [xI x0, xI x1, xI x2, xI x3, xI x4, xI x5, xI x6, x7]).i ∧ (Ff 943 [xI x0, xI x1, xI x2, xI x3, xI x4, xI x5, xI x6, x7]).i ≤ 1048575) ∧ ((v29.i = (Ff 944 [xI x0, xI x1, xI x2, xI x3, xI x4, xI x5, xI x6, x7]).i ∧ -1048575 ≤ (Ff 944 [xI x0, xI x1, xI x2, xI x3, xI x4, xI x5, xI x6, x7]).i ∧ (Ff 944 [xI x0, xI x1, xI x2, xI x3, xI x4, xI x5, xI x6, x7]).i ≤ 1048575) ∧ ((v30.i = (Ff 945 [xI x0, xI x1, xI x2, xI x3, xI x4, xI x5, xI x6, x7]).i ∧ -1048575 ≤ (Ff 945 [xI x0, xI x1, xI x2, xI x3, xI x4, xI x5, xI x6, x7]).i ∧ (Ff 945 [xI x0, xI x1, xI x2, xI x3, xI x4, xI x5, xI x6, x7]).i ≤ 1048575) ∧ (rowEq SMat (Ff 946 [xI x0, xI x1, xI x2, xI x3, xI x4, xI x5, xI x6, x7]) x21.r x21.i 2097152))))))))))))))))
theorem TurGRL (x0 : Int) (x1 : Int) (x2 : Int) (x3 : Int) (x4 : Int) (x5 : Int) (x6 : Int) (x7 : X) : (ctrR (fun j => Ff j [xI x0, xI x1, xI x2, xI x3, xI x4, xI x5, xI x6, x7]) cTurGR.fs cTurGR.res { ρ0 with x := fun j => [xI x0, xI x1, xI x2, xI x3, xI x4, xI x5, xI x6, x7].getD j (xI 0) } (walkR Tryz.prog (cfG none [cAtR, cIndexR, cCellR, cBoxR] [] lpTurGR sumC) Tryz.f22 400 shTur)) = TurGRP x0 x1 x2 x3 x4 x5 x6 x7 := by kernel_rfl
set_option maxHeartbeats 4000000 in
theorem TurGRO (x0 : Int) (x1 : Int) (x2 : Int) (x3 : Int) (x4 : Int) (x5 : Int) (x6 : Int) (x7 : X) (g0 : -9223372036854775808 ≤ x0 ∧ x0 ≤ 9223372036854775807) (g1 : -1048575 ≤ x1 ∧ x1 ≤ 1048575) (g2 : -1048575 ≤ x2 ∧ x2 ≤ 1048575) (g3 : -1048575 ≤ x3 ∧ x3 ≤ 1048575) (g4 : -1048575 ≤ x4 ∧ x4 ≤ 1048575) (g5 : -1048575 ≤ x5 ∧ x5 ≤ 1048575) (g6 : -1048575 ≤ x6 ∧ x6 ≤ 1048575) (g7 : 0 ≤ x7.i ∧ x7.i ≤ 2097152 ∧ RowOk SMat x7.r x7.i.toNat) (gp : Px cTurGR.pre.get! [xI x0, xI x1, xI x2, xI x3, xI x4, xI x5, xI x6, x7]) : TurGRP x0 x1 x2 x3 x4 x5 x6 x7 := by
  unfold TurGRP
  obtain ⟨k0, k1, k2, k3, k4⟩ := (v700 g7.1).1 gp
  have hV : (bxI x1 x2 x3 x4 x5 x6).vol = x7.i := k3
  have t0 := tur_in (s := x0) k0 0
  have t1 := tur_in (s := x0) k0 1
  have t2 := tur_in (s := x0) k0 2
  refine andI ?_ fun o0 => ?_
  · exact ⟨Int.le_refl _, g7.1, rfl, rfl⟩ -- #0
  intro x20
  intro x21
  intro h1
  intro r2
  intro p3
  obtain ⟨q0, q1, q2, q3⟩ := p3
  have q2 : x21.i = x7.i := q2
  have q3 : lstX deI x21 = turN x0 (bxI x1 x2 x3 x4 x5 x6) (lstX deI x7) x20.i.toNat := q3
  refine And.intro ?_ ?_
  · intro h5
    intro v6
    intro v7
    intro v8
    intro v9
    intro v10
    intro v11
    intro v12
    intro v13
    intro v14
    intro v15
    intro v16
    intro v17
    intro v18
    have hh : (turB x0 (bxI x1 x2 x3 x4 x5 x6)).has (tcP x0 ((bxI x1 x2 x3 x4 x5 x6).at x20.i)) = true := tur_has.2 (at_has h1.1 (by omega))
    have h34 : 0 ≤ v18.i ∧ v18.i < (turB x0 (bxI x1 x2 x3 x4 x5 x6)).vol := idx_ok hh
    have hv : (turB x0 (bxI x1 x2 x3 x4 x5 x6)).vol = x7.i := tur_vol.trans hV
    refine andI ?_ fun o19 => ?_
    · omega -- #1
    refine andI ?_ fun o20 => ?_
    · omega -- #2
    refine andI ?_ fun o21 => ?_
    · exact h5 -- #3
    refine andI ?_ fun o22 => ?_
    · skip -- #4
      refine ⟨show 0 ≤ x20.i + 1 by omega, show x20.i + 1 ≤ x7.i by omega, q2, ?_⟩
      show _ = turN x0 (bxI x1 x2 x3 x4 x5 x6) (lstX deI x7) (x20.i + 1).toNat
      rw [toS7 h1.1, deI_set h34.1]
      show (lstX deI x21).set v18.i.toNat (x7.r x20.i 0).i = (turN x0 (bxI x1 x2 x3 x4 x5 x6) (lstX deI x7) x20.i.toNat).set ((turB x0 (bxI x1 x2 x3 x4 x5 x6)).idx (tcP x0 ((bxI x1 x2 x3 x4 x5 x6).at (x20.i.toNat : Nat)))).toNat ((lstX deI x7).getD x20.i.toNat 0)
      rw [Int.toNat_of_nonneg h1.1, lxI_at h1.1 h5, q3]
      rfl
    refine andI ?_ fun o23 => ?_
    · skip -- #5
      show x7.i + 1 - (x20.i + 1) < x7.i + 1 - x20.i
      omega
    skip -- #6
    show 0 < x7.i + 1 - x20.i
    omega
  intro h24
  intro v25
  intro v26
  intro v27
  intro v28
  intro v29
  intro v30
  skip -- #7
  refine ⟨⟨rfl, t0.1⟩, ⟨rfl, t1.1⟩, ⟨rfl, t2.1⟩, ⟨rfl, t0.2⟩, ⟨rfl, t1.2⟩, ⟨rfl, t2.2⟩, rowEq_of eqEl_int r2.1 r2.2.1 ?_⟩
  have e : (lstX deI x7).length = x20.i.toNat := by
    rw [lstX_len]
    have q1 : x20.i ≤ x7.i := q1
    omega
  show lstX deI x21 = turN x0 (bxI x1 x2 x3 x4 x5 x6) (lstX deI x7) (lstX deI x7).length
  rw [e]
  exact q3
theorem kTurGR : RCtrOk Tryz.prog ρ0 cTurGR := by
  refine rctr_ofN (cf := cfG none [cAtR, cIndexR, cCellR, cBoxR] [] lpTurGR sumC) (cfG_ok ((((keep0.cons kBoxR nBoxR).cons kCellR nCellR).cons kIndexR nIndexR).cons kAtR nAtR) keepR0 noF) Tryz.func22 rfl 400 rfl (sh := shTur) (by kernel_rfl) tur_rsh fun ds hr hp => ?_
  have hr := rshX_flat hr
  match ds, hr, hp with
  | [d0, d1, d2, d3, d4, d5, d6, d7], hr, hp =>
    obtain ⟨⟨e0, l0, u0⟩, ⟨e1, l1, u1⟩, ⟨e2, l2, u2⟩, ⟨e3, l3, u3⟩, ⟨e4, l4, u4⟩, ⟨e5, l5, u5⟩, ⟨e6, l6, u6⟩, l7, _⟩ := hr
    generalize d0.i = x0 at *
    generalize d1.i = x1 at *
    generalize d2.i = x2 at *
    generalize d3.i = x3 at *
    generalize d4.i = x4 at *
    generalize d5.i = x5 at *
    generalize d6.i = x6 at *
    generalize d7 = x7 at *
    subst e0 e1 e2 e3 e4 e5 e6
    exact Eq.mpr (TurGRL x0 x1 x2 x3 x4 x5 x6 x7) (TurGRO x0 x1 x2 x3 x4 x5 x6 x7 ⟨l0, u0⟩ ⟨l1, u1⟩ ⟨l2, u2⟩ ⟨l3, u3⟩ ⟨l4, u4⟩ ⟨l5, u5⟩ ⟨l6, u6⟩ l7 hp)
theorem nTurGR : ∃ fn, Tryz.prog.funcs[cTurGR.f]? = some fn ∧ fn.body.isSome = true ∧ (fn.name == "runtime.NumGoroutine") = false := ⟨_, Tryz.func22, by kernel_rfl, by kernel_rfl⟩

/-- What is left of the contract of voxelref07.Diff. -/
def DifRP (x0 : Int) (x1 : Int) (x2 : Int) (x3 : Int) (x4 : Int) (x5 : Int) (x6 : X) (x7 : Int) (x8 : Int) (x9 : Int) (x10 : Int) (x11 : Int) (x12 : Int) (x13 : X) : Prop :=
(Px 989 [(xI x0), (xI x1), (xI x2), (xI x3), (xI x4), (xI x5), x6, (xI x7), (xI x8), (xI x9), (xI x10), (xI x11), (xI x12), x13, (xI 0), (mkX (rwTab 1 []) 0)] ∧
(∀ x20 : X, (∀ x21 : X, (((0 ≤ x20.i) ∧ (x20.i ≤ 2097152)) →
((0 ≤ x21.i ∧ x21.i ≤ 2097152 ∧ RowOk SDr x21.r (x21.i).toNat) →
(Px 989 [(xI x0), (xI x1), (xI x2), (xI x3), (xI x4), (xI x5), x6, (xI x7), (xI x8), (xI x9), (xI x10), (xI x11), (xI x12), x13, x20, x21] →
(((x20.i < x6.i) →
(let v6 : X := Ff 270 [(xI x0), (xI x1), (xI x2), (xI x3), (xI x4), (xI x5), (xI x20.i)]; let v7 : X := Ff 271 [(xI x0), (xI x1), (xI x2), (xI x3), (xI x4), (xI x5), (xI x20.i)]; let v8 : X := Ff 272 [(xI x0), (xI x1), (xI x2), (xI x3), (xI x4), (xI x5), (xI x20.i)]; let v9 : X := Ff 201 [(xI v6.i), (xI v7.i), (xI v8.i), (xI x7), (xI x8), (xI x9), (xI x10), (xI x11), (xI x12)]; (((v9.b = true) →
(x20.i < x6.i)) ∧
(((v9.b = true) →
 Px 710 [(xI x7), (xI x8), (xI x9), (xI x10), (xI x11), (xI x12), x13, (xI v6.i), (xI v7.i), (xI v8.i)]) ∧
(let v14 : X := Ff 908 [(xI x7), (xI x8), (xI x9), (xI x10), (xI x11), (xI x12), x13, (xI v6.i), (xI v7.i), (xI v8.i)]; ((((v9.b = true) ∧ (¬ (v14.i = (x6.r x20.i 0).i))) →
(Px 710 [(xI x7), (xI x8), (xI x9), (xI x10), (xI x11), (xI x12), x13, (xI v6.i), (xI v7.i), (xI v8.i)] ∧
((x20.i < x6.i) ∧
(((x21.i + 1) ≤ 2097152) ∧
(Px 989 [(xI x0), (xI x1), (xI x2), (xI x3), (xI x4), (xI x5), x6, (xI x7), (xI x8), (xI x9), (xI x10), (xI x11), (xI x12), x13, (xI (x20.i + 1)), (mkX (rwCat x21.r x21.i (rwTab 5 [v6, v7, v8, (selX x6.r x20.i 0), v14])) (x21.i + 1))] ∧
(((Ff 989 [(xI x0), (xI x1), (xI x2), (xI x3), (xI x4), (xI x5), x6, (xI x7), (xI x8), (xI x9), (xI x10), (xI x11), (xI x12), x13, (xI (x20.i + 1)), (mkX (rwCat x21.r x21.i (rwTab 5 [v6, v7, v8, (selX x6.r x20.i 0), v14])) (x21.i + 1))]).i < (Ff 989 [(xI x0), (xI x1), (xI x2), (xI x3), (xI x4), (xI x5), x6, (xI x7), (xI x8), (xI x9), (xI x10), (xI x11), (xI x12), x13, x20, x21]).i) ∧
(0 < (Ff 989 [(xI x0), (xI x1), (xI x2), (xI x3), (xI x4), (xI x5), x6, (xI x7), (xI x8), (xI x9), (xI x10), (xI x11), (xI x12), x13, x20, x21]).i))))))) ∧
((¬ ((v9.b = true) ∧ (¬ (v14.i = (x6.r x20.i 0).i)))) →
(Px 989 [(xI x0), (xI x1), (xI x2), (xI x3), (xI x4), (xI x5), x6, (xI x7), (xI x8), (xI x9), (xI x10), (xI x11), (xI x12), x13, (xI (x20.i + 1)), x21] ∧
(((Ff 989 [(xI x0), (xI x1), (xI x2), (xI x3), (xI x4), (xI x5), x6, (xI x7), (xI x8), (xI x9), (xI x10), (xI x11), (xI x12), x13, (xI (x20.i + 1)), x21]).i < (Ff 989 [(xI x0), (xI x1), (xI x2), (xI x3), (xI x4), (xI x5), x6, (xI x7), (xI x8), (xI x9), (xI x10), (xI x11), (xI x12), x13, x20, x21]).i) ∧
(0 < (Ff 989 [(xI x0), (xI x1), (xI x2), (xI x3), (xI x4), (xI x5), x6, (xI x7), (xI x8), (xI x9), (xI x10), (xI x11), (xI x12), x13, x20, x21]).i)))))))))) ∧
((¬ (x20.i < x6.i)) →
(rowEq SDr (Ff 950 [xI x0, xI x1, xI x2, xI x3, xI x4, xI x5, x6, xI x7, xI x8, xI x9, xI x10, xI x11, xI x12, x13]) x21.r x21.i 2097152)))))))))
theorem DifRL (x0 : Int) (x1 : Int) (x2 : Int) (x3 : Int) (x4 : Int) (x5 : Int) (x6 : X) (x7 : Int) (x8 : Int) (x9 : Int) (x10 : Int) (x11 : Int) (x12 : Int) (x13 : X) : (ctrR (fun j => Ff j [xI x0, xI x1, xI x2, xI x3, xI x4, xI x5, x6, xI x7, xI x8, xI x9, xI x10, xI x11, xI x12, x13]) cDifR.fs cDifR.res { ρ0 with x := fun j => [xI x0, xI x1, xI x2, xI x3, xI x4, xI x5, x6, xI x7, xI x8, xI x9, xI x10, xI x11, xI x12, x13].getD j (xI 0) } (walkR Tryz.prog (cfG none [cAtR, cInR] [cGetR] lpDifR sumC) Tryz.f28 400 shPaste)) = DifRP x0 x1 x2 x3 x4 x5 x6 x7 x8 x9 x10 x11 x12 x13 := by kernel_rfl
set_option maxHeartbeats 4000000 in
theorem DifRO (x0 : Int) (x1 : Int) (x2 : Int) (x3 : Int) (x4 : Int) (x5 : Int) (x6 : X) (x7 : Int) (x8 : Int) (x9 : Int) (x10 : Int) (x11 : Int) (x12 : Int) (x13 : X) (g0 : -1048575 ≤ x0 ∧ x0 ≤ 1048575) (g1 : -1048575 ≤ x1 ∧ x1 ≤ 1048575) (g2 : -1048575 ≤ x2 ∧ x2 ≤ 1048575) (g3 : -1048575 ≤ x3 ∧ x3 ≤ 1048575) (g4 : -1048575 ≤ x4 ∧ x4 ≤ 1048575) (g5 : -1048575 ≤ x5 ∧ x5 ≤ 1048575) (g6 : 0 ≤ x6.i ∧ x6.i ≤ 2097152 ∧ RowOk SMat x6.r x6.i.toNat) (g7 : -1048575 ≤ x7 ∧ x7 ≤ 1048575) (g8 : -1048575 ≤ x8 ∧ x8 ≤ 1048575) (g9 : -1048575 ≤ x9 ∧ x9 ≤ 1048575) (g10 : -1048575 ≤ x10 ∧ x10 ≤ 1048575) (g11 : -1048575 ≤ x11 ∧ x11 ≤ 1048575) (g12 : -1048575 ≤ x12 ∧ x12 ≤ 1048575) (g13 : 0 ≤ x13.i ∧ x13.i ≤ 2097152 ∧ RowOk SMat x13.r x13.i.toNat) (gp : Px cDifR.pre.get! [xI x0, xI x1, xI x2, xI x3, xI x4, xI x5, x6, xI x7, xI x8, xI x9, xI x10, xI x11, xI x12, x13]) : DifRP x0 x1 x2 x3 x4 x5 x6 x7 x8 x9 x10 x11 x12 x13 := by
  unfold DifRP
  obtain ⟨q1, q2⟩ := gp
  obtain ⟨k0, k1, k2, k3, k4⟩ := (v700 g6.1).1 q1
  refine andI ?_ fun o0 => ?_
  · exact ⟨Int.le_refl _, g6.1, rfl⟩ -- #0
  intro x20
  intro x21
  intro h1
  intro r2
  intro p3
  obtain ⟨i0, i1, i2⟩ := p3
  have i1 : x20.i ≤ x6.i := i1
  have i2 : lstX deC x21 = (List.range x20.i.toNat).filterMap (difP (bxI x0 x1 x2 x3 x4 x5) (lstX deI x6) (bxI x7 x8 x9 x10 x11 x12) (lstX deI x13)) := i2
  refine And.intro ?_ ?_
  · intro h5
    have hs := difN_step (b := (bxI x0 x1 x2 x3 x4 x5)) (cs := lstX deI x6) (b' := (bxI x7 x8 x9 x10 x11 x12)) (cs' := lstX deI x13) h1.1
    rw [difP_eq, Int.toNat_of_nonneg h1.1, lxI_at h1.1 h5, ← i2] at hs
    intro v6
    intro v7
    intro v8
    intro v9
    refine And.intro ?_ ?_
    · intro h11
      exact h5 -- #1
    refine And.intro ?_ ?_
    · intro h13
      exact q2 -- #2
    intro v14
    refine And.intro ?_ ?_
    · intro h16
      have hs := hs.trans (congrArg (fun t => _ ++ Option.toList t) (if_pos h16))
      have hle := difN_len (b := (bxI x0 x1 x2 x3 x4 x5)) (cs := lstX deI x6) (b' := (bxI x7 x8 x9 x10 x11 x12)) (cs' := lstX deI x13) (k := x20.i + 1) (by omega)
      rw [hs, List.length_append, lstX_len, Option.toList_some, List.length_singleton] at hle
      refine andI ?_ fun o17 => ?_
      · exact q2 -- #3
      refine andI ?_ fun o18 => ?_
      · exact h5 -- #4
      refine andI ?_ fun o19 => ?_
      · omega -- #5
      refine andI ?_ fun o20 => ?_
      · exact ⟨show 0 ≤ x20.i + 1 by omega, show x20.i + 1 ≤ x6.i by omega, (lstX_push r2.1 5 _).trans hs.symm⟩ -- #6
      refine andI ?_ fun o21 => ?_
      · skip -- #7
        show x6.i + 1 - (x20.i + 1) < x6.i + 1 - x20.i
        omega
      skip -- #8
      show 0 < x6.i + 1 - x20.i
      omega
    intro h22
    have hs := hs.trans (congrArg (fun t => _ ++ Option.toList t) (if_neg h22))
    refine andI ?_ fun o23 => ?_
    · exact ⟨show 0 ≤ x20.i + 1 by omega, show x20.i + 1 ≤ x6.i by omega, (hs.trans (List.append_nil _)).symm⟩ -- #9
    refine andI ?_ fun o24 => ?_
    · skip -- #10
      show x6.i + 1 - (x20.i + 1) < x6.i + 1 - x20.i
      omega
    skip -- #11
    show 0 < x6.i + 1 - x20.i
    omega
  intro h25
  skip -- #12
  refine rowEq_of eqEl_C r2.1 r2.2.1 ?_
  have e : x20.i.toNat = (lstX deI x6).length := by
    rw [lstX_len]
    omega
  rw [e] at i2
  exact i2
theorem kDifR : RCtrOk Tryz.prog ρ0 cDifR := by
  refine rctr_ofN (cf := cfG none [cAtR, cInR] [cGetR] lpDifR sumC) (cfG_ok ((keep0.cons kInR nInR).cons kAtR nAtR) (keepR0.cons kGetR nGetR) noF) Tryz.func28 rfl 400 rfl (sh := shPaste) (by kernel_rfl) pas_rsh fun ds hr hp => ?_
  have hr := rshX_flat hr
  match ds, hr, hp with
  | [d0, d1, d2, d3, d4, d5, d6, d7, d8, d9, d10, d11, d12, d13], hr, hp =>
    obtain ⟨⟨e0, l0, u0⟩, ⟨e1, l1, u1⟩, ⟨e2, l2, u2⟩, ⟨e3, l3, u3⟩, ⟨e4, l4, u4⟩, ⟨e5, l5, u5⟩, l6, ⟨e7, l7, u7⟩, ⟨e8, l8, u8⟩, ⟨e9, l9, u9⟩, ⟨e10, l10, u10⟩, ⟨e11, l11, u11⟩, ⟨e12, l12, u12⟩, l13, _⟩ := hr
    generalize d0.i = x0 at *
    generalize d1.i = x1 at *
    generalize d2.i = x2 at *
    generalize d3.i = x3 at *
    generalize d4.i = x4 at *
    generalize d5.i = x5 at *
    generalize d6 = x6 at *
    generalize d7.i = x7 at *
    generalize d8.i = x8 at *
    generalize d9.i = x9 at *
    generalize d10.i = x10 at *
    generalize d11.i = x11 at *
    generalize d12.i = x12 at *
    generalize d13 = x13 at *
    subst e0 e1 e2 e3 e4 e5 e7 e8 e9 e10 e11 e12
    exact Eq.mpr (DifRL x0 x1 x2 x3 x4 x5 x6 x7 x8 x9 x10 x11 x12 x13) (DifRO x0 x1 x2 x3 x4 x5 x6 x7 x8 x9 x10 x11 x12 x13 ⟨l0, u0⟩ ⟨l1, u1⟩ ⟨l2, u2⟩ ⟨l3, u3⟩ ⟨l4, u4⟩ ⟨l5, u5⟩ l6 ⟨l7, u7⟩ ⟨l8, u8⟩ ⟨l9, u9⟩ ⟨l10, u10⟩ ⟨l11, u11⟩ ⟨l12, u12⟩ l13 hp)
theorem nDifR : ∃ fn, Tryz.prog.funcs[cDifR.f]? = some fn ∧ fn.body.isSome = true ∧ (fn.name == "runtime.NumGoroutine") = false := ⟨_, Tryz.func28, by kernel_rfl, by kernel_rfl⟩

/-- What is left of the contract of voxelref07.SameChanges. -/
def SmCP (x0 : X) (x1 : X) : Prop :=
(((¬ (x0.i = x1.i)) →
((false = true) ↔ (Ff 951 [x0, x1]).b = true)) ∧
((x0.i = x1.i) →
(Px 990 [x0, x1, (xI 0)] ∧
(∀ x20 : X, (((0 ≤ x20.i) ∧ (x20.i ≤ 9223372036854775807)) →
(Px 990 [x0, x1, x20] →
(((x20.i < x0.i) →
((x20.i < x1.i) ∧
((x20.i < x0.i) ∧
(((¬ (((x0.r x20.i 0).i = (x1.r x20.i 0).i) ∧ (((x0.r x20.i 1).i = (x1.r x20.i 1).i) ∧ (((x0.r x20.i 2).i = (x1.r x20.i 2).i) ∧ (((x0.r x20.i 3).i = (x1.r x20.i 3).i) ∧ ((x0.r x20.i 4).i = (x1.r x20.i 4).i)))))) →
((false = true) ↔ (Ff 951 [x0, x1]).b = true)) ∧
((((x0.r x20.i 0).i = (x1.r x20.i 0).i) ∧ (((x0.r x20.i 1).i = (x1.r x20.i 1).i) ∧ (((x0.r x20.i 2).i = (x1.r x20.i 2).i) ∧ (((x0.r x20.i 3).i = (x1.r x20.i 3).i) ∧ ((x0.r x20.i 4).i = (x1.r x20.i 4).i))))) →
(Px 990 [x0, x1, (xI (x20.i + 1))] ∧
(((Ff 990 [x0, x1, (xI (x20.i + 1))]).i < (Ff 990 [x0, x1, x20]).i) ∧
(0 < (Ff 990 [x0, x1, x20]).i)))))))) ∧
((¬ (x20.i < x0.i)) →
((true = true) ↔ (Ff 951 [x0, x1]).b = true)))))))))
theorem SmCL (x0 : X) (x1 : X) : (ctrR (fun j => Ff j [x0, x1]) cSmC.fs cSmC.res { ρ0 with x := fun j => [x0, x1].getD j (xI 0) } (walkR Tryz.prog (cfG none [] [] lpSmC sumC) Tryz.f26 400 cSmC.args)) = SmCP x0 x1 := by kernel_rfl
set_option maxHeartbeats 4000000 in
theorem SmCO (x0 : X) (x1 : X) (g0 : 0 ≤ x0.i ∧ x0.i ≤ 9223372036854775807 ∧ RowOk [.int .i64 (-9223372036854775808) (9223372036854775807), .int .i64 (-9223372036854775808) (9223372036854775807), .int .i64 (-9223372036854775808) (9223372036854775807), .int .i64 (-9223372036854775808) (9223372036854775807), .int .i64 (-9223372036854775808) (9223372036854775807)] x0.r x0.i.toNat) (g1 : 0 ≤ x1.i ∧ x1.i ≤ 9223372036854775807 ∧ RowOk [.int .i64 (-9223372036854775808) (9223372036854775807), .int .i64 (-9223372036854775808) (9223372036854775807), .int .i64 (-9223372036854775808) (9223372036854775807), .int .i64 (-9223372036854775808) (9223372036854775807), .int .i64 (-9223372036854775808) (9223372036854775807)] x1.r x1.i.toNat) : SmCP x0 x1 := by
  unfold SmCP
  refine And.intro ?_ ?_
  · intro h1
    exact iff_of_false Bool.false_ne_true fun hv => h1 ((lstC_eq g0.1 g1.1).1 (of_decide_eq_true hv)).1 -- #0
  intro h2
  refine andI ?_ fun o3 => ?_
  · exact ⟨Int.le_refl _, fun j hj => absurd hj (by show ¬ (j : Int) < 0; omega)⟩ -- #1
  intro x20
  intro h4
  intro p5
  obtain ⟨i0, i1⟩ := p5
  refine And.intro ?_ ?_
  · intro h7
    refine andI ?_ fun o8 => ?_
    · omega -- #2
    refine andI ?_ fun o9 => ?_
    · exact h7 -- #3
    refine And.intro ?_ ?_
    · intro h11
      skip -- #4
      refine iff_of_false Bool.false_ne_true fun hv => h11 ?_
      have e := ((lstC_eq g0.1 g1.1).1 (of_decide_eq_true hv)).2 x20.i.toNat (by omega)
      rw [Int.toNat_of_nonneg h4.1] at e
      exact ⟨congrArg (fun c => c.1.1) e, congrArg (fun c => c.1.2.1) e, congrArg (fun c => c.1.2.2) e, congrArg (fun c => c.2.1) e, congrArg (fun c => c.2.2) e⟩
    intro h12
    refine andI ?_ fun o13 => ?_
    · skip -- #5
      refine ⟨show 0 ≤ x20.i + 1 by omega, fun j hj => ?_⟩
      have hj : (j : Int) < x20.i + 1 := hj
      by_cases ej : (j : Int) = x20.i
      · obtain ⟨a, b, c, d, e⟩ := h12
        rw [ej]
        unfold deC
        rw [a, b, c, d, e]
      · exact i1 j (by show (j : Int) < x20.i; omega)
    refine andI ?_ fun o14 => ?_
    · skip -- #6
      show x0.i + 1 - (x20.i + 1) < x0.i + 1 - x20.i
      omega
    skip -- #7
    show 0 < x0.i + 1 - x20.i
    omega
  intro h15
  exact iff_of_true rfl (decide_eq_true ((lstC_eq g0.1 g1.1).2 ⟨h2, fun j hj => i1 j (by show (j : Int) < x20.i; omega)⟩)) -- #8
theorem kSmC : RCtrOk Tryz.prog ρ0 cSmC := by
  refine rctr_of (cf := cfG none [] [] lpSmC sumC) (cfG_ok keep0 keepR0 noF) Tryz.func26 rfl 400 rfl fun ds hr => ?_
  have hr := rshX_flat hr
  match ds, hr with
  | [d0, d1], hr =>
    obtain ⟨l0, l1, _⟩ := hr
    generalize d0 = x0 at *
    generalize d1 = x1 at *
    exact Eq.mpr (SmCL x0 x1) (SmCO x0 x1 l0 l1)
theorem nSmC : ∃ fn, Tryz.prog.funcs[cSmC.f]? = some fn ∧ fn.body.isSome = true ∧ (fn.name == "runtime.NumGoroutine") = false := ⟨_, Tryz.func26, by kernel_rfl, by kernel_rfl⟩

/-- What is left of the contract of grid.Fill. -/
def FilP (x0 : Int) (x1 : Int) (x2 : Int) (x3 : Int) (x4 : Int) (x5 : Int) (x6 : X) (x7 : Int) (x8 : Int) (x9 : Int) (x10 : Int) (x11 : Int) (x12 : Int) (x13 : Int) : Prop :=
(((x6.i = 0) →
(let v2 : X := Ff 222 [(xI x0), (xI x1), (xI x2), (xI x3), (xI x4), (xI x5), (xI x7), (xI x8), (xI x9), (xI x10), (xI x11), (xI x12)]; (Px 986 [(xI x0), (xI x1), (xI x2), (xI x3), (xI x4), (xI x5), x6, (xI x7), (xI x8), (xI x9), (xI x10), (xI x11), (xI x12), (xI x13), (xI v2.i)] ∧
(∀ x20 : X, ((((-1048575) ≤ x20.i) ∧ (x20.i ≤ 1048575)) →
(Px 986 [(xI x0), (xI x1), (xI x2), (xI x3), (xI x4), (xI x5), x6, (xI x7), (xI x8), (xI x9), (xI x10), (xI x11), (xI x12), (xI x13), x20] →
(let v6 : X := Ff 225 [(xI x0), (xI x1), (xI x2), (xI x3), (xI x4), (xI x5), (xI x7), (xI x8), (xI x9), (xI x10), (xI x11), (xI x12)]; (((x20.i < v6.i) →
(let v9 : X := Ff 221 [(xI x0), (xI x1), (xI x2), (xI x3), (xI x4), (xI x5), (xI x7), (xI x8), (xI x9), (xI x10), (xI x11), (xI x12)]; (Px 987 [(xI x0), (xI x1), (xI x2), (xI x3), (xI x4), (xI x5), x6, (xI x7), (xI x8), (xI x9), (xI x10), (xI x11), (xI x12), (xI x13), (xI x20.i), (xI v9.i)] ∧
(∀ x30 : X, ((((-1048575) ≤ x30.i) ∧ (x30.i ≤ 1048575)) →
(Px 987 [(xI x0), (xI x1), (xI x2), (xI x3), (xI x4), (xI x5), x6, (xI x7), (xI x8), (xI x9), (xI x10), (xI x11), (xI x12), (xI x13), (xI x20.i), x30] →
(let v13 : X := Ff 224 [(xI x0), (xI x1), (xI x2), (xI x3), (xI x4), (xI x5), (xI x7), (xI x8), (xI x9), (xI x10), (xI x11), (xI x12)]; (((x30.i < v13.i) →
(Px 988 [(xI x0), (xI x1), (xI x2), (xI x3), (xI x4), (xI x5), x6, (xI x7), (xI x8), (xI x9), (xI x10), (xI x11), (xI x12), (xI x13), (xI x20.i), (xI x30.i), (xI 0)] ∧
(∀ x40 : X, (((0 ≤ x40.i) ∧ (x40.i ≤ 2097152)) →
(Px 988 [(xI x0), (xI x1), (xI x2), (xI x3), (xI x4), (xI x5), x6, (xI x7), (xI x8), (xI x9), (xI x10), (xI x11), (xI x12), (xI x13), (xI x20.i), (xI x30.i), x40] →
(let v19 : X := Ff 223 [(xI x0), (xI x1), (xI x2), (xI x3), (xI x4), (xI x5), (xI x7), (xI x8), (xI x9), (xI x10), (xI x11), (xI x12)]; let v20 : X := Ff 220 [(xI x0), (xI x1), (xI x2), (xI x3), (xI x4), (xI x5), (xI x7), (xI x8), (xI x9), (xI x10), (xI x11), (xI x12)]; (((x40.i < (v19.i - v20.i)) →
 False) ∧
((¬ (x40.i < (v19.i - v20.i))) →
(Px 987 [(xI x0), (xI x1), (xI x2), (xI x3), (xI x4), (xI x5), x6, (xI x7), (xI x8), (xI x9), (xI x10), (xI x11), (xI x12), (xI x13), (xI x20.i), (xI (x30.i + 1))] ∧
(((Ff 987 [(xI x0), (xI x1), (xI x2), (xI x3), (xI x4), (xI x5), x6, (xI x7), (xI x8), (xI x9), (xI x10), (xI x11), (xI x12), (xI x13), (xI x20.i), (xI (x30.i + 1))]).i < (Ff 987 [(xI x0), (xI x1), (xI x2), (xI x3), (xI x4), (xI x5), x6, (xI x7), (xI x8), (xI x9), (xI x10), (xI x11), (xI x12), (xI x13), (xI x20.i), x30]).i) ∧
(0 < (Ff 987 [(xI x0), (xI x1), (xI x2), (xI x3), (xI x4), (xI x5), x6, (xI x7), (xI x8), (xI x9), (xI x10), (xI x11), (xI x12), (xI x13), (xI x20.i), x30]).i))))))))))) ∧
((¬ (x30.i < v13.i)) →
(Px 986 [(xI x0), (xI x1), (xI x2), (xI x3), (xI x4), (xI x5), x6, (xI x7), (xI x8), (xI x9), (xI x10), (xI x11), (xI x12), (xI x13), (xI (x20.i + 1))] ∧
(((Ff 986 [(xI x0), (xI x1), (xI x2), (xI x3), (xI x4), (xI x5), x6, (xI x7), (xI x8), (xI x9), (xI x10), (xI x11), (xI x12), (xI x13), (xI (x20.i + 1))]).i < (Ff 986 [(xI x0), (xI x1), (xI x2), (xI x3), (xI x4), (xI x5), x6, (xI x7), (xI x8), (xI x9), (xI x10), (xI x11), (xI x12), (xI x13), x20]).i) ∧
(0 < (Ff 986 [(xI x0), (xI x1), (xI x2), (xI x3), (xI x4), (xI x5), x6, (xI x7), (xI x8), (xI x9), (xI x10), (xI x11), (xI x12), (xI x13), x20]).i)))))))))))) ∧
((¬ (x20.i < v6.i)) →
((x0 = (Ff 920 [xI x0, xI x1, xI x2, xI x3, xI x4, xI x5, x6, xI x7, xI x8, xI x9, xI x10, xI x11, xI x12, xI x13]).i ∧ -1048575 ≤ (Ff 920 [xI x0, xI x1, xI x2, xI x3, xI x4, xI x5, x6, xI x7, xI x8, xI x9, xI x10, xI x11, xI x12, xI x13]).i ∧ (Ff 920 [xI x0, xI x1, xI x2, xI x3, xI x4, xI x5, x6, xI x7, xI x8, xI x9, xI x10, xI x11, xI x12, xI x13]).i ≤ 1048575) ∧ ((x1 = (Ff 921 [xI x0, xI x1, xI x2, xI x3, xI x4, xI x5, x6, xI x7, xI x8, xI x9, xI x10, xI x11, xI x12, xI x13]).i ∧ -1048575 ≤ (Ff 921 [xI x0, xI x1, xI x2, xI x3, xI x4, xI x5, x6, xI x7, xI x8, xI x9, xI x10, xI x11, xI x12, xI x13]).i ∧ (Ff 921 [xI x0, xI x1, xI x2, xI x3, xI x4, xI x5, x6, xI x7, xI x8, xI x9, xI x10, xI x11, xI x12, xI x13]).i ≤ 1048575) ∧ ((x2 = (Ff 922 [xI x0, xI x1, xI x2, xI x3, xI x4, xI x5, x6, xI x7, xI x8, xI x9, xI x10, xI x11, xI x12, xI x13]).i ∧ -1048575 ≤ (Ff 922 [xI x0, xI x1, xI x2, xI x3, xI x4, xI x5, x6, xI x7, xI x8, xI x9, xI x10, xI x11, xI x12, xI x13]).i ∧ (Ff 922 [xI x0, xI x1, xI x2, xI x3, xI x4, xI x5, x6, xI x7, xI x8, xI x9, xI x10, xI x11, xI x12, xI x13]).i ≤ 1048575) ∧ ((x3 = (Ff 923 [xI x0, xI x1, xI x2, xI x3, xI x4, xI x5, x6, xI x7, xI x8, xI x9, xI x10, xI x11, xI x12, xI x13]).i ∧ -1048575 ≤ (Ff 923 [xI x0, xI x1, xI x2, xI x3, xI x4, xI x5, x6, xI x7, xI x8, xI x9, xI x10, xI x11, xI x12, xI x13]).i ∧ (Ff 923 [xI x0, xI x1, xI x2, xI x3, xI x4, xI x5, x6, xI x7, xI x8, xI x9, xI x10, xI x11, xI x12, xI x13]).i ≤ 1048575) ∧ ((x4 = (Ff 924 [xI x0, xI x1, xI x2, xI x3, xI x4, xI x5, x6, xI x7, xI x8, xI x9, xI x10, xI x11, xI x12, xI x13]).i ∧ -1048575 ≤ (Ff 924 [xI x0, xI x1, xI x2, xI x3, xI x4, xI x5, x6, xI x7, xI x8, xI x9, xI x10, xI x11, xI x12, xI x13]).i ∧ (Ff 924 [xI x0, xI x1, xI x2, xI x3, xI x4, xI x5, x6, xI x7, xI x8, xI x9, xI x10, xI x11, xI x12, xI x13]).i ≤ 1048575) ∧ ((x5 = (Ff 925 [xI x0, xI x1, xI x2, xI x3, xI x4, xI x5, x6, xI x7, xI x8, xI x9, xI x10, xI x11, xI x12, xI x13]).i ∧ -1048575 ≤ (Ff 925 [xI x0, xI x1, xI x2, xI x3, xI x4, xI x5, x6, xI x7, xI x8, xI x9, xI x10, xI x11, xI x12, xI x13]).i ∧ (Ff 925 [xI x0, xI x1, xI x2, xI x3, xI x4, xI x5, x6, xI x7, xI x8, xI x9, xI x10, xI x11, xI x12, xI x13]).i ≤ 1048575) ∧ ((Ff 926 [xI x0, xI x1, xI x2, xI x3, xI x4, xI x5, x6, xI x7, xI x8, xI x9, xI x10, xI x11, xI x12, xI x13]).i = 0 ∧ 0 ≤ (2097152 : Int))))))))))))))))) ∧
(let v30 : X := Ff 222 [(xI x0), (xI x1), (xI x2), (xI x3), (xI x4), (xI x5), (xI x7), (xI x8), (xI x9), (xI x10), (xI x11), (xI x12)]; (Px 976 [(xI x0), (xI x1), (xI x2), (xI x3), (xI x4), (xI x5), x6, (xI x7), (xI x8), (xI x9), (xI x10), (xI x11), (xI x12), (xI x13), (xI v30.i), x6] ∧
(∀ x20 : X, (∀ x21 : X, ((((-1048575) ≤ x20.i) ∧ (x20.i ≤ 1048575)) →
((0 ≤ x21.i ∧ x21.i ≤ 2097152 ∧ RowOk SMat x21.r (x21.i).toNat) →
(Px 976 [(xI x0), (xI x1), (xI x2), (xI x3), (xI x4), (xI x5), x6, (xI x7), (xI x8), (xI x9), (xI x10), (xI x11), (xI x12), (xI x13), x20, x21] →
(let v35 : X := Ff 225 [(xI x0), (xI x1), (xI x2), (xI x3), (xI x4), (xI x5), (xI x7), (xI x8), (xI x9), (xI x10), (xI x11), (xI x12)]; (((x20.i < v35.i) →
(let v38 : X := Ff 221 [(xI x0), (xI x1), (xI x2), (xI x3), (xI x4), (xI x5), (xI x7), (xI x8), (xI x9), (xI x10), (xI x11), (xI x12)]; (Px 977 [(xI x0), (xI x1), (xI x2), (xI x3), (xI x4), (xI x5), x6, (xI x7), (xI x8), (xI x9), (xI x10), (xI x11), (xI x12), (xI x13), (xI x20.i), (xI v38.i), x21] ∧
(∀ x30 : X, (∀ x31 : X, ((((-1048575) ≤ x30.i) ∧ (x30.i ≤ 1048575)) →
((0 ≤ x31.i ∧ x31.i ≤ 2097152 ∧ RowOk SMat x31.r (x31.i).toNat) →
(Px 977 [(xI x0), (xI x1), (xI x2), (xI x3), (xI x4), (xI x5), x6, (xI x7), (xI x8), (xI x9), (xI x10), (xI x11), (xI x12), (xI x13), (xI x20.i), x30, x31] →
(let v43 : X := Ff 224 [(xI x0), (xI x1), (xI x2), (xI x3), (xI x4), (xI x5), (xI x7), (xI x8), (xI x9), (xI x10), (xI x11), (xI x12)]; (((x30.i < v43.i) →
(Px 978 [(xI x0), (xI x1), (xI x2), (xI x3), (xI x4), (xI x5), x6, (xI x7), (xI x8), (xI x9), (xI x10), (xI x11), (xI x12), (xI x13), (xI x20.i), (xI x30.i), (xI 0), x31] ∧
(∀ x40 : X, (∀ x41 : X, (((0 ≤ x40.i) ∧ (x40.i ≤ 2097152)) →
((0 ≤ x41.i ∧ x41.i ≤ 2097152 ∧ RowOk SMat x41.r (x41.i).toNat) →
(Px 978 [(xI x0), (xI x1), (xI x2), (xI x3), (xI x4), (xI x5), x6, (xI x7), (xI x8), (xI x9), (xI x10), (xI x11), (xI x12), (xI x13), (xI x20.i), (xI x30.i), x40, x41] →
(let v50 : X := Ff 223 [(xI x0), (xI x1), (xI x2), (xI x3), (xI x4), (xI x5), (xI x7), (xI x8), (xI x9), (xI x10), (xI x11), (xI x12)]; let v51 : X := Ff 220 [(xI x0), (xI x1), (xI x2), (xI x3), (xI x4), (xI x5), (xI x7), (xI x8), (xI x9), (xI x10), (xI x11), (xI x12)]; (((x40.i < (v50.i - v51.i)) →
(let v54 : X := Ff 260 [(xI x0), (xI x1), (xI x2), (xI x3), (xI x4), (xI x5), (xI v51.i), (xI x30.i), (xI x20.i)]; ((0 ≤ (v54.i + x40.i)) ∧
(((v54.i + x40.i) < x41.i) ∧
(Px 978 [(xI x0), (xI x1), (xI x2), (xI x3), (xI x4), (xI x5), x6, (xI x7), (xI x8), (xI x9), (xI x10), (xI x11), (xI x12), (xI x13), (xI x20.i), (xI x30.i), (xI (x40.i + 1)), (mkX (rwSet x41.r (v54.i + x40.i) 0 (xI x13)) x41.i)] ∧
(((Ff 978 [(xI x0), (xI x1), (xI x2), (xI x3), (xI x4), (xI x5), x6, (xI x7), (xI x8), (xI x9), (xI x10), (xI x11), (xI x12), (xI x13), (xI x20.i), (xI x30.i), (xI (x40.i + 1)), (mkX (rwSet x41.r (v54.i + x40.i) 0 (xI x13)) x41.i)]).i < (Ff 978 [(xI x0), (xI x1), (xI x2), (xI x3), (xI x4), (xI x5), x6, (xI x7), (xI x8), (xI x9), (xI x10), (xI x11), (xI x12), (xI x13), (xI x20.i), (xI x30.i), x40, x41]).i) ∧
(0 < (Ff 978 [(xI x0), (xI x1), (xI x2), (xI x3), (xI x4), (xI x5), x6, (xI x7), (xI x8), (xI x9), (xI x10), (xI x11), (xI x12), (xI x13), (xI x20.i), (xI x30.i), x40, x41]).i))))))) ∧
((¬ (x40.i < (v50.i - v51.i))) →
(Px 977 [(xI x0), (xI x1), (xI x2), (xI x3), (xI x4), (xI x5), x6, (xI x7), (xI x8), (xI x9), (xI x10), (xI x11), (xI x12), (xI x13), (xI x20.i), (xI (x30.i + 1)), x41] ∧
(((Ff 977 [(xI x0), (xI x1), (xI x2), (xI x3), (xI x4), (xI x5), x6, (xI x7), (xI x8), (xI x9), (xI x10), (xI x11), (xI x12), (xI x13), (xI x20.i), (xI (x30.i + 1)), x41]).i < (Ff 977 [(xI x0), (xI x1), (xI x2), (xI x3), (xI x4), (xI x5), x6, (xI x7), (xI x8), (xI x9), (xI x10), (xI x11), (xI x12), (xI x13), (xI x20.i), x30, x31]).i) ∧
(0 < (Ff 977 [(xI x0), (xI x1), (xI x2), (xI x3), (xI x4), (xI x5), x6, (xI x7), (xI x8), (xI x9), (xI x10), (xI x11), (xI x12), (xI x13), (xI x20.i), x30, x31]).i))))))))))))) ∧
((¬ (x30.i < v43.i)) →
(Px 976 [(xI x0), (xI x1), (xI x2), (xI x3), (xI x4), (xI x5), x6, (xI x7), (xI x8), (xI x9), (xI x10), (xI x11), (xI x12), (xI x13), (xI (x20.i + 1)), x31] ∧
(((Ff 976 [(xI x0), (xI x1), (xI x2), (xI x3), (xI x4), (xI x5), x6, (xI x7), (xI x8), (xI x9), (xI x10), (xI x11), (xI x12), (xI x13), (xI (x20.i + 1)), x31]).i < (Ff 976 [(xI x0), (xI x1), (xI x2), (xI x3), (xI x4), (xI x5), x6, (xI x7), (xI x8), (xI x9), (xI x10), (xI x11), (xI x12), (xI x13), x20, x21]).i) ∧
(0 < (Ff 976 [(xI x0), (xI x1), (xI x2), (xI x3), (xI x4), (xI x5), x6, (xI x7), (xI x8), (xI x9), (xI x10), (xI x11), (xI x12), (xI x13), x20, x21]).i)))))))))))))) ∧
((¬ (x20.i < v35.i)) →
((x0 = (Ff 920 [xI x0, xI x1, xI x2, xI x3, xI x4, xI x5, x6, xI x7, xI x8, xI x9, xI x10, xI x11, xI x12, xI x13]).i ∧ -1048575 ≤ (Ff 920 [xI x0, xI x1, xI x2, xI x3, xI x4, xI x5, x6, xI x7, xI x8, xI x9, xI x10, xI x11, xI x12, xI x13]).i ∧ (Ff 920 [xI x0, xI x1, xI x2, xI x3, xI x4, xI x5, x6, xI x7, xI x8, xI x9, xI x10, xI x11, xI x12, xI x13]).i ≤ 1048575) ∧ ((x1 = (Ff 921 [xI x0, xI x1, xI x2, xI x3, xI x4, xI x5, x6, xI x7, xI x8, xI x9, xI x10, xI x11, xI x12, xI x13]).i ∧ -1048575 ≤ (Ff 921 [xI x0, xI x1, xI x2, xI x3, xI x4, xI x5, x6, xI x7, xI x8, xI x9, xI x10, xI x11, xI x12, xI x13]).i ∧ (Ff 921 [xI x0, xI x1, xI x2, xI x3, xI x4, xI x5, x6, xI x7, xI x8, xI x9, xI x10, xI x11, xI x12, xI x13]).i ≤ 1048575) ∧ ((x2 = (Ff 922 [xI x0, xI x1, xI x2, xI x3, xI x4, xI x5, x6, xI x7, xI x8, xI x9, xI x10, xI x11, xI x12, xI x13]).i ∧ -1048575 ≤ (Ff 922 [xI x0, xI x1, xI x2, xI x3, xI x4, xI x5, x6, xI x7, xI x8, xI x9, xI x10, xI x11, xI x12, xI x13]).i ∧ (Ff 922 [xI x0, xI x1, xI x2, xI x3, xI x4, xI x5, x6, xI x7, xI x8, xI x9, xI x10, xI x11, xI x12, xI x13]).i ≤ 1048575) ∧ ((x3 = (Ff 923 [xI x0, xI x1, xI x2, xI x3, xI x4, xI x5, x6, xI x7, xI x8, xI x9, xI x10, xI x11, xI x12, xI x13]).i ∧ -1048575 ≤ (Ff 923 [xI x0, xI x1, xI x2, xI x3, xI x4, xI x5, x6, xI x7, xI x8, xI x9, xI x10, xI x11, xI x12, xI x13]).i ∧ (Ff 923 [xI x0, xI x1, xI x2, xI x3, xI x4, xI x5, x6, xI x7, xI x8, xI x9, xI x10, xI x11, xI x12, xI x13]).i ≤ 1048575) ∧ ((x4 = (Ff 924 [xI x0, xI x1, xI x2, xI x3, xI x4, xI x5, x6, xI x7, xI x8, xI x9, xI x10, xI x11, xI x12, xI x13]).i ∧ -1048575 ≤ (Ff 924 [xI x0, xI x1, xI x2, xI x3, xI x4, xI x5, x6, xI x7, xI x8, xI x9, xI x10, xI x11, xI x12, xI x13]).i ∧ (Ff 924 [xI x0, xI x1, xI x2, xI x3, xI x4, xI x5, x6, xI x7, xI x8, xI x9, xI x10, xI x11, xI x12, xI x13]).i ≤ 1048575) ∧ ((x5 = (Ff 925 [xI x0, xI x1, xI x2, xI x3, xI x4, xI x5, x6, xI x7, xI x8, xI x9, xI x10, xI x11, xI x12, xI x13]).i ∧ -1048575 ≤ (Ff 925 [xI x0, xI x1, xI x2, xI x3, xI x4, xI x5, x6, xI x7, xI x8, xI x9, xI x10, xI x11, xI x12, xI x13]).i ∧ (Ff 925 [xI x0, xI x1, xI x2, xI x3, xI x4, xI x5, x6, xI x7, xI x8, xI x9, xI x10, xI x11, xI x12, xI x13]).i ≤ 1048575) ∧ (rowEq SMat (Ff 926 [xI x0, xI x1, xI x2, xI x3, xI x4, xI x5, x6, xI x7, xI x8, xI x9, xI x10, xI x11, xI x12, xI x13]) x21.r x21.i 2097152))))))))))))))))))
theorem FilL (x0 : Int) (x1 : Int) (x2 : Int) (x3 : Int) (x4 : Int) (x5 : Int) (x6 : X) (x7 : Int) (x8 : Int) (x9 : Int) (x10 : Int) (x11 : Int) (x12 : Int) (x13 : Int) : (ctrR (fun j => Ff j [xI x0, xI x1, xI x2, xI x3, xI x4, xI x5, x6, xI x7, xI x8, xI x9, xI x10, xI x11, xI x12, xI x13]) cFil.fs cFil.res { ρ0 with x := fun j => [xI x0, xI x1, xI x2, xI x3, xI x4, xI x5, x6, xI x7, xI x8, xI x9, xI x10, xI x11, xI x12, xI x13].getD j (xI 0) } (walkR Tryz.prog (cfG none [cInter, cIndex] [] lpFil sumC) Tryz.f15 500 shFil)) = FilP x0 x1 x2 x3 x4 x5 x6 x7 x8 x9 x10 x11 x12 x13 := by kernel_rfl
set_option maxHeartbeats 4000000 in
theorem FilO (x0 : Int) (x1 : Int) (x2 : Int) (x3 : Int) (x4 : Int) (x5 : Int) (x6 : X) (x7 : Int) (x8 : Int) (x9 : Int) (x10 : Int) (x11 : Int) (x12 : Int) (x13 : Int) (g0 : -1048575 ≤ x0 ∧ x0 ≤ 1048575) (g1 : -1048575 ≤ x1 ∧ x1 ≤ 1048575) (g2 : -1048575 ≤ x2 ∧ x2 ≤ 1048575) (g3 : -1048575 ≤ x3 ∧ x3 ≤ 1048575) (g4 : -1048575 ≤ x4 ∧ x4 ≤ 1048575) (g5 : -1048575 ≤ x5 ∧ x5 ≤ 1048575) (g6 : 0 ≤ x6.i ∧ x6.i ≤ 2097152 ∧ RowOk SMat x6.r x6.i.toNat) (g7 : -1048575 ≤ x7 ∧ x7 ≤ 1048575) (g8 : -1048575 ≤ x8 ∧ x8 ≤ 1048575) (g9 : -1048575 ≤ x9 ∧ x9 ≤ 1048575) (g10 : -1048575 ≤ x10 ∧ x10 ≤ 1048575) (g11 : -1048575 ≤ x11 ∧ x11 ≤ 1048575) (g12 : -1048575 ≤ x12 ∧ x12 ≤ 1048575) (g13 : 0 ≤ x13 ∧ x13 ≤ 255) (gp : Px cFil.pre.get! [xI x0, xI x1, xI x2, xI x3, xI x4, xI x5, x6, xI x7, xI x8, xI x9, xI x10, xI x11, xI x12, xI x13]) : FilP x0 x1 x2 x3 x4 x5 x6 x7 x8 x9 x10 x11 x12 x13 := by
  unfold FilP
  obtain ⟨q1, q2⟩ := gp
  obtain ⟨k0, k1, k2, k3, k4⟩ := (v700 g6.1).1 q1
  have hV : (bxI x0 x1 x2 x3 x4 x5).vol = x6.i := k3
  have hd := fun p => has_def (b := ((bxI x0 x1 x2 x3 x4 x5).int (bxI x7 x8 x9 x10 x11 x12))) (p := p)
  clear k4 q1 q2
  refine And.intro ?_ ?_
  · intro h1
    have hz := int_nil (b := bxI x0 x1 x2 x3 x4 x5) (b' := bxI x7 x8 x9 x10 x11 x12) (by
      intro hc
      have := vol_pos' (b := bxI x0 x1 x2 x3 x4 x5) hc
      omega)
    intro v2
    refine andI ?_ fun o3 => ?_
    · exact Int.le_of_eq hz.1.symm -- #0
    intro x20
    intro h4
    intro p5
    have p5 : 0 ≤ x20.i := p5
    intro v6
    have e6 : v6.i = 0 := hz.2
    refine And.intro ?_ ?_
    · intro h8
      intro v9
      refine andI ?_ fun o10 => ?_
      · exact trivial -- #1
      intro x30
      intro h11
      intro p12
      intro v13
      refine And.intro ?_ ?_
      · intro h15
        refine andI ?_ fun o16 => ?_
        · exact trivial -- #2
        intro x40
        intro h17
        intro p18
        intro v19
        intro v20
        refine And.intro ?_ ?_
        · intro h22
          omega -- #3
        intro h23
        refine andI ?_ fun o24 => ?_
        · exact trivial -- #4
        refine andI ?_ fun o25 => ?_
        · skip -- #5
          show 1048576 - (x30.i + 1) < 1048576 - x30.i
          omega
        skip -- #6
        show 0 < 1048576 - x30.i
        omega
      intro h26
      refine andI ?_ fun o27 => ?_
      · skip -- #7
        show 0 ≤ x20.i + 1
        omega
      refine andI ?_ fun o28 => ?_
      · skip -- #8
        show 1048576 - (x20.i + 1) < 1048576 - x20.i
        omega
      skip -- #9
      show 0 < 1048576 - x20.i
      omega
    intro h29
    skip -- #10
    refine ⟨⟨rfl, g0⟩, ⟨rfl, g1⟩, ⟨rfl, g2⟩, ⟨rfl, g3⟩, ⟨rfl, g4⟩, ⟨rfl, g5⟩, ?_, by decide⟩
    show ((filL (bxI x0 x1 x2 x3 x4 x5) (lstX deI x6) (bxI x7 x8 x9 x10 x11 x12) x13).length : Int) = 0
    rw [fil_len, lstX_len]
    omega
  intro v30
  refine andI ?_ fun o31 => ?_
  · skip -- #11
    refine ⟨fil_congr hV (fil_none rfl) fun p hp => ?_, Int.le_refl _⟩
    have := (hd p).1 hp
    exact (decide_eq_false (by show ¬ p.2.2 < ((bxI x0 x1 x2 x3 x4 x5).int (bxI x7 x8 x9 x10 x11 x12)).c; omega)).symm
  intro x20
  intro x21
  intro h32
  intro r33
  intro p34
  have p34 : filI (bxI x0 x1 x2 x3 x4 x5) x6 (bxI x7 x8 x9 x10 x11 x12) x13 (fun p => decide (p.2.2 < x20.i)) x21 ∧ ((bxI x0 x1 x2 x3 x4 x5).int (bxI x7 x8 x9 x10 x11 x12)).c ≤ x20.i := p34
  intro v35
  refine And.intro ?_ ?_
  · intro h37
    intro v38
    refine andI ?_ fun o39 => ?_
    · skip -- #12
      refine ⟨fil_congr hV p34.1 fun p hp => ?_, Int.le_refl _⟩
      have := (hd p).1 hp
      rw [Bool.eq_iff_iff]
      simp only [Bool.or_eq_true, Bool.and_eq_true, decide_eq_true_eq]
      show p.2.2 < x20.i ↔ p.2.2 < x20.i ∨ (p.2.2 = x20.i ∧ p.2.1 < ((bxI x0 x1 x2 x3 x4 x5).int (bxI x7 x8 x9 x10 x11 x12)).b)
      omega
    intro x30
    intro x31
    intro h40
    intro r41
    intro p42
    have p42 : filI (bxI x0 x1 x2 x3 x4 x5) x6 (bxI x7 x8 x9 x10 x11 x12) x13 (fun p => decide (p.2.2 < x20.i) || (decide (p.2.2 = x20.i) && decide (p.2.1 < x30.i))) x31 ∧ ((bxI x0 x1 x2 x3 x4 x5).int (bxI x7 x8 x9 x10 x11 x12)).b ≤ x30.i := p42
    intro v43
    refine And.intro ?_ ?_
    · intro h45
      refine andI ?_ fun o46 => ?_
      · skip -- #13
        refine ⟨fil_congr hV p42.1 fun p hp => ?_, Int.le_refl _⟩
        have := (hd p).1 hp
        rw [Bool.eq_iff_iff]
        simp only [Bool.or_eq_true, Bool.and_eq_true, decide_eq_true_eq]
        show p.2.2 < x20.i ∨ (p.2.2 = x20.i ∧ p.2.1 < x30.i) ↔ p.2.2 < x20.i ∨ (p.2.2 = x20.i ∧ (p.2.1 < x30.i ∨ (p.2.1 = x30.i ∧ p.1 < ((bxI x0 x1 x2 x3 x4 x5).int (bxI x7 x8 x9 x10 x11 x12)).a + 0)))
        omega
      intro x40
      intro x41
      intro h47
      intro r48
      intro p49
      have p49 : filI (bxI x0 x1 x2 x3 x4 x5) x6 (bxI x7 x8 x9 x10 x11 x12) x13 (sX (((bxI x0 x1 x2 x3 x4 x5).int (bxI x7 x8 x9 x10 x11 x12)).a + x40.i) x30.i x20.i) x41 ∧ 0 ≤ x40.i := p49
      have e49 := p49.1.1
      intro v50
      intro v51
      refine And.intro ?_ ?_
      · intro h53
        obtain ⟨ra, ⟨rb, rb'⟩, rc, rd⟩ := row_ok ⟨p34.2, h37⟩ ⟨p42.2, h45⟩ ⟨p49.2, h53⟩
        intro v54
        refine andI ?_ fun o55 => ?_
        · exact rc.1 -- #14
        refine andI ?_ fun o56 => ?_
        · skip -- #15
          have : v54.i + x40.i < (bxI x0 x1 x2 x3 x4 x5).vol := rc.2
          omega
        refine andI ?_ fun o57 => ?_
        · skip -- #16
          refine ⟨?_, show 0 ≤ x40.i + 1 by omega⟩
          have hf := fil_step (r := rwSet x41.r (v54.i + x40.i) 0 (xI x13)) hV ra rb.symm p49.1 fun i => set_i
          rw [Int.add_assoc] at hf
          exact hf
        refine andI ?_ fun o58 => ?_
        · skip -- #17
          show 4194304 - (x40.i + 1) < 4194304 - x40.i
          omega
        skip -- #18
        show 0 < 4194304 - x40.i
        omega
      intro h59
      refine andI ?_ fun o60 => ?_
      · skip -- #19
        refine ⟨fil_congr hV p49.1 fun p hp => ?_, show ((bxI x0 x1 x2 x3 x4 x5).int (bxI x7 x8 x9 x10 x11 x12)).b ≤ x30.i + 1 by omega⟩
        have := (hd p).1 hp
        have h59 : ¬ (x40.i < ((bxI x0 x1 x2 x3 x4 x5).int (bxI x7 x8 x9 x10 x11 x12)).d - ((bxI x0 x1 x2 x3 x4 x5).int (bxI x7 x8 x9 x10 x11 x12)).a) := h59
        unfold sX
        rw [Bool.eq_iff_iff]
        simp only [Bool.or_eq_true, Bool.and_eq_true, decide_eq_true_eq]
        show _ ↔ p.2.2 < x20.i ∨ (p.2.2 = x20.i ∧ p.2.1 < x30.i + 1)
        omega
      refine andI ?_ fun o61 => ?_
      · skip -- #20
        show 1048576 - (x30.i + 1) < 1048576 - x30.i
        omega
      skip -- #21
      show 0 < 1048576 - x30.i
      omega
    intro h62
    refine andI ?_ fun o63 => ?_
    · skip -- #22
      refine ⟨fil_congr hV p42.1 fun p hp => ?_, show ((bxI x0 x1 x2 x3 x4 x5).int (bxI x7 x8 x9 x10 x11 x12)).c ≤ x20.i + 1 by omega⟩
      have := (hd p).1 hp
      have h62 : ¬ x30.i < ((bxI x0 x1 x2 x3 x4 x5).int (bxI x7 x8 x9 x10 x11 x12)).e := h62
      rw [Bool.eq_iff_iff]
      simp only [Bool.or_eq_true, Bool.and_eq_true, decide_eq_true_eq]
      show p.2.2 < x20.i ∨ (p.2.2 = x20.i ∧ p.2.1 < x30.i) ↔ p.2.2 < x20.i + 1
      omega
    refine andI ?_ fun o64 => ?_
    · skip -- #23
      show 1048576 - (x20.i + 1) < 1048576 - x20.i
      omega
    skip -- #24
    show 0 < 1048576 - x20.i
    omega
  intro h65
  skip -- #25
  refine ⟨⟨rfl, g0⟩, ⟨rfl, g1⟩, ⟨rfl, g2⟩, ⟨rfl, g3⟩, ⟨rfl, g4⟩, ⟨rfl, g5⟩, rowEq_of eqEl_int r33.1 r33.2.1 (fil_end hV p34.1 fun p hp => ?_)⟩
  have := (hd p).1 hp
  have h65 : ¬ x20.i < ((bxI x0 x1 x2 x3 x4 x5).int (bxI x7 x8 x9 x10 x11 x12)).f := h65
  exact decide_eq_true (by omega)
theorem kFil : RCtrOk Tryz.prog ρ0 cFil := by
  refine rctr_ofN (cf := cfG none [cInter, cIndex] [] lpFil sumC) (cfG_ok ((keep0.cons kIndex nIndex).cons kInter nInter) keepR0 noF) Tryz.func15 rfl 500 rfl (sh := shFil) (by kernel_rfl) fil_rsh fun ds hr hp => ?_
  have hr := rshX_flat hr
  match ds, hr, hp with
  | [d0, d1, d2, d3, d4, d5, d6, d7, d8, d9, d10, d11, d12, d13], hr, hp =>
    obtain ⟨⟨e0, l0, u0⟩, ⟨e1, l1, u1⟩, ⟨e2, l2, u2⟩, ⟨e3, l3, u3⟩, ⟨e4, l4, u4⟩, ⟨e5, l5, u5⟩, l6, ⟨e7, l7, u7⟩, ⟨e8, l8, u8⟩, ⟨e9, l9, u9⟩, ⟨e10, l10, u10⟩, ⟨e11, l11, u11⟩, ⟨e12, l12, u12⟩, ⟨e13, l13, u13⟩, _⟩ := hr
    generalize d0.i = x0 at *
    generalize d1.i = x1 at *
    generalize d2.i = x2 at *
    generalize d3.i = x3 at *
    generalize d4.i = x4 at *
    generalize d5.i = x5 at *
    generalize d6 = x6 at *
    generalize d7.i = x7 at *
    generalize d8.i = x8 at *
    generalize d9.i = x9 at *
    generalize d10.i = x10 at *
    generalize d11.i = x11 at *
    generalize d12.i = x12 at *
    generalize d13.i = x13 at *
    subst e0 e1 e2 e3 e4 e5 e7 e8 e9 e10 e11 e12 e13
    exact Eq.mpr (FilL x0 x1 x2 x3 x4 x5 x6 x7 x8 x9 x10 x11 x12 x13) (FilO x0 x1 x2 x3 x4 x5 x6 x7 x8 x9 x10 x11 x12 x13 ⟨l0, u0⟩ ⟨l1, u1⟩ ⟨l2, u2⟩ ⟨l3, u3⟩ ⟨l4, u4⟩ ⟨l5, u5⟩ l6 ⟨l7, u7⟩ ⟨l8, u8⟩ ⟨l9, u9⟩ ⟨l10, u10⟩ ⟨l11, u11⟩ ⟨l12, u12⟩ ⟨l13, u13⟩ hp)
theorem nFil : ∃ fn, Tryz.prog.funcs[cFil.f]? = some fn ∧ fn.body.isSome = true ∧ (fn.name == "runtime.NumGoroutine") = false := ⟨_, Tryz.func15, by kernel_rfl, by kernel_rfl⟩
end Vc
end Go.Proofs.YtleapeclbkclaaaGreatDoor
