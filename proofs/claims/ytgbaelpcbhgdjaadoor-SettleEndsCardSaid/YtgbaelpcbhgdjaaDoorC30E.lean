/- Contracts of functions, each out of one walk. -/
import Derived.Test.YtgbaelpcbhgdjaaDoorC30D
import Derived.Test.YtgbaelpcbhgdjaaDoorC30M
import Derived.Test.YtgbaelpcbhgdjaaDoorC04D
import Derived.Test.YtgbaelpcbhgdjaaDoorC04E
import Derived.Test.YtgbaelpcbhgdjaaDoorC07P
namespace Go.Proofs.YtgbaelpcbhgdjaaDoor
namespace Vc
open Go Go.RowKit
set_option linter.unusedVariables false

/-- What is left of the contract of voxelref07.Equal. -/
def EqRP (x0 : Int) (x1 : Int) (x2 : Int) (x3 : Int) (x4 : Int) (x5 : Int) (x6 : X) (x7 : Int) (x8 : Int) (x9 : Int) (x10 : Int) (x11 : Int) (x12 : Int) (x13 : X) : Prop :=
((((¬ ((x0 = x7) ∧ ((x1 = x8) ∧ ((x2 = x9) ∧ ((x3 = x10) ∧ ((x4 = x11) ∧ (x5 = x12))))))) ∨ (¬ (x6.i = x13.i))) →
((false = true) ↔ (Ff 715 [xI x0, xI x1, xI x2, xI x3, xI x4, xI x5, x6, xI x7, xI x8, xI x9, xI x10, xI x11, xI x12, x13]).b = true)) ∧
((¬ ((¬ ((x0 = x7) ∧ ((x1 = x8) ∧ ((x2 = x9) ∧ ((x3 = x10) ∧ ((x4 = x11) ∧ (x5 = x12))))))) ∨ (¬ (x6.i = x13.i)))) →
(Px 734 [(xI x0), (xI x1), (xI x2), (xI x3), (xI x4), (xI x5), x6, (xI x7), (xI x8), (xI x9), (xI x10), (xI x11), (xI x12), x13, (xI 0)] ∧
(∀ x20 : X, (((0 ≤ x20.i) ∧ (x20.i ≤ 9223372036854775807)) →
(Px 734 [(xI x0), (xI x1), (xI x2), (xI x3), (xI x4), (xI x5), x6, (xI x7), (xI x8), (xI x9), (xI x10), (xI x11), (xI x12), x13, x20] →
(((x20.i < x6.i) →
((x20.i < x13.i) ∧
((x20.i < x6.i) ∧
(((¬ ((x6.r x20.i 0).i = (x13.r x20.i 0).i)) →
((false = true) ↔ (Ff 715 [xI x0, xI x1, xI x2, xI x3, xI x4, xI x5, x6, xI x7, xI x8, xI x9, xI x10, xI x11, xI x12, x13]).b = true)) ∧
(((x6.r x20.i 0).i = (x13.r x20.i 0).i) →
(Px 734 [(xI x0), (xI x1), (xI x2), (xI x3), (xI x4), (xI x5), x6, (xI x7), (xI x8), (xI x9), (xI x10), (xI x11), (xI x12), x13, (xI (x20.i + 1))] ∧
(((Ff 764 [(xI x0), (xI x1), (xI x2), (xI x3), (xI x4), (xI x5), x6, (xI x7), (xI x8), (xI x9), (xI x10), (xI x11), (xI x12), x13, (xI (x20.i + 1))]).i < (Ff 764 [(xI x0), (xI x1), (xI x2), (xI x3), (xI x4), (xI x5), x6, (xI x7), (xI x8), (xI x9), (xI x10), (xI x11), (xI x12), x13, x20]).i) ∧
(0 < (Ff 764 [(xI x0), (xI x1), (xI x2), (xI x3), (xI x4), (xI x5), x6, (xI x7), (xI x8), (xI x9), (xI x10), (xI x11), (xI x12), x13, x20]).i)))))))) ∧
((¬ (x20.i < x6.i)) →
((true = true) ↔ (Ff 715 [xI x0, xI x1, xI x2, xI x3, xI x4, xI x5, x6, xI x7, xI x8, xI x9, xI x10, xI x11, xI x12, x13]).b = true)))))))))
theorem EqRL (x0 : Int) (x1 : Int) (x2 : Int) (x3 : Int) (x4 : Int) (x5 : Int) (x6 : X) (x7 : Int) (x8 : Int) (x9 : Int) (x10 : Int) (x11 : Int) (x12 : Int) (x13 : X) : (ctrR (fun j => Ff j [xI x0, xI x1, xI x2, xI x3, xI x4, xI x5, x6, xI x7, xI x8, xI x9, xI x10, xI x11, xI x12, x13]) cEqR.fs cEqR.res { ρ0 with x := fun j => [xI x0, xI x1, xI x2, xI x3, xI x4, xI x5, x6, xI x7, xI x8, xI x9, xI x10, xI x11, xI x12, x13].getD j (xI 0) } (walkR Tryd.prog (cfG none [] [] lpEqR sumL) Tryd.f15 400 cEqR.args)) = EqRP x0 x1 x2 x3 x4 x5 x6 x7 x8 x9 x10 x11 x12 x13 := by kernel_rfl
set_option maxHeartbeats 4000000 in
theorem EqRO (x0 : Int) (x1 : Int) (x2 : Int) (x3 : Int) (x4 : Int) (x5 : Int) (x6 : X) (x7 : Int) (x8 : Int) (x9 : Int) (x10 : Int) (x11 : Int) (x12 : Int) (x13 : X) (g0 : -9223372036854775808 ≤ x0 ∧ x0 ≤ 9223372036854775807) (g1 : -9223372036854775808 ≤ x1 ∧ x1 ≤ 9223372036854775807) (g2 : -9223372036854775808 ≤ x2 ∧ x2 ≤ 9223372036854775807) (g3 : -9223372036854775808 ≤ x3 ∧ x3 ≤ 9223372036854775807) (g4 : -9223372036854775808 ≤ x4 ∧ x4 ≤ 9223372036854775807) (g5 : -9223372036854775808 ≤ x5 ∧ x5 ≤ 9223372036854775807) (g6 : 0 ≤ x6.i ∧ x6.i ≤ 9223372036854775807 ∧ RowOk [.int .i64 (-9223372036854775808) (9223372036854775807)] x6.r x6.i.toNat) (g7 : -9223372036854775808 ≤ x7 ∧ x7 ≤ 9223372036854775807) (g8 : -9223372036854775808 ≤ x8 ∧ x8 ≤ 9223372036854775807) (g9 : -9223372036854775808 ≤ x9 ∧ x9 ≤ 9223372036854775807) (g10 : -9223372036854775808 ≤ x10 ∧ x10 ≤ 9223372036854775807) (g11 : -9223372036854775808 ≤ x11 ∧ x11 ≤ 9223372036854775807) (g12 : -9223372036854775808 ≤ x12 ∧ x12 ≤ 9223372036854775807) (g13 : 0 ≤ x13.i ∧ x13.i ≤ 9223372036854775807 ∧ RowOk [.int .i64 (-9223372036854775808) (9223372036854775807)] x13.r x13.i.toNat) : EqRP x0 x1 x2 x3 x4 x5 x6 x7 x8 x9 x10 x11 x12 x13 := by
  unfold EqRP
  refine And.intro ?_ ?_
  · intro h1
    skip -- #0
    refine iff_of_false Bool.false_ne_true fun hv => ?_
    obtain ⟨e, e2⟩ := eqG_iff.1 hv
    have := lst_len g6.1 g13.1 e2
    omega
  intro h2
  have hi : x6.i = x13.i := by omega
  refine andI ?_ fun o3 => ?_
  · exact ⟨Int.le_refl _, fun j hj => absurd hj (by show ¬ (j : Int) < 0; omega)⟩ -- #1
  intro x20
  intro h4
  intro p5
  refine And.intro ?_ ?_
  · intro h7
    refine andI ?_ fun o8 => ?_
    · omega -- #2
    refine andI ?_ fun o9 => ?_
    · omega -- #3
    refine And.intro ?_ ?_
    · intro h11
      skip -- #4
      refine iff_of_false Bool.false_ne_true fun hv => h11 ?_
      exact lst_at h4.1 h7 (by omega) (eqG_iff.1 hv).2
    intro h12
    refine andI ?_ fun o13 => ?_
    · skip -- #5
      refine ⟨Int.le_trans h4.1 (Int.le_of_lt (Int.lt_succ _)), fun j hj => ?_⟩
      have hj : (j : Int) < x20.i + 1 := hj
      by_cases e : (j : Int) = x20.i
      · rw [e]
        exact h12
      · exact p5.2 j (by omega)
    refine andI ?_ fun o14 => ?_
    · skip -- #6
      show x6.i + 1 - (x20.i + 1) < x6.i + 1 - x20.i
      omega
    skip -- #7
    show 0 < x6.i + 1 - x20.i
    omega
  intro h15
  skip -- #8
  refine iff_of_true rfl (eqG_iff.2 ⟨by omega, lstX_ext (by omega) fun j hj => ?_⟩)
  exact p5.2 j (by omega)
theorem kEqR : RCtrOk Tryd.prog ρ0 cEqR := by
  refine rctr_of (cf := cfG none [] [] lpEqR sumL) (cfG_ok keep0 keepR0 noF) Tryd.func15 rfl 400 rfl fun ds hr => ?_
  have hr := rshX_flat hr
  match ds, hr with
  | [d0, d1, d2, d3, d4, d5, d6, d7, d8, d9, d10, d11, d12, d13], hr =>
    obtain ⟨⟨e0, l0, u0⟩, ⟨e1, l1, u1⟩, ⟨e2, l2, u2⟩, ⟨e3, l3, u3⟩, ⟨e4, l4, u4⟩, ⟨e5, l5, u5⟩, l6, ⟨e7, l7, u7⟩, ⟨e8, l8, u8⟩, ⟨e9, l9, u9⟩, ⟨e10, l10, u10⟩, ⟨e11, l11, u11⟩, ⟨e12, l12, u12⟩, l13, _⟩ := hr
    generalize d0.i = x0 at *
    generalize d1.i = x1 at *
    generalize d2.i = x2 at *
    generalize d3.i = x3 at *
    generalize d4.i = x4 at *
    generalize d5.i = x5 at *
    generalize d6 = x6 at *
    generalize d7.i = x7 at *
    generalize d8.i = x8 at *
    generalize d9.i = x9 at *
    generalize d10.i = x10 at *
    generalize d11.i = x11 at *
    generalize d12.i = x12 at *
    generalize d13 = x13 at *
    subst e0 e1 e2 e3 e4 e5 e7 e8 e9 e10 e11 e12
    exact Eq.mpr (EqRL x0 x1 x2 x3 x4 x5 x6 x7 x8 x9 x10 x11 x12 x13) (EqRO x0 x1 x2 x3 x4 x5 x6 x7 x8 x9 x10 x11 x12 x13 ⟨l0, u0⟩ ⟨l1, u1⟩ ⟨l2, u2⟩ ⟨l3, u3⟩ ⟨l4, u4⟩ ⟨l5, u5⟩ l6 ⟨l7, u7⟩ ⟨l8, u8⟩ ⟨l9, u9⟩ ⟨l10, u10⟩ ⟨l11, u11⟩ ⟨l12, u12⟩ l13)
theorem nEqR : ∃ fn, Tryd.prog.funcs[cEqR.f]? = some fn ∧ fn.body.isSome = true ∧ (fn.name == "runtime.NumGoroutine") = false := ⟨_, Tryd.func15, by kernel_rfl, by kernel_rfl⟩

/-- What is left of the contract of voxelref07.Count. -/
def CntRP (x0 : Int) (x1 : Int) (x2 : Int) (x3 : Int) (x4 : Int) (x5 : Int) (x6 : X) (x7 : Int) : Prop :=
(Px 735 [(xI x0), (xI x1), (xI x2), (xI x3), (xI x4), (xI x5), x6, (xI x7), (xI 0), (xI 0)] ∧
(∀ x20 : X, (∀ x21 : X, (((0 ≤ x20.i) ∧ (x20.i ≤ 9223372036854775807)) →
(((0 ≤ x21.i) ∧ (x21.i ≤ 9223372036854775807)) →
(Px 735 [(xI x0), (xI x1), (xI x2), (xI x3), (xI x4), (xI x5), x6, (xI x7), x20, x21] →
(((x20.i < x6.i) →
((x20.i < x6.i) ∧
((0 ≤ (bif (decide ((x6.r x20.i 0).i = x7)) then (IntKind.wrap Go.IntKind.i64 (x21.i + 1)) else x21.i)) ∧
(Px 735 [(xI x0), (xI x1), (xI x2), (xI x3), (xI x4), (xI x5), x6, (xI x7), (xI (x20.i + 1)), (xI (bif (decide ((x6.r x20.i 0).i = x7)) then (IntKind.wrap Go.IntKind.i64 (x21.i + 1)) else x21.i))] ∧
(((Ff 765 [(xI x0), (xI x1), (xI x2), (xI x3), (xI x4), (xI x5), x6, (xI x7), (xI (x20.i + 1)), (xI (bif (decide ((x6.r x20.i 0).i = x7)) then (IntKind.wrap Go.IntKind.i64 (x21.i + 1)) else x21.i))]).i < (Ff 765 [(xI x0), (xI x1), (xI x2), (xI x3), (xI x4), (xI x5), x6, (xI x7), x20, x21]).i) ∧
(0 < (Ff 765 [(xI x0), (xI x1), (xI x2), (xI x3), (xI x4), (xI x5), x6, (xI x7), x20, x21]).i)))))) ∧
((¬ (x20.i < x6.i)) →
(x21.i = (Ff 716 [xI x0, xI x1, xI x2, xI x3, xI x4, xI x5, x6, xI x7]).i ∧ 0 ≤ (Ff 716 [xI x0, xI x1, xI x2, xI x3, xI x4, xI x5, x6, xI x7]).i ∧ (Ff 716 [xI x0, xI x1, xI x2, xI x3, xI x4, xI x5, x6, xI x7]).i ≤ 9223372036854775807)))))))))
theorem CntRL (x0 : Int) (x1 : Int) (x2 : Int) (x3 : Int) (x4 : Int) (x5 : Int) (x6 : X) (x7 : Int) : (ctrR (fun j => Ff j [xI x0, xI x1, xI x2, xI x3, xI x4, xI x5, x6, xI x7]) cCntR.fs cCntR.res { ρ0 with x := fun j => [xI x0, xI x1, xI x2, xI x3, xI x4, xI x5, x6, xI x7].getD j (xI 0) } (walkR Tryd.prog (cfG none [] [] lpCntR sumL) Tryd.f24 400 cCntR.args)) = CntRP x0 x1 x2 x3 x4 x5 x6 x7 := by kernel_rfl
set_option maxHeartbeats 4000000 in
theorem CntRO (x0 : Int) (x1 : Int) (x2 : Int) (x3 : Int) (x4 : Int) (x5 : Int) (x6 : X) (x7 : Int) (g0 : -9223372036854775808 ≤ x0 ∧ x0 ≤ 9223372036854775807) (g1 : -9223372036854775808 ≤ x1 ∧ x1 ≤ 9223372036854775807) (g2 : -9223372036854775808 ≤ x2 ∧ x2 ≤ 9223372036854775807) (g3 : -9223372036854775808 ≤ x3 ∧ x3 ≤ 9223372036854775807) (g4 : -9223372036854775808 ≤ x4 ∧ x4 ≤ 9223372036854775807) (g5 : -9223372036854775808 ≤ x5 ∧ x5 ≤ 9223372036854775807) (g6 : 0 ≤ x6.i ∧ x6.i ≤ 9223372036854775807 ∧ RowOk [.int .i64 (-9223372036854775808) (9223372036854775807)] x6.r x6.i.toNat) (g7 : -9223372036854775808 ≤ x7 ∧ x7 ≤ 9223372036854775807) : CntRP x0 x1 x2 x3 x4 x5 x6 x7 := by
  unfold CntRP
  refine andI ?_ fun o0 => ?_
  · exact ⟨Int.le_refl _, g6.1, rfl⟩ -- #0
  intro x20
  intro x21
  intro h1
  intro h2
  intro p3
  refine And.intro ?_ ?_
  · intro h5
    have hm : x21.i = (((lstX deI x6).take x20.i.toNat).count x7 : Nat) := p3.2.2
    have hl : x21.i ≤ x20.i := by rw [hm]; exact cnt_le h1.1
    have hs : (((((lstX deI x6).take (x20.i + 1).toNat).count x7 : Nat)) : Int) = (bif (decide ((x6.r x20.i 0).i = x7)) then (IntKind.wrap Go.IntKind.i64 (x21.i + 1)) else x21.i) := by
      have hw : IntKind.wrap Go.IntKind.i64 (x21.i + 1) = x21.i + 1 := wrap_fits ⟨by show -9223372036854775808 ≤ x21.i + 1; omega, by show x21.i + 1 ≤ 9223372036854775807; omega⟩
      rw [cnt_step h1.1 h5, hw, hm, Bool.cond_decide]
      split <;> omega
    refine andI ?_ fun o6 => ?_
    · omega -- #1
    refine andI ?_ fun o7 => ?_
    · skip -- #2
      rw [← hs]
      omega
    refine andI ?_ fun o8 => ?_
    · exact ⟨Int.le_trans h1.1 (Int.le_of_lt (Int.lt_succ _)), show x20.i + 1 ≤ x6.i by omega, hs.symm⟩ -- #3
    refine andI ?_ fun o9 => ?_
    · skip -- #4
      show x6.i + 1 - (x20.i + 1) < x6.i + 1 - x20.i
      omega
    skip -- #5
    show 0 < x6.i + 1 - x20.i
    omega
  intro h10
  skip -- #6
  have hm : x21.i = (((lstX deI x6).take x20.i.toNat).count x7 : Nat) := p3.2.2
  rw [lx_all (by omega)] at hm
  exact rngI hm.symm (by omega)
theorem kCntR : RCtrOk Tryd.prog ρ0 cCntR := by
  refine rctr_of (cf := cfG none [] [] lpCntR sumL) (cfG_ok keep0 keepR0 noF) Tryd.func24 rfl 400 rfl fun ds hr => ?_
  have hr := rshX_flat hr
  match ds, hr with
  | [d0, d1, d2, d3, d4, d5, d6, d7], hr =>
    obtain ⟨⟨e0, l0, u0⟩, ⟨e1, l1, u1⟩, ⟨e2, l2, u2⟩, ⟨e3, l3, u3⟩, ⟨e4, l4, u4⟩, ⟨e5, l5, u5⟩, l6, ⟨e7, l7, u7⟩, _⟩ := hr
    generalize d0.i = x0 at *
    generalize d1.i = x1 at *
    generalize d2.i = x2 at *
    generalize d3.i = x3 at *
    generalize d4.i = x4 at *
    generalize d5.i = x5 at *
    generalize d6 = x6 at *
    generalize d7.i = x7 at *
    subst e0 e1 e2 e3 e4 e5 e7
    exact Eq.mpr (CntRL x0 x1 x2 x3 x4 x5 x6 x7) (CntRO x0 x1 x2 x3 x4 x5 x6 x7 ⟨l0, u0⟩ ⟨l1, u1⟩ ⟨l2, u2⟩ ⟨l3, u3⟩ ⟨l4, u4⟩ ⟨l5, u5⟩ l6 ⟨l7, u7⟩)
theorem nCntR : ∃ fn, Tryd.prog.funcs[cCntR.f]? = some fn ∧ fn.body.isSome = true ∧ (fn.name == "runtime.NumGoroutine") = false := ⟨_, Tryd.func24, by kernel_rfl, by kernel_rfl⟩

/-- What is left of the contract of settle.Potential. -/
def PotP (x0 : Int) (x1 : Int) (x2 : Int) (x3 : Int) (x4 : Int) (x5 : Int) (x6 : X) (x7 : X) : Prop :=
(Px 874 [(xI x0), (xI x1), (xI x2), (xI x3), (xI x4), (xI x5), x6, x7, (xI 0), (xI 0)] ∧
(∀ x20 : X, (∀ x21 : X, (((0 ≤ x20.i) ∧ (x20.i ≤ 2097152)) →
(((0 ≤ x21.i) ∧ (x21.i ≤ 20000000000000)) →
(Px 874 [(xI x0), (xI x1), (xI x2), (xI x3), (xI x4), (xI x5), x6, x7, x20, x21] →
(((x20.i < x6.i) →
((x20.i < x6.i) ∧
(let v7 : X := Ff 802 [x7, (xI (x6.r x20.i 0).i)]; let v8 : X := Ff 801 [x7, (xI (x6.r x20.i 0).i)]; let v9 : X := Ff 272 [(xI x0), (xI x1), (xI x2), (xI x3), (xI x4), (xI x5), (xI x20.i)]; ((0 ≤ (bif v7.b then ((bif v8.b then (x21.i + (v9.i - x2)) else x21.i) + (2 * (v9.i - x2))) else (bif v8.b then (x21.i + (v9.i - x2)) else x21.i))) ∧
(((bif v7.b then ((bif v8.b then (x21.i + (v9.i - x2)) else x21.i) + (2 * (v9.i - x2))) else (bif v8.b then (x21.i + (v9.i - x2)) else x21.i)) ≤ 20000000000000) ∧
(Px 874 [(xI x0), (xI x1), (xI x2), (xI x3), (xI x4), (xI x5), x6, x7, (xI (x20.i + 1)), (xI (bif v7.b then ((bif v8.b then (x21.i + (v9.i - x2)) else x21.i) + (2 * (v9.i - x2))) else (bif v8.b then (x21.i + (v9.i - x2)) else x21.i)))] ∧
(((Ff 894 [(xI x0), (xI x1), (xI x2), (xI x3), (xI x4), (xI x5), x6, x7, (xI (x20.i + 1)), (xI (bif v7.b then ((bif v8.b then (x21.i + (v9.i - x2)) else x21.i) + (2 * (v9.i - x2))) else (bif v8.b then (x21.i + (v9.i - x2)) else x21.i)))]).i < (Ff 894 [(xI x0), (xI x1), (xI x2), (xI x3), (xI x4), (xI x5), x6, x7, x20, x21]).i) ∧
(0 < (Ff 894 [(xI x0), (xI x1), (xI x2), (xI x3), (xI x4), (xI x5), x6, x7, x20, x21]).i)))))))) ∧
((¬ (x20.i < x6.i)) →
(x21.i = (Ff 850 [xI x0, xI x1, xI x2, xI x3, xI x4, xI x5, x6, x7]).i ∧ 0 ≤ (Ff 850 [xI x0, xI x1, xI x2, xI x3, xI x4, xI x5, x6, x7]).i ∧ (Ff 850 [xI x0, xI x1, xI x2, xI x3, xI x4, xI x5, x6, x7]).i ≤ 20000000000000)))))))))
theorem PotL (x0 : Int) (x1 : Int) (x2 : Int) (x3 : Int) (x4 : Int) (x5 : Int) (x6 : X) (x7 : X) : (ctrR (fun j => Ff j [xI x0, xI x1, xI x2, xI x3, xI x4, xI x5, x6, x7]) cPot.fs cPot.res { ρ0 with x := fun j => [xI x0, xI x1, xI x2, xI x3, xI x4, xI x5, x6, x7].getD j (xI 0) } (walkR Tryd.prog (cfG none [cAt] [cML, cMF] lpPot sumL) Tryd.f18 400 RGvT)) = PotP x0 x1 x2 x3 x4 x5 x6 x7 := by kernel_rfl
set_option maxHeartbeats 4000000 in
theorem PotO (x0 : Int) (x1 : Int) (x2 : Int) (x3 : Int) (x4 : Int) (x5 : Int) (x6 : X) (x7 : X) (g0 : -1048575 ≤ x0 ∧ x0 ≤ 1048575) (g1 : -1048575 ≤ x1 ∧ x1 ≤ 1048575) (g2 : -1048575 ≤ x2 ∧ x2 ≤ 1048575) (g3 : -1048575 ≤ x3 ∧ x3 ≤ 1048575) (g4 : -1048575 ≤ x4 ∧ x4 ≤ 1048575) (g5 : -1048575 ≤ x5 ∧ x5 ≤ 1048575) (g6 : 0 ≤ x6.i ∧ x6.i ≤ 2097152 ∧ RowOk SMat x6.r x6.i.toNat) (g7 : 0 ≤ x7.i ∧ x7.i ≤ 9223372036854775807 ∧ RowOk SMt x7.r x7.i.toNat) (gp : Px cPot.pre.get! [xI x0, xI x1, xI x2, xI x3, xI x4, xI x5, x6, x7]) : PotP x0 x1 x2 x3 x4 x5 x6 x7 := by
  unfold PotP
  obtain ⟨k0, k1, k2, k3, k4⟩ := (v700 g6.1).1 gp
  have hV : (bxI x0 x1 x2 x3 x4 x5).vol = x6.i := k3
  refine andI ?_ fun o0 => ?_
  · exact ⟨Int.le_refl _, g6.1, rfl⟩ -- #0
  intro x20
  intro x21
  intro h1
  intro h2
  intro p3
  refine And.intro ?_ ?_
  · intro h5
    refine andI ?_ fun o6 => ?_
    · omega -- #1
    intro v7
    intro v8
    intro v9
    have hm : x21.i = potB (bxI x0 x1 x2 x3 x4 x5) x7 (lstX deI x6) x20.i.toNat := p3.2.2
    have hs : (bif v7.b then ((bif v8.b then (x21.i + (v9.i - x2)) else x21.i) + (2 * (v9.i - x2))) else (bif v8.b then (x21.i + (v9.i - x2)) else x21.i)) = potB (bxI x0 x1 x2 x3 x4 x5) x7 (lstX deI x6) (x20.i + 1).toNat := by
      rw [pot_step h1.1 h5, ← hm]
      exact pot_bif
    have hb := pot_bnd (b := bxI x0 x1 x2 x3 x4 x5) (t := x7) (cs := lstX deI x6) (show x5 - x2 ≤ 2097151 by omega) (n := (x20.i + 1).toNat) (by omega)
    refine andI ?_ fun o10 => ?_
    · skip -- #2
      rw [hs]
      exact hb.1
    refine andI ?_ fun o11 => ?_
    · skip -- #3
      rw [hs]
      omega
    refine andI ?_ fun o12 => ?_
    · exact ⟨Int.le_trans h1.1 (Int.le_of_lt (Int.lt_succ _)), show x20.i + 1 ≤ x6.i by omega, hs⟩ -- #4
    refine andI ?_ fun o13 => ?_
    · skip -- #5
      show x6.i + 1 - (x20.i + 1) < x6.i + 1 - x20.i
      omega
    skip -- #6
    show 0 < x6.i + 1 - x20.i
    omega
  intro h14
  skip -- #7
  have hm : x21.i = potB (bxI x0 x1 x2 x3 x4 x5) x7 (lstX deI x6) x20.i.toNat := p3.2.2
  have hi : x20.i.toNat = (lstX deI x6).length := by
    rw [lstX_len]
    have := p3.2.1
    omega
  rw [hi] at hm
  exact rngI hm.symm h2
theorem kPot : RCtrOk Tryd.prog ρ0 cPot := by
  refine rctr_ofN (cf := cfG none [cAt] [cML, cMF] lpPot sumL) (cfG_ok (keep0.cons kAt nAt) ((keepR0.cons kMF nMF).cons kML nML) noF) Tryd.func18 rfl 400 rfl (sh := RGvT) (by kernel_rfl) val_rsh fun ds hr hp => ?_
  have hr := rshX_flat hr
  match ds, hr, hp with
  | [d0, d1, d2, d3, d4, d5, d6, d7], hr, hp =>
    obtain ⟨⟨e0, l0, u0⟩, ⟨e1, l1, u1⟩, ⟨e2, l2, u2⟩, ⟨e3, l3, u3⟩, ⟨e4, l4, u4⟩, ⟨e5, l5, u5⟩, l6, l7, _⟩ := hr
    generalize d0.i = x0 at *
    generalize d1.i = x1 at *
    generalize d2.i = x2 at *
    generalize d3.i = x3 at *
    generalize d4.i = x4 at *
    generalize d5.i = x5 at *
    generalize d6 = x6 at *
    generalize d7 = x7 at *
    subst e0 e1 e2 e3 e4 e5
    exact Eq.mpr (PotL x0 x1 x2 x3 x4 x5 x6 x7) (PotO x0 x1 x2 x3 x4 x5 x6 x7 ⟨l0, u0⟩ ⟨l1, u1⟩ ⟨l2, u2⟩ ⟨l3, u3⟩ ⟨l4, u4⟩ ⟨l5, u5⟩ l6 l7 hp)
theorem nPot : ∃ fn, Tryd.prog.funcs[cPot.f]? = some fn ∧ fn.body.isSome = true ∧ (fn.name == "runtime.NumGoroutine") = false := ⟨_, Tryd.func18, by kernel_rfl, by kernel_rfl⟩

/-- What is left of the contract of voxelref30.Potential. -/
def PotRP (x0 : Int) (x1 : Int) (x2 : Int) (x3 : Int) (x4 : Int) (x5 : Int) (x6 : X) (x7 : X) : Prop :=
(Px 874 [(xI x0), (xI x1), (xI x2), (xI x3), (xI x4), (xI x5), x6, x7, (xI 0), (xI 0)] ∧
(∀ x20 : X, (∀ x21 : X, (((0 ≤ x20.i) ∧ (x20.i ≤ 2097152)) →
(((0 ≤ x21.i) ∧ (x21.i ≤ 20000000000000)) →
(Px 874 [(xI x0), (xI x1), (xI x2), (xI x3), (xI x4), (xI x5), x6, x7, x20, x21] →
(((x20.i < x6.i) →
((x20.i < x6.i) ∧
(let v7 : X := Ff 833 [x7, (xI (x6.r x20.i 0).i)]; let v8 : X := Ff 832 [x7, (xI (x6.r x20.i 0).i)]; let v9 : X := Ff 272 [(xI x0), (xI x1), (xI x2), (xI x3), (xI x4), (xI x5), (xI x20.i)]; ((0 ≤ (bif v7.b then ((bif v8.b then ((x21.i + v9.i) - x2) else x21.i) + (2 * (v9.i - x2))) else (bif v8.b then ((x21.i + v9.i) - x2) else x21.i))) ∧
(((bif v7.b then ((bif v8.b then ((x21.i + v9.i) - x2) else x21.i) + (2 * (v9.i - x2))) else (bif v8.b then ((x21.i + v9.i) - x2) else x21.i)) ≤ 20000000000000) ∧
(Px 874 [(xI x0), (xI x1), (xI x2), (xI x3), (xI x4), (xI x5), x6, x7, (xI (x20.i + 1)), (xI (bif v7.b then ((bif v8.b then ((x21.i + v9.i) - x2) else x21.i) + (2 * (v9.i - x2))) else (bif v8.b then ((x21.i + v9.i) - x2) else x21.i)))] ∧
(((Ff 894 [(xI x0), (xI x1), (xI x2), (xI x3), (xI x4), (xI x5), x6, x7, (xI (x20.i + 1)), (xI (bif v7.b then ((bif v8.b then ((x21.i + v9.i) - x2) else x21.i) + (2 * (v9.i - x2))) else (bif v8.b then ((x21.i + v9.i) - x2) else x21.i)))]).i < (Ff 894 [(xI x0), (xI x1), (xI x2), (xI x3), (xI x4), (xI x5), x6, x7, x20, x21]).i) ∧
(0 < (Ff 894 [(xI x0), (xI x1), (xI x2), (xI x3), (xI x4), (xI x5), x6, x7, x20, x21]).i)))))))) ∧
((¬ (x20.i < x6.i)) →
(x21.i = (Ff 850 [xI x0, xI x1, xI x2, xI x3, xI x4, xI x5, x6, x7]).i ∧ 0 ≤ (Ff 850 [xI x0, xI x1, xI x2, xI x3, xI x4, xI x5, x6, x7]).i ∧ (Ff 850 [xI x0, xI x1, xI x2, xI x3, xI x4, xI x5, x6, x7]).i ≤ 20000000000000)))))))))
theorem PotRL (x0 : Int) (x1 : Int) (x2 : Int) (x3 : Int) (x4 : Int) (x5 : Int) (x6 : X) (x7 : X) : (ctrR (fun j => Ff j [xI x0, xI x1, xI x2, xI x3, xI x4, xI x5, x6, x7]) cPotR.fs cPotR.res { ρ0 with x := fun j => [xI x0, xI x1, xI x2, xI x3, xI x4, xI x5, x6, x7].getD j (xI 0) } (walkR Tryd.prog (cfG none [cAtR] [cMAt] lpPotR sumL) Tryd.f19 400 RGvT)) = PotRP x0 x1 x2 x3 x4 x5 x6 x7 := by kernel_rfl
set_option maxHeartbeats 4000000 in
theorem PotRO (x0 : Int) (x1 : Int) (x2 : Int) (x3 : Int) (x4 : Int) (x5 : Int) (x6 : X) (x7 : X) (g0 : -1048575 ≤ x0 ∧ x0 ≤ 1048575) (g1 : -1048575 ≤ x1 ∧ x1 ≤ 1048575) (g2 : -1048575 ≤ x2 ∧ x2 ≤ 1048575) (g3 : -1048575 ≤ x3 ∧ x3 ≤ 1048575) (g4 : -1048575 ≤ x4 ∧ x4 ≤ 1048575) (g5 : -1048575 ≤ x5 ∧ x5 ≤ 1048575) (g6 : 0 ≤ x6.i ∧ x6.i ≤ 2097152 ∧ RowOk SMat x6.r x6.i.toNat) (g7 : 0 ≤ x7.i ∧ x7.i ≤ 9223372036854775807 ∧ RowOk SMt x7.r x7.i.toNat) (gp : Px cPotR.pre.get! [xI x0, xI x1, xI x2, xI x3, xI x4, xI x5, x6, x7]) : PotRP x0 x1 x2 x3 x4 x5 x6 x7 := by
  unfold PotRP
  obtain ⟨k0, k1, k2, k3, k4⟩ := (v700 g6.1).1 gp
  have hV : (bxI x0 x1 x2 x3 x4 x5).vol = x6.i := k3
  refine andI ?_ fun o0 => ?_
  · exact ⟨Int.le_refl _, g6.1, rfl⟩ -- #0
  intro x20
  intro x21
  intro h1
  intro h2
  intro p3
  refine And.intro ?_ ?_
  · intro h5
    refine andI ?_ fun o6 => ?_
    · omega -- #1
    intro v7
    intro v8
    intro v9
    have hm : x21.i = potB (bxI x0 x1 x2 x3 x4 x5) x7 (lstX deI x6) x20.i.toNat := p3.2.2
    have hs : (bif v7.b then ((bif v8.b then ((x21.i + v9.i) - x2) else x21.i) + (2 * (v9.i - x2))) else (bif v8.b then ((x21.i + v9.i) - x2) else x21.i)) = potB (bxI x0 x1 x2 x3 x4 x5) x7 (lstX deI x6) (x20.i + 1).toNat := by
      rw [pot_step h1.1 h5, ← hm]
      exact pot_bifR
    have hb := pot_bnd (b := bxI x0 x1 x2 x3 x4 x5) (t := x7) (cs := lstX deI x6) (show x5 - x2 ≤ 2097151 by omega) (n := (x20.i + 1).toNat) (by omega)
    refine andI ?_ fun o10 => ?_
    · skip -- #2
      rw [hs]
      exact hb.1
    refine andI ?_ fun o11 => ?_
    · skip -- #3
      rw [hs]
      omega
    refine andI ?_ fun o12 => ?_
    · exact ⟨Int.le_trans h1.1 (Int.le_of_lt (Int.lt_succ _)), show x20.i + 1 ≤ x6.i by omega, hs⟩ -- #4
    refine andI ?_ fun o13 => ?_
    · skip -- #5
      show x6.i + 1 - (x20.i + 1) < x6.i + 1 - x20.i
      omega
    skip -- #6
    show 0 < x6.i + 1 - x20.i
    omega
  intro h14
  skip -- #7
  have hm : x21.i = potB (bxI x0 x1 x2 x3 x4 x5) x7 (lstX deI x6) x20.i.toNat := p3.2.2
  have hi : x20.i.toNat = (lstX deI x6).length := by
    rw [lstX_len]
    have := p3.2.1
    omega
  rw [hi] at hm
  exact rngI hm.symm h2
theorem kPotR : RCtrOk Tryd.prog ρ0 cPotR := by
  refine rctr_ofN (cf := cfG none [cAtR] [cMAt] lpPotR sumL) (cfG_ok (keep0.cons kAtR nAtR) (keepR0.cons kMAt nMAt) noF) Tryd.func19 rfl 400 rfl (sh := RGvT) (by kernel_rfl) val_rsh fun ds hr hp => ?_
  have hr := rshX_flat hr
  match ds, hr, hp with
  | [d0, d1, d2, d3, d4, d5, d6, d7], hr, hp =>
    obtain ⟨⟨e0, l0, u0⟩, ⟨e1, l1, u1⟩, ⟨e2, l2, u2⟩, ⟨e3, l3, u3⟩, ⟨e4, l4, u4⟩, ⟨e5, l5, u5⟩, l6, l7, _⟩ := hr
    generalize d0.i = x0 at *
    generalize d1.i = x1 at *
    generalize d2.i = x2 at *
    generalize d3.i = x3 at *
    generalize d4.i = x4 at *
    generalize d5.i = x5 at *
    generalize d6 = x6 at *
    generalize d7 = x7 at *
    subst e0 e1 e2 e3 e4 e5
    exact Eq.mpr (PotRL x0 x1 x2 x3 x4 x5 x6 x7) (PotRO x0 x1 x2 x3 x4 x5 x6 x7 ⟨l0, u0⟩ ⟨l1, u1⟩ ⟨l2, u2⟩ ⟨l3, u3⟩ ⟨l4, u4⟩ ⟨l5, u5⟩ l6 l7 hp)
theorem nPotR : ∃ fn, Tryd.prog.funcs[cPotR.f]? = some fn ∧ fn.body.isSome = true ∧ (fn.name == "runtime.NumGoroutine") = false := ⟨_, Tryd.func19, by kernel_rfl, by kernel_rfl⟩

/-- What is left of the contract of settle.Settled. -/
def StlP (x0 : Int) (x1 : Int) (x2 : Int) (x3 : Int) (x4 : Int) (x5 : Int) (x6 : X) (x7 : X) : Prop :=
(Px 711 [(xI x0), (xI x1), (xI x2), (xI x3), (xI x4), (xI x5), x6, (xI x0), (xI x1), (xI x2), (xI x3), (xI x4), (xI x5), x6] ∧
(Px 871 [(xI x0), (xI x1), (xI x2), (xI x3), (xI x4), (xI x5), x6, x7, (xI 0)] ∧
(∀ x20 : X, (((0 ≤ x20.i) ∧ (x20.i ≤ 2097152)) →
(Px 871 [(xI x0), (xI x1), (xI x2), (xI x3), (xI x4), (xI x5), x6, x7, x20] →
(((x20.i < x6.i) →
(let v6 : X := Ff 701 [(xI x0), (xI x1), (xI x2), (xI x3), (xI x4), (xI x5), x6, (xI x0), (xI x1), (xI x2), (xI x3), (xI x4), (xI x5), x6]; let v7 : X := Ff 702 [(xI x0), (xI x1), (xI x2), (xI x3), (xI x4), (xI x5), x6, (xI x0), (xI x1), (xI x2), (xI x3), (xI x4), (xI x5), x6]; let v8 : X := Ff 703 [(xI x0), (xI x1), (xI x2), (xI x3), (xI x4), (xI x5), x6, (xI x0), (xI x1), (xI x2), (xI x3), (xI x4), (xI x5), x6]; let v9 : X := Ff 704 [(xI x0), (xI x1), (xI x2), (xI x3), (xI x4), (xI x5), x6, (xI x0), (xI x1), (xI x2), (xI x3), (xI x4), (xI x5), x6]; let v10 : X := Ff 705 [(xI x0), (xI x1), (xI x2), (xI x3), (xI x4), (xI x5), x6, (xI x0), (xI x1), (xI x2), (xI x3), (xI x4), (xI x5), x6]; let v11 : X := Ff 706 [(xI x0), (xI x1), (xI x2), (xI x3), (xI x4), (xI x5), x6, (xI x0), (xI x1), (xI x2), (xI x3), (xI x4), (xI x5), x6]; let v12 : X := Ff 707 [(xI x0), (xI x1), (xI x2), (xI x3), (xI x4), (xI x5), x6, (xI x0), (xI x1), (xI x2), (xI x3), (xI x4), (xI x5), x6]; let v13 : X := Ff 270 [(xI x0), (xI x1), (xI x2), (xI x3), (xI x4), (xI x5), (xI x20.i)]; let v14 : X := Ff 271 [(xI x0), (xI x1), (xI x2), (xI x3), (xI x4), (xI x5), (xI x20.i)]; let v15 : X := Ff 272 [(xI x0), (xI x1), (xI x2), (xI x3), (xI x4), (xI x5), (xI x20.i)]; (Px 710 [(xI v6.i), (xI v7.i), (xI v8.i), (xI v9.i), (xI v10.i), (xI v11.i), v12, x7, (xI 0), (xI v13.i), (xI v14.i), (xI v15.i)] ∧
(let v17 : X := Ff 813 [(xI v6.i), (xI v7.i), (xI v8.i), (xI v9.i), (xI v10.i), (xI v11.i), v12, x7, (xI 0), (xI v13.i), (xI v14.i), (xI v15.i)]; (((v17.b = true) →
((false = true) ↔ (Ff 860 [xI x0, xI x1, xI x2, xI x3, xI x4, xI x5, x6, x7]).b = true)) ∧
((¬ (v17.b = true)) →
(Px 871 [(xI x0), (xI x1), (xI x2), (xI x3), (xI x4), (xI x5), x6, x7, (xI (x20.i + 1))] ∧
(((Ff 891 [(xI x0), (xI x1), (xI x2), (xI x3), (xI x4), (xI x5), x6, x7, (xI (x20.i + 1))]).i < (Ff 891 [(xI x0), (xI x1), (xI x2), (xI x3), (xI x4), (xI x5), x6, x7, x20]).i) ∧
(0 < (Ff 891 [(xI x0), (xI x1), (xI x2), (xI x3), (xI x4), (xI x5), x6, x7, x20]).i))))))))) ∧
((¬ (x20.i < x6.i)) →
((true = true) ↔ (Ff 860 [xI x0, xI x1, xI x2, xI x3, xI x4, xI x5, x6, x7]).b = true))))))))
theorem StlL (x0 : Int) (x1 : Int) (x2 : Int) (x3 : Int) (x4 : Int) (x5 : Int) (x6 : X) (x7 : X) : (ctrR (fun j => Ff j [xI x0, xI x1, xI x2, xI x3, xI x4, xI x5, x6, x7]) cStl.fs cStl.res { ρ0 with x := fun j => [xI x0, xI x1, xI x2, xI x3, xI x4, xI x5, x6, x7].getD j (xI 0) } (walkR Tryd.prog (cfG none [cAt] [cPaste, cTgtP] lpStl sumL) Tryd.f22 400 RGvT)) = StlP x0 x1 x2 x3 x4 x5 x6 x7 := by kernel_rfl
set_option maxHeartbeats 4000000 in
theorem StlO (x0 : Int) (x1 : Int) (x2 : Int) (x3 : Int) (x4 : Int) (x5 : Int) (x6 : X) (x7 : X) (g0 : -1048575 ≤ x0 ∧ x0 ≤ 1048575) (g1 : -1048575 ≤ x1 ∧ x1 ≤ 1048575) (g2 : -1048575 ≤ x2 ∧ x2 ≤ 1048575) (g3 : -1048575 ≤ x3 ∧ x3 ≤ 1048575) (g4 : -1048575 ≤ x4 ∧ x4 ≤ 1048575) (g5 : -1048575 ≤ x5 ∧ x5 ≤ 1048575) (g6 : 0 ≤ x6.i ∧ x6.i ≤ 2097152 ∧ RowOk SMat x6.r x6.i.toNat) (g7 : 0 ≤ x7.i ∧ x7.i ≤ 9223372036854775807 ∧ RowOk SMt x7.r x7.i.toNat) (gp : Px cStl.pre.get! [xI x0, xI x1, xI x2, xI x3, xI x4, xI x5, x6, x7]) : StlP x0 x1 x2 x3 x4 x5 x6 x7 := by
  unfold StlP
  refine andI ?_ fun o0 => ?_
  · exact ⟨gp, gp⟩ -- #0
  refine andI ?_ fun o1 => ?_
  · exact ⟨Int.le_refl _, g6.1, rfl⟩ -- #1
  intro x20
  intro h2
  intro p3
  refine And.intro ?_ ?_
  · intro h5
    intro v6
    intro v7
    intro v8
    intro v9
    intro v10
    intro v11
    intro v12
    have hs : lstX deI v12 = (lstX deI x6) := (lstX_rowG (enc := enI) (dec := deI) (fun _ => rfl) _).trans (pas_self ((v700 g6.1).1 gp).2.2.2.1 g6.1)
    intro v13
    intro v14
    intro v15
    refine andI ?_ fun o16 => ?_
    · skip -- #2
      show validG ⟨(bxI x0 x1 x2 x3 x4 x5), lstX deI v12⟩ = true
      rw [hs]
      exact gp
    intro v17
    have hT : v17.b = (tgtB (bxI x0 x1 x2 x3 x4 x5) (lstX deI x6) x7 0 ((bxI x0 x1 x2 x3 x4 x5).at x20.i)).isSome := by
      rw [← hs]
      rfl
    refine And.intro ?_ ?_
    · intro h19
      exact iff_of_false Bool.false_ne_true (stl_noI h2.1 h5 (hT.symm.trans h19)) -- #3
    intro h20
    refine andI ?_ fun o21 => ?_
    · skip -- #4
      refine ⟨Int.le_trans h2.1 (Int.le_of_lt (Int.lt_succ _)), show x20.i + 1 ≤ x6.i by omega, ?_⟩
      show stlB _ _ _ (x20.i + 1).toNat = true
      rw [stl_step h2.1, p3.2.2, Bool.true_and]
      exact not_some (by rw [← hT]; exact h20)
    refine andI ?_ fun o22 => ?_
    · skip -- #5
      show x6.i + 1 - (x20.i + 1) < x6.i + 1 - x20.i
      omega
    skip -- #6
    show 0 < x6.i + 1 - x20.i
    omega
  intro h23
  skip -- #7
  refine iff_of_true rfl ?_
  show stlB _ _ _ (lstX deI x6).length = true
  have hi : (lstX deI x6).length = x20.i.toNat := by
    rw [lstX_len]
    have := p3.2.1
    omega
  rw [hi]
  exact p3.2.2
theorem kStl : RCtrOk Tryd.prog ρ0 cStl := by
  refine rctr_ofN (cf := cfG none [cAt] [cPaste, cTgtP] lpStl sumL) (cfG_ok (keep0.cons kAt nAt) ((keepR0.cons kTgtP nTgtP).cons kPaste nPaste) noF) Tryd.func22 rfl 400 rfl (sh := RGvT) (by kernel_rfl) val_rsh fun ds hr hp => ?_
  have hr := rshX_flat hr
  match ds, hr, hp with
  | [d0, d1, d2, d3, d4, d5, d6, d7], hr, hp =>
    obtain ⟨⟨e0, l0, u0⟩, ⟨e1, l1, u1⟩, ⟨e2, l2, u2⟩, ⟨e3, l3, u3⟩, ⟨e4, l4, u4⟩, ⟨e5, l5, u5⟩, l6, l7, _⟩ := hr
    generalize d0.i = x0 at *
    generalize d1.i = x1 at *
    generalize d2.i = x2 at *
    generalize d3.i = x3 at *
    generalize d4.i = x4 at *
    generalize d5.i = x5 at *
    generalize d6 = x6 at *
    generalize d7 = x7 at *
    subst e0 e1 e2 e3 e4 e5
    exact Eq.mpr (StlL x0 x1 x2 x3 x4 x5 x6 x7) (StlO x0 x1 x2 x3 x4 x5 x6 x7 ⟨l0, u0⟩ ⟨l1, u1⟩ ⟨l2, u2⟩ ⟨l3, u3⟩ ⟨l4, u4⟩ ⟨l5, u5⟩ l6 l7 hp)
theorem nStl : ∃ fn, Tryd.prog.funcs[cStl.f]? = some fn ∧ fn.body.isSome = true ∧ (fn.name == "runtime.NumGoroutine") = false := ⟨_, Tryd.func22, by kernel_rfl, by kernel_rfl⟩

/-- What is left of the contract of voxelref30.Settled. -/
def StlRP (x0 : Int) (x1 : Int) (x2 : Int) (x3 : Int) (x4 : Int) (x5 : Int) (x6 : X) (x7 : X) : Prop :=
(Px 871 [(xI x0), (xI x1), (xI x2), (xI x3), (xI x4), (xI x5), x6, x7, (xI 0)] ∧
(∀ x20 : X, (((0 ≤ x20.i) ∧ (x20.i ≤ 2097152)) →
(Px 871 [(xI x0), (xI x1), (xI x2), (xI x3), (xI x4), (xI x5), x6, x7, x20] →
(((x20.i < x6.i) →
(let v5 : X := Ff 270 [(xI x0), (xI x1), (xI x2), (xI x3), (xI x4), (xI x5), (xI x20.i)]; let v6 : X := Ff 271 [(xI x0), (xI x1), (xI x2), (xI x3), (xI x4), (xI x5), (xI x20.i)]; let v7 : X := Ff 272 [(xI x0), (xI x1), (xI x2), (xI x3), (xI x4), (xI x5), (xI x20.i)]; (Px 710 [(xI x0), (xI x1), (xI x2), (xI x3), (xI x4), (xI x5), x6, x7, (xI 0), (xI v5.i), (xI v6.i), (xI v7.i)] ∧
(let v9 : X := Ff 813 [(xI x0), (xI x1), (xI x2), (xI x3), (xI x4), (xI x5), x6, x7, (xI 0), (xI v5.i), (xI v6.i), (xI v7.i)]; (((v9.b = true) →
((false = true) ↔ (Ff 860 [xI x0, xI x1, xI x2, xI x3, xI x4, xI x5, x6, x7]).b = true)) ∧
((¬ (v9.b = true)) →
(Px 871 [(xI x0), (xI x1), (xI x2), (xI x3), (xI x4), (xI x5), x6, x7, (xI (x20.i + 1))] ∧
(((Ff 891 [(xI x0), (xI x1), (xI x2), (xI x3), (xI x4), (xI x5), x6, x7, (xI (x20.i + 1))]).i < (Ff 891 [(xI x0), (xI x1), (xI x2), (xI x3), (xI x4), (xI x5), x6, x7, x20]).i) ∧
(0 < (Ff 891 [(xI x0), (xI x1), (xI x2), (xI x3), (xI x4), (xI x5), x6, x7, x20]).i))))))))) ∧
((¬ (x20.i < x6.i)) →
((true = true) ↔ (Ff 860 [xI x0, xI x1, xI x2, xI x3, xI x4, xI x5, x6, x7]).b = true)))))))
theorem StlRL (x0 : Int) (x1 : Int) (x2 : Int) (x3 : Int) (x4 : Int) (x5 : Int) (x6 : X) (x7 : X) : (ctrR (fun j => Ff j [xI x0, xI x1, xI x2, xI x3, xI x4, xI x5, x6, x7]) cStlR.fs cStlR.res { ρ0 with x := fun j => [xI x0, xI x1, xI x2, xI x3, xI x4, xI x5, x6, x7].getD j (xI 0) } (walkR Tryd.prog (cfG none [cAtR] [cTgtR] lpStlR sumL) Tryd.f23 400 RGvT)) = StlRP x0 x1 x2 x3 x4 x5 x6 x7 := by kernel_rfl
set_option maxHeartbeats 4000000 in
theorem StlRO (x0 : Int) (x1 : Int) (x2 : Int) (x3 : Int) (x4 : Int) (x5 : Int) (x6 : X) (x7 : X) (g0 : -1048575 ≤ x0 ∧ x0 ≤ 1048575) (g1 : -1048575 ≤ x1 ∧ x1 ≤ 1048575) (g2 : -1048575 ≤ x2 ∧ x2 ≤ 1048575) (g3 : -1048575 ≤ x3 ∧ x3 ≤ 1048575) (g4 : -1048575 ≤ x4 ∧ x4 ≤ 1048575) (g5 : -1048575 ≤ x5 ∧ x5 ≤ 1048575) (g6 : 0 ≤ x6.i ∧ x6.i ≤ 2097152 ∧ RowOk SMat x6.r x6.i.toNat) (g7 : 0 ≤ x7.i ∧ x7.i ≤ 9223372036854775807 ∧ RowOk SMt x7.r x7.i.toNat) (gp : Px cStlR.pre.get! [xI x0, xI x1, xI x2, xI x3, xI x4, xI x5, x6, x7]) : StlRP x0 x1 x2 x3 x4 x5 x6 x7 := by
  unfold StlRP
  refine andI ?_ fun o0 => ?_
  · exact ⟨Int.le_refl _, g6.1, rfl⟩ -- #0
  intro x20
  intro h1
  intro p2
  refine And.intro ?_ ?_
  · intro h4
    intro v5
    intro v6
    intro v7
    refine andI ?_ fun o8 => ?_
    · exact gp -- #1
    intro v9
    have hT : v9.b = (tgtB (bxI x0 x1 x2 x3 x4 x5) (lstX deI x6) x7 0 ((bxI x0 x1 x2 x3 x4 x5).at x20.i)).isSome := rfl
    refine And.intro ?_ ?_
    · intro h11
      exact iff_of_false Bool.false_ne_true (stl_noI h1.1 h4 (hT.symm.trans h11)) -- #2
    intro h12
    refine andI ?_ fun o13 => ?_
    · skip -- #3
      refine ⟨Int.le_trans h1.1 (Int.le_of_lt (Int.lt_succ _)), show x20.i + 1 ≤ x6.i by omega, ?_⟩
      show stlB _ _ _ (x20.i + 1).toNat = true
      rw [stl_step h1.1, p2.2.2, Bool.true_and]
      exact not_some (by rw [← hT]; exact h12)
    refine andI ?_ fun o14 => ?_
    · skip -- #4
      show x6.i + 1 - (x20.i + 1) < x6.i + 1 - x20.i
      omega
    skip -- #5
    show 0 < x6.i + 1 - x20.i
    omega
  intro h15
  skip -- #6
  refine iff_of_true rfl ?_
  show stlB _ _ _ (lstX deI x6).length = true
  have hi : (lstX deI x6).length = x20.i.toNat := by
    rw [lstX_len]
    have := p2.2.1
    omega
  rw [hi]
  exact p2.2.2
theorem kStlR : RCtrOk Tryd.prog ρ0 cStlR := by
  refine rctr_ofN (cf := cfG none [cAtR] [cTgtR] lpStlR sumL) (cfG_ok (keep0.cons kAtR nAtR) (keepR0.cons kTgtR nTgtR) noF) Tryd.func23 rfl 400 rfl (sh := RGvT) (by kernel_rfl) val_rsh fun ds hr hp => ?_
  have hr := rshX_flat hr
  match ds, hr, hp with
  | [d0, d1, d2, d3, d4, d5, d6, d7], hr, hp =>
    obtain ⟨⟨e0, l0, u0⟩, ⟨e1, l1, u1⟩, ⟨e2, l2, u2⟩, ⟨e3, l3, u3⟩, ⟨e4, l4, u4⟩, ⟨e5, l5, u5⟩, l6, l7, _⟩ := hr
    generalize d0.i = x0 at *
    generalize d1.i = x1 at *
    generalize d2.i = x2 at *
    generalize d3.i = x3 at *
    generalize d4.i = x4 at *
    generalize d5.i = x5 at *
    generalize d6 = x6 at *
    generalize d7 = x7 at *
    subst e0 e1 e2 e3 e4 e5
    exact Eq.mpr (StlRL x0 x1 x2 x3 x4 x5 x6 x7) (StlRO x0 x1 x2 x3 x4 x5 x6 x7 ⟨l0, u0⟩ ⟨l1, u1⟩ ⟨l2, u2⟩ ⟨l3, u3⟩ ⟨l4, u4⟩ ⟨l5, u5⟩ l6 l7 hp)
theorem nStlR : ∃ fn, Tryd.prog.funcs[cStlR.f]? = some fn ∧ fn.body.isSome = true ∧ (fn.name == "runtime.NumGoroutine") = false := ⟨_, Tryd.func23, by kernel_rfl, by kernel_rfl⟩

/-- What is left of the contract of settle.Round. -/
def RndP (x0 : Int) (x1 : Int) (x2 : Int) (x3 : Int) (x4 : Int) (x5 : Int) (x6 : X) (x7 : X) (x8 : Int) : Prop :=
(Px 711 [(xI x0), (xI x1), (xI x2), (xI x3), (xI x4), (xI x5), x6, (xI x0), (xI x1), (xI x2), (xI x3), (xI x4), (xI x5), x6] ∧
(let v1 : X := Ff 707 [(xI x0), (xI x1), (xI x2), (xI x3), (xI x4), (xI x5), x6, (xI x0), (xI x1), (xI x2), (xI x3), (xI x4), (xI x5), x6]; (Px 872 [(xI x0), (xI x1), (xI x2), (xI x3), (xI x4), (xI x5), x6, x7, (xI x8), (xI 0), (xI 0), v1] ∧
(∀ x20 : X, (∀ x21 : X, (∀ x22 : X, (((0 ≤ x20.i) ∧ (x20.i ≤ 2097152)) →
(((0 ≤ x21.i) ∧ (x21.i ≤ 2097152)) →
((0 ≤ x22.i ∧ x22.i ≤ 2097152 ∧ RowOk SMat x22.r (x22.i).toNat) →
(Px 872 [(xI x0), (xI x1), (xI x2), (xI x3), (xI x4), (xI x5), x6, x7, (xI x8), x20, x21, x22] →
(((x20.i < v1.i) →
(let v9 : X := Ff 701 [(xI x0), (xI x1), (xI x2), (xI x3), (xI x4), (xI x5), x6, (xI x0), (xI x1), (xI x2), (xI x3), (xI x4), (xI x5), x6]; let v10 : X := Ff 702 [(xI x0), (xI x1), (xI x2), (xI x3), (xI x4), (xI x5), x6, (xI x0), (xI x1), (xI x2), (xI x3), (xI x4), (xI x5), x6]; let v11 : X := Ff 703 [(xI x0), (xI x1), (xI x2), (xI x3), (xI x4), (xI x5), x6, (xI x0), (xI x1), (xI x2), (xI x3), (xI x4), (xI x5), x6]; let v12 : X := Ff 704 [(xI x0), (xI x1), (xI x2), (xI x3), (xI x4), (xI x5), x6, (xI x0), (xI x1), (xI x2), (xI x3), (xI x4), (xI x5), x6]; let v13 : X := Ff 705 [(xI x0), (xI x1), (xI x2), (xI x3), (xI x4), (xI x5), x6, (xI x0), (xI x1), (xI x2), (xI x3), (xI x4), (xI x5), x6]; let v14 : X := Ff 706 [(xI x0), (xI x1), (xI x2), (xI x3), (xI x4), (xI x5), x6, (xI x0), (xI x1), (xI x2), (xI x3), (xI x4), (xI x5), x6]; let v15 : X := Ff 270 [(xI v9.i), (xI v10.i), (xI v11.i), (xI v12.i), (xI v13.i), (xI v14.i), (xI x20.i)]; let v16 : X := Ff 271 [(xI v9.i), (xI v10.i), (xI v11.i), (xI v12.i), (xI v13.i), (xI v14.i), (xI x20.i)]; let v17 : X := Ff 272 [(xI v9.i), (xI v10.i), (xI v11.i), (xI v12.i), (xI v13.i), (xI v14.i), (xI x20.i)]; (Px 710 [(xI v9.i), (xI v10.i), (xI v11.i), (xI v12.i), (xI v13.i), (xI v14.i), x22, x7, (xI (x8 % 4)), (xI v15.i), (xI v16.i), (xI v17.i)] ∧
(let v19 : X := Ff 813 [(xI v9.i), (xI v10.i), (xI v11.i), (xI v12.i), (xI v13.i), (xI v14.i), x22, x7, (xI (x8 % 4)), (xI v15.i), (xI v16.i), (xI v17.i)]; (((v19.b = true) →
((x20.i < x22.i) ∧
((x20.i < x22.i) ∧
(let v24 : X := Ff 810 [(xI v9.i), (xI v10.i), (xI v11.i), (xI v12.i), (xI v13.i), (xI v14.i), x22, x7, (xI (x8 % 4)), (xI v15.i), (xI v16.i), (xI v17.i)]; let v25 : X := Ff 811 [(xI v9.i), (xI v10.i), (xI v11.i), (xI v12.i), (xI v13.i), (xI v14.i), x22, x7, (xI (x8 % 4)), (xI v15.i), (xI v16.i), (xI v17.i)]; let v26 : X := Ff 812 [(xI v9.i), (xI v10.i), (xI v11.i), (xI v12.i), (xI v13.i), (xI v14.i), x22, x7, (xI (x8 % 4)), (xI v15.i), (xI v16.i), (xI v17.i)]; let v27 : X := Ff 260 [(xI v9.i), (xI v10.i), (xI v11.i), (xI v12.i), (xI v13.i), (xI v14.i), (xI v24.i), (xI v25.i), (xI v26.i)]; ((0 ≤ v27.i) ∧
((v27.i < x22.i) ∧
((x20.i < x22.i) ∧
((0 ≤ v27.i) ∧
((v27.i < x22.i) ∧
(((x21.i + 1) ≤ 2097152) ∧
(Px 872 [(xI x0), (xI x1), (xI x2), (xI x3), (xI x4), (xI x5), x6, x7, (xI x8), (xI (x20.i + 1)), (xI (x21.i + 1)), (mkX (rwSet (rwSet x22.r x20.i 0 (selX x22.r v27.i 0)) v27.i 0 (selX x22.r x20.i 0)) x22.i)] ∧
(((Ff 892 [(xI x0), (xI x1), (xI x2), (xI x3), (xI x4), (xI x5), x6, x7, (xI x8), (xI (x20.i + 1)), (xI (x21.i + 1)), (mkX (rwSet (rwSet x22.r x20.i 0 (selX x22.r v27.i 0)) v27.i 0 (selX x22.r x20.i 0)) x22.i)]).i < (Ff 892 [(xI x0), (xI x1), (xI x2), (xI x3), (xI x4), (xI x5), x6, x7, (xI x8), x20, x21, x22]).i) ∧
(0 < (Ff 892 [(xI x0), (xI x1), (xI x2), (xI x3), (xI x4), (xI x5), x6, x7, (xI x8), x20, x21, x22]).i))))))))))))) ∧
((¬ (v19.b = true)) →
(Px 872 [(xI x0), (xI x1), (xI x2), (xI x3), (xI x4), (xI x5), x6, x7, (xI x8), (xI (x20.i + 1)), (xI x21.i), x22] ∧
(((Ff 892 [(xI x0), (xI x1), (xI x2), (xI x3), (xI x4), (xI x5), x6, x7, (xI x8), (xI (x20.i + 1)), (xI x21.i), x22]).i < (Ff 892 [(xI x0), (xI x1), (xI x2), (xI x3), (xI x4), (xI x5), x6, x7, (xI x8), x20, x21, x22]).i) ∧
(0 < (Ff 892 [(xI x0), (xI x1), (xI x2), (xI x3), (xI x4), (xI x5), x6, x7, (xI x8), x20, x21, x22]).i))))))))) ∧
((¬ (x20.i < v1.i)) →
(let v40 : X := Ff 701 [(xI x0), (xI x1), (xI x2), (xI x3), (xI x4), (xI x5), x6, (xI x0), (xI x1), (xI x2), (xI x3), (xI x4), (xI x5), x6]; let v41 : X := Ff 702 [(xI x0), (xI x1), (xI x2), (xI x3), (xI x4), (xI x5), x6, (xI x0), (xI x1), (xI x2), (xI x3), (xI x4), (xI x5), x6]; let v42 : X := Ff 703 [(xI x0), (xI x1), (xI x2), (xI x3), (xI x4), (xI x5), x6, (xI x0), (xI x1), (xI x2), (xI x3), (xI x4), (xI x5), x6]; let v43 : X := Ff 704 [(xI x0), (xI x1), (xI x2), (xI x3), (xI x4), (xI x5), x6, (xI x0), (xI x1), (xI x2), (xI x3), (xI x4), (xI x5), x6]; let v44 : X := Ff 705 [(xI x0), (xI x1), (xI x2), (xI x3), (xI x4), (xI x5), x6, (xI x0), (xI x1), (xI x2), (xI x3), (xI x4), (xI x5), x6]; let v45 : X := Ff 706 [(xI x0), (xI x1), (xI x2), (xI x3), (xI x4), (xI x5), x6, (xI x0), (xI x1), (xI x2), (xI x3), (xI x4), (xI x5), x6]; (((v40.i = (Ff 820 [xI x0, xI x1, xI x2, xI x3, xI x4, xI x5, x6, x7, xI x8]).i ∧ -1048575 ≤ (Ff 820 [xI x0, xI x1, xI x2, xI x3, xI x4, xI x5, x6, x7, xI x8]).i ∧ (Ff 820 [xI x0, xI x1, xI x2, xI x3, xI x4, xI x5, x6, x7, xI x8]).i ≤ 1048575) ∧ ((v41.i = (Ff 821 [xI x0, xI x1, xI x2, xI x3, xI x4, xI x5, x6, x7, xI x8]).i ∧ -1048575 ≤ (Ff 821 [xI x0, xI x1, xI x2, xI x3, xI x4, xI x5, x6, x7, xI x8]).i ∧ (Ff 821 [xI x0, xI x1, xI x2, xI x3, xI x4, xI x5, x6, x7, xI x8]).i ≤ 1048575) ∧ ((v42.i = (Ff 822 [xI x0, xI x1, xI x2, xI x3, xI x4, xI x5, x6, x7, xI x8]).i ∧ -1048575 ≤ (Ff 822 [xI x0, xI x1, xI x2, xI x3, xI x4, xI x5, x6, x7, xI x8]).i ∧ (Ff 822 [xI x0, xI x1, xI x2, xI x3, xI x4, xI x5, x6, x7, xI x8]).i ≤ 1048575) ∧ ((v43.i = (Ff 823 [xI x0, xI x1, xI x2, xI x3, xI x4, xI x5, x6, x7, xI x8]).i ∧ -1048575 ≤ (Ff 823 [xI x0, xI x1, xI x2, xI x3, xI x4, xI x5, x6, x7, xI x8]).i ∧ (Ff 823 [xI x0, xI x1, xI x2, xI x3, xI x4, xI x5, x6, x7, xI x8]).i ≤ 1048575) ∧ ((v44.i = (Ff 824 [xI x0, xI x1, xI x2, xI x3, xI x4, xI x5, x6, x7, xI x8]).i ∧ -1048575 ≤ (Ff 824 [xI x0, xI x1, xI x2, xI x3, xI x4, xI x5, x6, x7, xI x8]).i ∧ (Ff 824 [xI x0, xI x1, xI x2, xI x3, xI x4, xI x5, x6, x7, xI x8]).i ≤ 1048575) ∧ ((v45.i = (Ff 825 [xI x0, xI x1, xI x2, xI x3, xI x4, xI x5, x6, x7, xI x8]).i ∧ -1048575 ≤ (Ff 825 [xI x0, xI x1, xI x2, xI x3, xI x4, xI x5, x6, x7, xI x8]).i ∧ (Ff 825 [xI x0, xI x1, xI x2, xI x3, xI x4, xI x5, x6, x7, xI x8]).i ≤ 1048575) ∧ (rowEq SMat (Ff 826 [xI x0, xI x1, xI x2, xI x3, xI x4, xI x5, x6, x7, xI x8]) x22.r x22.i 2097152))))))) ∧ ((x21.i = (Ff 827 [xI x0, xI x1, xI x2, xI x3, xI x4, xI x5, x6, x7, xI x8]).i ∧ 0 ≤ (Ff 827 [xI x0, xI x1, xI x2, xI x3, xI x4, xI x5, x6, x7, xI x8]).i ∧ (Ff 827 [xI x0, xI x1, xI x2, xI x3, xI x4, xI x5, x6, x7, xI x8]).i ≤ 2097152) ∧ True)))))))))))))))
theorem RndL (x0 : Int) (x1 : Int) (x2 : Int) (x3 : Int) (x4 : Int) (x5 : Int) (x6 : X) (x7 : X) (x8 : Int) : (ctrR (fun j => Ff j [xI x0, xI x1, xI x2, xI x3, xI x4, xI x5, x6, x7, xI x8]) cRnd.fs cRnd.res { ρ0 with x := fun j => [xI x0, xI x1, xI x2, xI x3, xI x4, xI x5, x6, x7, xI x8].getD j (xI 0) } (walkR Tryd.prog (cfG none [cAt, cIndex] [cPaste, cTgtP] lpRnd sumL) Tryd.f11 400 RGvTk)) = RndP x0 x1 x2 x3 x4 x5 x6 x7 x8 := by kernel_rfl
set_option maxHeartbeats 4000000 in
theorem RndO (x0 : Int) (x1 : Int) (x2 : Int) (x3 : Int) (x4 : Int) (x5 : Int) (x6 : X) (x7 : X) (x8 : Int) (g0 : -1048575 ≤ x0 ∧ x0 ≤ 1048575) (g1 : -1048575 ≤ x1 ∧ x1 ≤ 1048575) (g2 : -1048575 ≤ x2 ∧ x2 ≤ 1048575) (g3 : -1048575 ≤ x3 ∧ x3 ≤ 1048575) (g4 : -1048575 ≤ x4 ∧ x4 ≤ 1048575) (g5 : -1048575 ≤ x5 ∧ x5 ≤ 1048575) (g6 : 0 ≤ x6.i ∧ x6.i ≤ 2097152 ∧ RowOk SMat x6.r x6.i.toNat) (g7 : 0 ≤ x7.i ∧ x7.i ≤ 9223372036854775807 ∧ RowOk SMt x7.r x7.i.toNat) (g8 : -9223372036854775808 ≤ x8 ∧ x8 ≤ 9223372036854775807) (gp : Px cRnd.pre.get! [xI x0, xI x1, xI x2, xI x3, xI x4, xI x5, x6, x7, xI x8]) : RndP x0 x1 x2 x3 x4 x5 x6 x7 x8 := by
  unfold RndP
  obtain ⟨k0, k1, k2, k3, k4⟩ := (v700 g6.1).1 gp
  have hV : (bxI x0 x1 x2 x3 x4 x5).vol = x6.i := k3
  refine andI ?_ fun o0 => ?_
  · exact ⟨gp, gp⟩ -- #0
  intro v1
  have hs : lstX deI v1 = (lstX deI x6) := (lstX_rowG (enc := enI) (dec := deI) (fun _ => rfl) _).trans (pas_self hV g6.1)
  have hn : v1.i = x6.i := by
    have h : v1.i = ((pasL (bxI x0 x1 x2 x3 x4 x5) (lstX deI x6) (bxI x0 x1 x2 x3 x4 x5) (lstX deI x6)).length : Nat) := rowG_i ..
    rw [pas_self hV g6.1, lstX_len] at h
    omega
  refine andI ?_ fun o2 => ?_
  · skip -- #1
    refine ⟨Int.le_refl _, g6.1, hn, ?_⟩
    exact Prod.ext hs rfl
  intro x20
  intro x21
  intro x22
  intro h3
  intro h4
  intro r5
  have hr5 := r5
  intro p6
  have ho : x22.i = x6.i := p6.2.2.1
  have hR : rndB (bxI x0 x1 x2 x3 x4 x5) x7 x8 (lstX deI x6) x20.i.toNat = (lstX deI x22, x21.i) := p6.2.2.2.symm
  refine And.intro ?_ ?_
  · intro h8
    have hlt : x20.i < x22.i := by omega
    intro v9
    intro v10
    intro v11
    intro v12
    intro v13
    intro v14
    intro v15
    intro v16
    intro v17
    refine andI ?_ fun o18 => ?_
    · exact valid_row g6.1 gp ho r5.2.2 -- #2
    intro v19
    refine And.intro ?_ ?_
    · intro h21
      obtain ⟨q, hq⟩ := Option.isSome_iff_exists.1 (show (tgtB (bxI x0 x1 x2 x3 x4 x5) (lstX deI x22) x7 (x8 % 4) ((bxI x0 x1 x2 x3 x4 x5).at x20.i)).isSome = true from h21)
      have hqi := idx_ok (tgt_has hq).2
      refine andI ?_ fun o22 => ?_
      · exact hlt -- #3
      refine andI ?_ fun o23 => ?_
      · exact hlt -- #4
      intro v24
      intro v25
      intro v26
      intro v27
      have e27 : v27.i = (bxI x0 x1 x2 x3 x4 x5).idx q := by
        show (bxI x0 x1 x2 x3 x4 x5).idx (((tgtB (bxI x0 x1 x2 x3 x4 x5) (lstX deI x22) x7 (x8 % 4) ((bxI x0 x1 x2 x3 x4 x5).at x20.i)).getD (0, 0, 0)).1, ((tgtB (bxI x0 x1 x2 x3 x4 x5) (lstX deI x22) x7 (x8 % 4) ((bxI x0 x1 x2 x3 x4 x5).at x20.i)).getD (0, 0, 0)).2.1, ((tgtB (bxI x0 x1 x2 x3 x4 x5) (lstX deI x22) x7 (x8 % 4) ((bxI x0 x1 x2 x3 x4 x5).at x20.i)).getD (0, 0, 0)).2.2) = _
        rw [hq]
        rfl
      refine andI ?_ fun o28 => ?_
      · omega -- #5
      refine andI ?_ fun o29 => ?_
      · omega -- #6
      refine andI ?_ fun o30 => ?_
      · exact hlt -- #7
      refine andI ?_ fun o31 => ?_
      · omega -- #8
      refine andI ?_ fun o32 => ?_
      · omega -- #9
      refine andI ?_ fun o33 => ?_
      · skip -- #10
        have := rnd_cnt (b := bxI x0 x1 x2 x3 x4 x5) (t := x7) (k := x8) (cs := lstX deI x6) x20.i.toNat
        rw [hR] at this
        have : x21.i ≤ (x20.i.toNat : Int) := this
        omega
      refine andI ?_ fun o34 => ?_
      · skip -- #11
        refine ⟨Int.le_trans h3.1 (Int.le_of_lt (Int.lt_succ _)), show x20.i + 1 ≤ x6.i by omega, ho, ?_⟩
        show (lstX deI (mkX (rwSet (rwSet x22.r x20.i 0 (selX x22.r v27.i 0)) v27.i 0 (selX x22.r x20.i 0)) x22.i), x21.i + 1) = rndB (bxI x0 x1 x2 x3 x4 x5) x7 x8 (lstX deI x6) (x20.i + 1).toNat
        rw [tgt_mod] at hq
        rw [rnd_step h3.1, hR]
        show _ = match tgtB (bxI x0 x1 x2 x3 x4 x5) (lstX deI x22) x7 x8 ((bxI x0 x1 x2 x3 x4 x5).at x20.i) with | some q => _ | none => _
        rw [hq, swp_row h3.1 hlt (by omega) (by omega), e27]
      refine andI ?_ fun o35 => ?_
      · skip -- #12
        show x6.i + 1 - (x20.i + 1) < x6.i + 1 - x20.i
        omega
      skip -- #13
      show 0 < x6.i + 1 - x20.i
      omega
    intro h36
    refine andI ?_ fun o37 => ?_
    · skip -- #14
      refine ⟨Int.le_trans h3.1 (Int.le_of_lt (Int.lt_succ _)), show x20.i + 1 ≤ x6.i by omega, ho, ?_⟩
      show (lstX deI x22, x21.i) = rndB (bxI x0 x1 x2 x3 x4 x5) x7 x8 (lstX deI x6) (x20.i + 1).toNat
      have hq : tgtB (bxI x0 x1 x2 x3 x4 x5) (lstX deI x22) x7 (x8 % 4) ((bxI x0 x1 x2 x3 x4 x5).at x20.i) = none := Option.isNone_iff_eq_none.1 (not_some h36)
      rw [tgt_mod] at hq
      rw [rnd_step h3.1, hR]
      show _ = match tgtB (bxI x0 x1 x2 x3 x4 x5) (lstX deI x22) x7 x8 ((bxI x0 x1 x2 x3 x4 x5).at x20.i) with | some q => _ | none => _
      rw [hq]
    refine andI ?_ fun o38 => ?_
    · skip -- #15
      show x6.i + 1 - (x20.i + 1) < x6.i + 1 - x20.i
      omega
    skip -- #16
    show 0 < x6.i + 1 - x20.i
    omega
  intro h39
  intro v40
  intro v41
  intro v42
  intro v43
  intro v44
  intro v45
  skip -- #17
  have hi : (lstX deI x6).length = x20.i.toNat := by
    rw [lstX_len]
    have := p6.2.1
    omega
  have hL : rndB (bxI x0 x1 x2 x3 x4 x5) x7 x8 (lstX deI x6) (lstX deI x6).length = (lstX deI x22, x21.i) := by rw [hi, hR]
  have e1 : rndL (bxI x0 x1 x2 x3 x4 x5) x7 x8 (lstX deI x6) = lstX deI x22 := congrArg Prod.fst hL
  have e2 : rndM (bxI x0 x1 x2 x3 x4 x5) x7 x8 (lstX deI x6) = x21.i := congrArg Prod.snd hL
  exact ⟨⟨⟨rfl, g0⟩, ⟨rfl, g1⟩, ⟨rfl, g2⟩, ⟨rfl, g3⟩, ⟨rfl, g4⟩, ⟨rfl, g5⟩, rowEq_of eqEl_int r5.1 r5.2.1 e1.symm⟩, rngI e2 h4, trivial⟩
theorem kRnd : RCtrOk Tryd.prog ρ0 cRnd := by
  refine rctr_ofN (cf := cfG none [cAt, cIndex] [cPaste, cTgtP] lpRnd sumL) (cfG_ok ((keep0.cons kIndex nIndex).cons kAt nAt) ((keepR0.cons kTgtP nTgtP).cons kPaste nPaste) noF) Tryd.func11 rfl 400 rfl (sh := RGvTk) (by kernel_rfl) val_rsh fun ds hr hp => ?_
  have hr := rshX_flat hr
  match ds, hr, hp with
  | [d0, d1, d2, d3, d4, d5, d6, d7, d8], hr, hp =>
    obtain ⟨⟨e0, l0, u0⟩, ⟨e1, l1, u1⟩, ⟨e2, l2, u2⟩, ⟨e3, l3, u3⟩, ⟨e4, l4, u4⟩, ⟨e5, l5, u5⟩, l6, l7, ⟨e8, l8, u8⟩, _⟩ := hr
    generalize d0.i = x0 at *
    generalize d1.i = x1 at *
    generalize d2.i = x2 at *
    generalize d3.i = x3 at *
    generalize d4.i = x4 at *
    generalize d5.i = x5 at *
    generalize d6 = x6 at *
    generalize d7 = x7 at *
    generalize d8.i = x8 at *
    subst e0 e1 e2 e3 e4 e5 e8
    exact Eq.mpr (RndL x0 x1 x2 x3 x4 x5 x6 x7 x8) (RndO x0 x1 x2 x3 x4 x5 x6 x7 x8 ⟨l0, u0⟩ ⟨l1, u1⟩ ⟨l2, u2⟩ ⟨l3, u3⟩ ⟨l4, u4⟩ ⟨l5, u5⟩ l6 l7 ⟨l8, u8⟩ hp)
theorem nRnd : ∃ fn, Tryd.prog.funcs[cRnd.f]? = some fn ∧ fn.body.isSome = true ∧ (fn.name == "runtime.NumGoroutine") = false := ⟨_, Tryd.func11, by kernel_rfl, by kernel_rfl⟩

/-- What is left of the contract of voxelref06.isName. -/
def NmP (x0 : X) : Prop :=
((((x0.i < 1) ∨ (32 < x0.i)) →
((false = true) ↔ (Ff 867 [x0]).b = true)) ∧
((¬ ((x0.i < 1) ∨ (32 < x0.i))) →
(Px 877 [x0, (xI 0)] ∧
(∀ x20 : X, (((0 ≤ x20.i) ∧ (x20.i ≤ 32)) →
(Px 877 [x0, x20] →
(((x20.i < x0.i) →
((x20.i < x0.i) ∧
(((97 ≤ (bytV x0.v x20.i)) →
(x20.i < x0.i)) ∧
((x20.i < x0.i) ∧
((((¬ ((97 ≤ (bytV x0.v x20.i)) ∧ ((bytV x0.v x20.i) ≤ 122))) ∧ (¬ ((((bytV x0.v x20.i) = 45) ∧ (0 < x20.i)) ∧ (x20.i < (x0.i - 1))))) →
((false = true) ↔ (Ff 867 [x0]).b = true)) ∧
((¬ ((¬ ((97 ≤ (bytV x0.v x20.i)) ∧ ((bytV x0.v x20.i) ≤ 122))) ∧ (¬ ((((bytV x0.v x20.i) = 45) ∧ (0 < x20.i)) ∧ (x20.i < (x0.i - 1)))))) →
(((x20.i + 1) ≤ 32) ∧
(Px 877 [x0, (xI (x20.i + 1))] ∧
(((Ff 897 [x0, (xI (x20.i + 1))]).i < (Ff 897 [x0, x20]).i) ∧
(0 < (Ff 897 [x0, x20]).i)))))))))) ∧
((¬ (x20.i < x0.i)) →
((true = true) ↔ (Ff 867 [x0]).b = true)))))))))
theorem NmL (x0 : X) : (ctrR (fun j => Ff j [x0]) cNm.fs cNm.res { ρ0 with x := fun j => [x0].getD j (xI 0) } (walkR Tryd.prog (cfG none [] [] lpNm sumL) Tryd.f71 400 cNm.args)) = NmP x0 := by kernel_rfl
set_option maxHeartbeats 4000000 in
theorem NmO (x0 : X) (g0 : ∃ s : ByteArray, x0.v = .string s ∧ x0.i = s.size ∧ (s.size : Int) ≤ 9223372036854775807) : NmP x0 := by
  unfold NmP
  refine And.intro ?_ ?_
  · intro h1
    skip -- #0
    refine iff_of_false Bool.false_ne_true fun hv => ?_
    have := (nm_iff.1 hv).1
    omega
  intro h2
  refine andI ?_ fun o3 => ?_
  · exact ⟨Int.le_refl _, show 0 ≤ x0.i by omega, rfl⟩ -- #1
  intro x20
  intro h4
  intro p5
  refine And.intro ?_ ?_
  · intro h7
    refine andI ?_ fun o8 => ?_
    · omega -- #2
    refine And.intro ?_ ?_
    · intro h10
      omega -- #3
    refine andI ?_ fun o11 => ?_
    · omega -- #4
    refine And.intro ?_ ?_
    · intro h13
      skip -- #5
      refine iff_of_false Bool.false_ne_true fun hv => nm_no (s := x0) (n := x20.i.toNat) (m := x0.i.toNat) (fun hc => ?_) (by omega) (nm_iff.1 hv).2
      rw [Int.toNat_of_nonneg h4.1] at hc
      exact (nmc_iff.1 hc).elim h13.1 h13.2
    intro h14
    refine andI ?_ fun o15 => ?_
    · omega -- #6
    refine andI ?_ fun o16 => ?_
    · skip -- #7
      refine ⟨Int.le_trans h4.1 (Int.le_of_lt (Int.lt_succ _)), show x20.i + 1 ≤ x0.i by omega, ?_⟩
      show nmB x0 (x20.i + 1).toNat = true
      rw [nm_step h4.1, p5.2.2, Bool.true_and]
      exact nmc_iff.2 (Decidable.byContradiction fun hc => h14 (not_or.1 hc))
    refine andI ?_ fun o17 => ?_
    · skip -- #8
      show x0.i + 1 - (x20.i + 1) < x0.i + 1 - x20.i
      omega
    skip -- #9
    show 0 < x0.i + 1 - x20.i
    omega
  intro h18
  skip -- #10
  refine iff_of_true rfl (nm_iff.2 ⟨by omega, ?_⟩)
  have h := p5.2.2
  rwa [show x20.i.toNat = x0.i.toNat by have := p5.2.1; omega] at h
theorem kNm : RCtrOk Tryd.prog ρ0 cNm := by
  refine rctr_of (cf := cfG none [] [] lpNm sumL) (cfG_ok keep0 keepR0 noF) Tryd.func71 rfl 400 rfl fun ds hr => ?_
  have hr := rshX_flat hr
  match ds, hr with
  | [d0], hr =>
    obtain ⟨l0, _⟩ := hr
    generalize d0 = x0 at *
    exact Eq.mpr (NmL x0) (NmO x0 l0)
theorem nNm : ∃ fn, Tryd.prog.funcs[cNm.f]? = some fn ∧ fn.body.isSome = true ∧ (fn.name == "runtime.NumGoroutine") = false := ⟨_, Tryd.func71, by kernel_rfl, by kernel_rfl⟩

/-- What is left of the contract of voxelref06.valid. -/
def ValP (x0 : X) (x1 : Bool) (x2 : Bool) (x3 : Bool) (x4 : Int) (x5 : Int) (x6 : Int) (x7 : Int) : Prop :=
((((x5 < 0) ∨ (15 < x5)) →
((false = true) ↔ (Ff 868 [x0, xB x1, xB x2, xB x3, xI x4, xI x5, xI x6, xI x7]).b = true)) ∧
((¬ ((x5 < 0) ∨ (15 < x5))) →
((((x6 < 0) ∨ (15 < x6)) →
((false = true) ↔ (Ff 868 [x0, xB x1, xB x2, xB x3, xI x4, xI x5, xI x6, xI x7]).b = true)) ∧
((¬ ((x6 < 0) ∨ (15 < x6))) →
((((x7 < 0) ∨ (15 < x7)) →
((false = true) ↔ (Ff 868 [x0, xB x1, xB x2, xB x3, xI x4, xI x5, xI x6, xI x7]).b = true)) ∧
((¬ ((x7 < 0) ∨ (15 < x7))) →
(let v9 : X := Ff 867 [x0]; ((((((v9.b = true) ∧ ((¬ (x1 = true)) ∨ (¬ (x2 = true)))) ∧ ((¬ (x3 = true)) ∨ (x1 = true))) ∧ (1 ≤ x4)) ∧ (x4 ≤ 16)) ↔ (Ff 868 [x0, xB x1, xB x2, xB x3, xI x4, xI x5, xI x6, xI x7]).b = true))))))))
theorem ValL (x0 : X) (x1 : Bool) (x2 : Bool) (x3 : Bool) (x4 : Int) (x5 : Int) (x6 : Int) (x7 : Int) : (ctrR (fun j => Ff j [x0, xB x1, xB x2, xB x3, xI x4, xI x5, xI x6, xI x7]) cVal.fs cVal.res { ρ0 with x := fun j => [x0, xB x1, xB x2, xB x3, xI x4, xI x5, xI x6, xI x7].getD j (xI 0) } (walkR Tryd.prog (cfG none [] [cNm] [] sumL) Tryd.f50 400 cVal.args)) = ValP x0 x1 x2 x3 x4 x5 x6 x7 := by kernel_rfl
set_option maxHeartbeats 4000000 in
theorem ValO (x0 : X) (x1 : Bool) (x2 : Bool) (x3 : Bool) (x4 : Int) (x5 : Int) (x6 : Int) (x7 : Int) (g0 : ∃ s : ByteArray, x0.v = .string s ∧ x0.i = s.size ∧ (s.size : Int) ≤ 9223372036854775807) (g4 : -9223372036854775808 ≤ x4 ∧ x4 ≤ 9223372036854775807) (g5 : -9223372036854775808 ≤ x5 ∧ x5 ≤ 9223372036854775807) (g6 : -9223372036854775808 ≤ x6 ∧ x6 ≤ 9223372036854775807) (g7 : -9223372036854775808 ≤ x7 ∧ x7 ≤ 9223372036854775807) : ValP x0 x1 x2 x3 x4 x5 x6 x7 := by
  unfold ValP
  refine And.intro ?_ ?_
  · intro h1
    exact iff_of_false Bool.false_ne_true fun hv => by have := ((val_iff (s := x0) (a := x1) (b := x2) (c := x3) (f := x4) (x := x5) (y := x6) (z := x7)).1 hv).1; omega -- #0
  intro h2
  refine And.intro ?_ ?_
  · intro h4
    exact iff_of_false Bool.false_ne_true fun hv => by have := ((val_iff (s := x0) (a := x1) (b := x2) (c := x3) (f := x4) (x := x5) (y := x6) (z := x7)).1 hv).1; omega -- #1
  intro h5
  refine And.intro ?_ ?_
  · intro h7
    exact iff_of_false Bool.false_ne_true fun hv => by have := ((val_iff (s := x0) (a := x1) (b := x2) (c := x3) (f := x4) (x := x5) (y := x6) (z := x7)).1 hv).1; omega -- #2
  intro h8
  intro v9
  exact ⟨fun h => (val_iff (s := x0) (a := x1) (b := x2) (c := x3) (f := x4) (x := x5) (y := x6) (z := x7)).2 ⟨⟨by omega, by omega, by omega⟩, h⟩, fun h => ((val_iff (s := x0) (a := x1) (b := x2) (c := x3) (f := x4) (x := x5) (y := x6) (z := x7)).1 h).2⟩ -- #3
theorem kVal : RCtrOk Tryd.prog ρ0 cVal := by
  refine rctr_of (cf := cfG none [] [cNm] [] sumL) (cfG_ok keep0 (keepR0.cons kNm nNm) noF) Tryd.func50 rfl 400 rfl fun ds hr => ?_
  have hr := rshX_flat hr
  match ds, hr with
  | [d0, d1, d2, d3, d4, d5, d6, d7], hr =>
    obtain ⟨l0, e1, e2, e3, ⟨e4, l4, u4⟩, ⟨e5, l5, u5⟩, ⟨e6, l6, u6⟩, ⟨e7, l7, u7⟩, _⟩ := hr
    generalize d0 = x0 at *
    obtain ⟨x1, rfl⟩ : ∃ x, d1 = xB x := ⟨_, e1⟩
    obtain ⟨x2, rfl⟩ : ∃ x, d2 = xB x := ⟨_, e2⟩
    obtain ⟨x3, rfl⟩ : ∃ x, d3 = xB x := ⟨_, e3⟩
    generalize d4.i = x4 at *
    generalize d5.i = x5 at *
    generalize d6.i = x6 at *
    generalize d7.i = x7 at *
    subst e4 e5 e6 e7
    exact Eq.mpr (ValL x0 x1 x2 x3 x4 x5 x6 x7) (ValO x0 x1 x2 x3 x4 x5 x6 x7 l0 ⟨l4, u4⟩ ⟨l5, u5⟩ ⟨l6, u6⟩ ⟨l7, u7⟩)
theorem nVal : ∃ fn, Tryd.prog.funcs[cVal.f]? = some fn ∧ fn.body.isSome = true ∧ (fn.name == "runtime.NumGoroutine") = false := ⟨_, Tryd.func50, by kernel_rfl, by kernel_rfl⟩

/-- What is left of the contract of voxelref06.Find. -/
def FndP (x0 : X) (x1 : X) : Prop :=
(Px 876 [x0, x1, (xI 0)] ∧
(∀ x20 : X, (((0 ≤ x20.i) ∧ (x20.i ≤ 9223372036854775807)) →
(Px 876 [x0, x1, x20] →
(((x20.i < x0.i) →
((x20.i < x0.i) ∧
((((strEq (x0.r x20.i 0).v x1.v) = true) →
((x20.i = (Ff 865 [x0, x1]).i ∧ 0 ≤ (Ff 865 [x0, x1]).i ∧ (Ff 865 [x0, x1]).i ≤ 9223372036854775807) ∧ (((true = true) ↔ (Ff 866 [x0, x1]).b = true) ∧ True))) ∧
((¬ ((strEq (x0.r x20.i 0).v x1.v) = true)) →
(Px 876 [x0, x1, (xI (x20.i + 1))] ∧
(((Ff 896 [x0, x1, (xI (x20.i + 1))]).i < (Ff 896 [x0, x1, x20]).i) ∧
(0 < (Ff 896 [x0, x1, x20]).i))))))) ∧
((¬ (x20.i < x0.i)) →
((0 = (Ff 865 [x0, x1]).i ∧ 0 ≤ (Ff 865 [x0, x1]).i ∧ (Ff 865 [x0, x1]).i ≤ 9223372036854775807) ∧ (((false = true) ↔ (Ff 866 [x0, x1]).b = true) ∧ True))))))))
theorem FndL (x0 : X) (x1 : X) : (ctrR (fun j => Ff j [x0, x1]) cFnd.fs cFnd.res { ρ0 with x := fun j => [x0, x1].getD j (xI 0) } (walkR Tryd.prog (cfG none [] [] lpFnd sumL) Tryd.f51 400 cFnd.args)) = FndP x0 x1 := by kernel_rfl
set_option maxHeartbeats 4000000 in
theorem FndO (x0 : X) (x1 : X) (g0 : 0 ≤ x0.i ∧ x0.i ≤ 9223372036854775807 ∧ RowOk SMt x0.r x0.i.toNat) (g1 : ∃ s : ByteArray, x1.v = .string s ∧ x1.i = s.size ∧ (s.size : Int) ≤ 9223372036854775807) : FndP x0 x1 := by
  unfold FndP
  refine andI ?_ fun o0 => ?_
  · exact ⟨Int.le_refl _, g0.1, fun k hk => absurd hk (by show ¬ (k : Int) < 0; omega)⟩ -- #0
  intro x20
  intro h1
  intro p2
  refine And.intro ?_ ?_
  · intro h4
    refine andI ?_ fun o5 => ?_
    · omega -- #1
    refine And.intro ?_ ?_
    · intro h7
      skip -- #2
      have hf := fnd_some (t := x0) (s := x1) h1.1 h4 h7 p2.2.2
      have e : Ff 865 [x0, x1] = xI x20.i := by
        show xI (((fndX x0 x1).getD 0 : Nat) : Int) = _
        rw [hf]
        show xI ((x20.i.toNat : Nat) : Int) = _
        rw [Int.toNat_of_nonneg h1.1]
      have e2 : (Ff 866 [x0, x1]).b = true := by
        show (fndX x0 x1).isSome = true
        rw [hf]
        rfl
      rw [e]
      exact ⟨⟨rfl, h1⟩, iff_of_true rfl e2, trivial⟩
    intro h8
    refine andI ?_ fun o9 => ?_
    · skip -- #3
      refine ⟨Int.le_trans h1.1 (Int.le_of_lt (Int.lt_succ _)), show x20.i + 1 ≤ x0.i by omega, fun k hk => ?_⟩
      have hk : (k : Int) < x20.i + 1 := hk
      by_cases e : (k : Int) = x20.i
      · rw [e]
        exact Bool.eq_false_iff.2 h8
      · exact p2.2.2 k (by omega)
    refine andI ?_ fun o10 => ?_
    · skip -- #4
      show x0.i + 1 - (x20.i + 1) < x0.i + 1 - x20.i
      omega
    skip -- #5
    show 0 < x0.i + 1 - x20.i
    omega
  intro h11
  skip -- #6
  have hf := fnd_none (t := x0) (s := x1) (i := x20.i) (by omega) p2.2.2
  have e : Ff 865 [x0, x1] = xI 0 := by
    show xI (((fndX x0 x1).getD 0 : Nat) : Int) = _
    rw [hf]
    rfl
  have e2 : ¬ (Ff 866 [x0, x1]).b = true := by
    show ¬ (fndX x0 x1).isSome = true
    rw [hf]
    exact Bool.false_ne_true
  rw [e]
  exact ⟨⟨rfl, by decide⟩, iff_of_false Bool.false_ne_true e2, trivial⟩
theorem kFnd : RCtrOk Tryd.prog ρ0 cFnd := by
  refine rctr_of (cf := cfG none [] [] lpFnd sumL) (cfG_ok keep0 keepR0 noF) Tryd.func51 rfl 400 rfl fun ds hr => ?_
  have hr := rshX_flat hr
  match ds, hr with
  | [d0, d1], hr =>
    obtain ⟨l0, l1, _⟩ := hr
    generalize d0 = x0 at *
    generalize d1 = x1 at *
    exact Eq.mpr (FndL x0 x1) (FndO x0 x1 l0 l1)
theorem nFnd : ∃ fn, Tryd.prog.funcs[cFnd.f]? = some fn ∧ fn.body.isSome = true ∧ (fn.name == "runtime.NumGoroutine") = false := ⟨_, Tryd.func51, by kernel_rfl, by kernel_rfl⟩

/-- What is left of the contract of voxelref06.Check. -/
def ChkP (x0 : X) : Prop :=
(((256 < x0.i) →
(((-1) = (Ff 862 [x0]).i ∧ -1 ≤ (Ff 862 [x0]).i ∧ (Ff 862 [x0]).i ≤ 256) ∧ ((2 = (Ff 863 [x0]).i ∧ 0 ≤ (Ff 863 [x0]).i ∧ (Ff 863 [x0]).i ≤ 10) ∧ True))) ∧
((¬ (256 < x0.i)) →
(((x0.i = 0) →
(((-1) = (Ff 862 [x0]).i ∧ -1 ≤ (Ff 862 [x0]).i ∧ (Ff 862 [x0]).i ≤ 256) ∧ ((1 = (Ff 863 [x0]).i ∧ 0 ≤ (Ff 863 [x0]).i ∧ (Ff 863 [x0]).i ≤ 10) ∧ True))) ∧
((¬ (x0.i = 0)) →
((0 < x0.i) ∧
(((¬ (((strEq (x0.r 0 0).v (.string ⟨#[97, 105, 114]⟩)) = true) ∧ ((¬ ((x0.r 0 1).b = true)) ∧ ((¬ ((x0.r 0 2).b = true)) ∧ ((¬ ((x0.r 0 3).b = true)) ∧ (((x0.r 0 4).i = 1) ∧ (((x0.r 0 5).i = 0) ∧ (((x0.r 0 6).i = 0) ∧ ((x0.r 0 7).i = 0))))))))) →
((0 = (Ff 862 [x0]).i ∧ -1 ≤ (Ff 862 [x0]).i ∧ (Ff 862 [x0]).i ≤ 256) ∧ ((1 = (Ff 863 [x0]).i ∧ 0 ≤ (Ff 863 [x0]).i ∧ (Ff 863 [x0]).i ≤ 10) ∧ True))) ∧
((((strEq (x0.r 0 0).v (.string ⟨#[97, 105, 114]⟩)) = true) ∧ ((¬ ((x0.r 0 1).b = true)) ∧ ((¬ ((x0.r 0 2).b = true)) ∧ ((¬ ((x0.r 0 3).b = true)) ∧ (((x0.r 0 4).i = 1) ∧ (((x0.r 0 5).i = 0) ∧ (((x0.r 0 6).i = 0) ∧ ((x0.r 0 7).i = 0)))))))) →
(Px 875 [x0, (xI 0)] ∧
(∀ x20 : X, (((0 ≤ x20.i) ∧ (x20.i ≤ 256)) →
(Px 875 [x0, x20] →
(((x20.i < x0.i) →
((x20.i < x0.i) ∧
(let v16 : X := Ff 868 [(selX x0.r x20.i 0), (xB (x0.r x20.i 1).b), (xB (x0.r x20.i 2).b), (xB (x0.r x20.i 3).b), (xI (x0.r x20.i 4).i), (xI (x0.r x20.i 5).i), (xI (x0.r x20.i 6).i), (xI (x0.r x20.i 7).i)]; (((¬ (v16.b = true)) →
((x20.i = (Ff 862 [x0]).i ∧ -1 ≤ (Ff 862 [x0]).i ∧ (Ff 862 [x0]).i ≤ 256) ∧ ((1 = (Ff 863 [x0]).i ∧ 0 ≤ (Ff 863 [x0]).i ∧ (Ff 863 [x0]).i ≤ 10) ∧ True))) ∧
((v16.b = true) →
((x20.i < x0.i) ∧
(let v21 : X := Ff 865 [x0, (selX x0.r x20.i 0)]; (((v21.i < x20.i) →
((x20.i = (Ff 862 [x0]).i ∧ -1 ≤ (Ff 862 [x0]).i ∧ (Ff 862 [x0]).i ≤ 256) ∧ ((10 = (Ff 863 [x0]).i ∧ 0 ≤ (Ff 863 [x0]).i ∧ (Ff 863 [x0]).i ≤ 10) ∧ True))) ∧
((¬ (v21.i < x20.i)) →
(Px 875 [x0, (xI (x20.i + 1))] ∧
(((Ff 895 [x0, (xI (x20.i + 1))]).i < (Ff 895 [x0, x20]).i) ∧
(0 < (Ff 895 [x0, x20]).i)))))))))))) ∧
((¬ (x20.i < x0.i)) →
((0 = (Ff 862 [x0]).i ∧ -1 ≤ (Ff 862 [x0]).i ∧ (Ff 862 [x0]).i ≤ 256) ∧ ((0 = (Ff 863 [x0]).i ∧ 0 ≤ (Ff 863 [x0]).i ∧ (Ff 863 [x0]).i ≤ 10) ∧ True)))))))))))))))
theorem ChkL (x0 : X) : (ctrR (fun j => Ff j [x0]) cChk.fs cChk.res { ρ0 with x := fun j => [x0].getD j (xI 0) } (walkR Tryd.prog (cfG none [] [cVal, cFnd] lpChk sumL) Tryd.f29 400 cChk.args)) = ChkP x0 := by kernel_rfl
set_option maxHeartbeats 4000000 in
theorem ChkO (x0 : X) (g0 : 0 ≤ x0.i ∧ x0.i ≤ 9223372036854775807 ∧ RowOk SMt x0.r x0.i.toNat) : ChkP x0 := by
  unfold ChkP
  refine And.intro ?_ ?_
  · intro h1
    skip -- #0
    have e := chk_a h1
    exact ⟨rngI (congrArg Prod.fst e) (by decide), rngI (congrArg Prod.snd e) (by decide), trivial⟩
  intro h2
  refine And.intro ?_ ?_
  · intro h4
    skip -- #1
    have e := chk_b h2 h4
    exact ⟨rngI (congrArg Prod.fst e) (by decide), rngI (congrArg Prod.snd e) (by decide), trivial⟩
  intro h5
  refine andI ?_ fun o6 => ?_
  · omega -- #2
  refine And.intro ?_ ?_
  · intro h8
    skip -- #3
    have e := chk_c h2 h5 fun hc => h8 (air_iff.1 hc)
    exact ⟨rngI (congrArg Prod.fst e) (by decide), rngI (congrArg Prod.snd e) (by decide), trivial⟩
  intro h9
  have hT := chk_d h2 h5 (air_iff.2 h9)
  refine andI ?_ fun o10 => ?_
  · exact ⟨Int.le_refl _, g0.1, show chkF x0 (x0.i - 0).toNat 0 = _ by rw [Int.sub_zero]⟩ -- #4
  intro x20
  intro h11
  intro p12
  have hE : chkF x0 (x0.i - x20.i).toNat x20.i = chkT x0 := p12.2.2.trans hT.symm
  refine And.intro ?_ ?_
  · intro h14
    rw [chk_step h14] at hE
    refine andI ?_ fun o15 => ?_
    · omega -- #5
    intro v16
    have hv : v16.b = vldX x0 x20.i := rfl
    refine And.intro ?_ ?_
    · intro h18
      skip -- #6
      have hf : (!vldX x0 x20.i) = true := by rw [Bool.not_eq_true', ← hv]; exact Bool.eq_false_iff.2 h18
      have e := hE.symm.trans (if_pos hf)
      exact ⟨rngI (congrArg Prod.fst e) (by omega), rngI (congrArg Prod.snd e) (by decide), trivial⟩
    intro h19
    have hE := (if_neg (by rw [← hv, h19]; decide)).symm.trans hE
    refine andI ?_ fun o20 => ?_
    · omega -- #7
    intro v21
    refine And.intro ?_ ?_
    · intro h23
      skip -- #8
      have e := hE.symm.trans (if_pos h23)
      exact ⟨rngI (congrArg Prod.fst e) (by omega), rngI (congrArg Prod.snd e) (by decide), trivial⟩
    intro h24
    refine andI ?_ fun o25 => ?_
    · skip -- #9
      refine ⟨Int.le_trans h11.1 (Int.le_of_lt (Int.lt_succ _)), show x20.i + 1 ≤ x0.i by omega, ?_⟩
      exact ((if_neg h24).symm.trans hE).trans hT
    refine andI ?_ fun o26 => ?_
    · skip -- #10
      show x0.i + 1 - (x20.i + 1) < x0.i + 1 - x20.i
      omega
    skip -- #11
    show 0 < x0.i + 1 - x20.i
    omega
  intro h27
  skip -- #12
  have e : chkT x0 = (0, 0) := by
    rw [← hE, show (x0.i - x20.i).toNat = 0 by omega]
    rfl
  exact ⟨rngI (congrArg Prod.fst e) (by decide), rngI (congrArg Prod.snd e) (by decide), trivial⟩
theorem kChk : RCtrOk Tryd.prog ρ0 cChk := by
  refine rctr_of (cf := cfG none [] [cVal, cFnd] lpChk sumL) (cfG_ok keep0 ((keepR0.cons kFnd nFnd).cons kVal nVal) noF) Tryd.func29 rfl 400 rfl fun ds hr => ?_
  have hr := rshX_flat hr
  match ds, hr with
  | [d0], hr =>
    obtain ⟨l0, _⟩ := hr
    generalize d0 = x0 at *
    exact Eq.mpr (ChkL x0) (ChkO x0 l0)
theorem nChk : ∃ fn, Tryd.prog.funcs[cChk.f]? = some fn ∧ fn.body.isSome = true ∧ (fn.name == "runtime.NumGoroutine") = false := ⟨_, Tryd.func29, by kernel_rfl, by kernel_rfl⟩

/-- What is left of the contract of voxelref30.Few. -/
def FewP (x0 : Int) (x1 : Int) (x2 : Int) (x3 : Int) (x4 : Int) (x5 : Int) (x6 : X) (x7 : X) : Prop :=
((((400 < x6.i) ∨ (256 < x7.i)) →
((false = true) ↔ (Ff 861 [xI x0, xI x1, xI x2, xI x3, xI x4, xI x5, x6, x7]).b = true)) ∧
((¬ ((400 < x6.i) ∨ (256 < x7.i))) →
(let v3 : X := Ff 700 [(xI x0), (xI x1), (xI x2), (xI x3), (xI x4), (xI x5), x6]; let v4 : X := Ff 863 [x7]; (((v3.b = true) ∧ (v4.i = 0)) ↔ (Ff 861 [xI x0, xI x1, xI x2, xI x3, xI x4, xI x5, x6, x7]).b = true))))
theorem FewL (x0 : Int) (x1 : Int) (x2 : Int) (x3 : Int) (x4 : Int) (x5 : Int) (x6 : X) (x7 : X) : (ctrR (fun j => Ff j [xI x0, xI x1, xI x2, xI x3, xI x4, xI x5, x6, x7]) cFew.fs cFew.res { ρ0 with x := fun j => [xI x0, xI x1, xI x2, xI x3, xI x4, xI x5, x6, x7].getD j (xI 0) } (walkR Tryd.prog (cfG none [] [cValidR, cChk] [] sumL) Tryd.f10 400 cFew.args)) = FewP x0 x1 x2 x3 x4 x5 x6 x7 := by kernel_rfl
set_option maxHeartbeats 4000000 in
theorem FewO (x0 : Int) (x1 : Int) (x2 : Int) (x3 : Int) (x4 : Int) (x5 : Int) (x6 : X) (x7 : X) (g0 : -9223372036854775808 ≤ x0 ∧ x0 ≤ 9223372036854775807) (g1 : -9223372036854775808 ≤ x1 ∧ x1 ≤ 9223372036854775807) (g2 : -9223372036854775808 ≤ x2 ∧ x2 ≤ 9223372036854775807) (g3 : -9223372036854775808 ≤ x3 ∧ x3 ≤ 9223372036854775807) (g4 : -9223372036854775808 ≤ x4 ∧ x4 ≤ 9223372036854775807) (g5 : -9223372036854775808 ≤ x5 ∧ x5 ≤ 9223372036854775807) (g6 : 0 ≤ x6.i ∧ x6.i ≤ 9223372036854775807 ∧ RowOk [.int .i64 (-9223372036854775808) (9223372036854775807)] x6.r x6.i.toNat) (g7 : 0 ≤ x7.i ∧ x7.i ≤ 9223372036854775807 ∧ RowOk SMt x7.r x7.i.toNat) : FewP x0 x1 x2 x3 x4 x5 x6 x7 := by
  unfold FewP
  refine And.intro ?_ ?_
  · intro h1
    skip -- #0
    refine iff_of_false Bool.false_ne_true fun hv => ?_
    have := few_iff.1 hv
    omega
  intro h2
  intro v3
  intro v4
  skip -- #1
  refine Iff.trans ?_ (few_iff (l := x6) (t := x7)).symm
  exact ⟨fun h => ⟨by omega, by omega, h⟩, fun h => h.2.2⟩
theorem kFew : RCtrOk Tryd.prog ρ0 cFew := by
  refine rctr_of (cf := cfG none [] [cValidR, cChk] [] sumL) (cfG_ok keep0 ((keepR0.cons kChk nChk).cons kValidR nValidR) noF) Tryd.func10 rfl 400 rfl fun ds hr => ?_
  have hr := rshX_flat hr
  match ds, hr with
  | [d0, d1, d2, d3, d4, d5, d6, d7], hr =>
    obtain ⟨⟨e0, l0, u0⟩, ⟨e1, l1, u1⟩, ⟨e2, l2, u2⟩, ⟨e3, l3, u3⟩, ⟨e4, l4, u4⟩, ⟨e5, l5, u5⟩, l6, l7, _⟩ := hr
    generalize d0.i = x0 at *
    generalize d1.i = x1 at *
    generalize d2.i = x2 at *
    generalize d3.i = x3 at *
    generalize d4.i = x4 at *
    generalize d5.i = x5 at *
    generalize d6 = x6 at *
    generalize d7 = x7 at *
    subst e0 e1 e2 e3 e4 e5
    exact Eq.mpr (FewL x0 x1 x2 x3 x4 x5 x6 x7) (FewO x0 x1 x2 x3 x4 x5 x6 x7 ⟨l0, u0⟩ ⟨l1, u1⟩ ⟨l2, u2⟩ ⟨l3, u3⟩ ⟨l4, u4⟩ ⟨l5, u5⟩ l6 l7)
theorem nFew : ∃ fn, Tryd.prog.funcs[cFew.f]? = some fn ∧ fn.body.isSome = true ∧ (fn.name == "runtime.NumGoroutine") = false := ⟨_, Tryd.func10, by kernel_rfl, by kernel_rfl⟩
end Vc
end Go.Proofs.YtgbaelpcbhgdjaaDoor
