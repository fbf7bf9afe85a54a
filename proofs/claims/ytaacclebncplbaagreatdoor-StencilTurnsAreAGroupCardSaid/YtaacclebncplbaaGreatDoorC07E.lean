/- Contracts of functions, each out of one walk. -/
import Derived.Test.YtaacclebncplbaaGreatDoorC07M
namespace Go.Proofs.YtaacclebncplbaaGreatDoor
namespace Vc
open Go Go.RowKit
set_option linter.unusedVariables false
def EqRP (x0 x1 x2 x3 x4 x5 : Int) (x6 : X) (x7 x8 x9 x10 x11 x12 : Int) (x13 : X) : Prop :=
 let A := [xI x0, xI x1, xI x2, xI x3, xI x4, xI x5, x6, xI x7, xI x8, xI x9, xI x10, xI x11, xI x12, x13]; ((((¬ ((x0 = x7) ∧ ((x1 = x8) ∧ ((x2 = x9) ∧ ((x3 = x10) ∧ ((x4 = x11) ∧ (x5 = x12))))))) ∨ (¬ (x6.i = x13.i))) →
((false = true) ↔ (Ff 715 A).b = true)) ∧
((¬ ((¬ ((x0 = x7) ∧ ((x1 = x8) ∧ ((x2 = x9) ∧ ((x3 = x10) ∧ ((x4 = x11) ∧ (x5 = x12))))))) ∨ (¬ (x6.i = x13.i)))) →
(Px 734 (A ++ [xI 0]) ∧
(∀ x20 : X, (((0 ≤ x20.i) ∧ (x20.i ≤ 9223372036854775807)) →
(Px 734 (A ++ [x20]) →
(((x20.i < x6.i) →
((x20.i < x13.i) ∧
((x20.i < x6.i) ∧
(((¬ ((x6.r x20.i 0).i = (x13.r x20.i 0).i)) →
((false = true) ↔ (Ff 715 A).b = true)) ∧
(((x6.r x20.i 0).i = (x13.r x20.i 0).i) →
(Px 734 (A ++ [(xI (x20.i + 1))]) ∧
(((Ff 764 (A ++ [(xI (x20.i + 1))])).i < (Ff 764 (A ++ [x20])).i) ∧
(0 < (Ff 764 (A ++ [x20])).i)))))))) ∧
((¬ (x20.i < x6.i)) →
((true = true) ↔ (Ff 715 A).b = true)))))))))
theorem EqRL (x0 x1 x2 x3 x4 x5 : Int) (x6 : X) (x7 x8 x9 x10 x11 x12 : Int) (x13 : X) : (ctrR (fun j => Ff j [xI x0, xI x1, xI x2, xI x3, xI x4, xI x5, x6, xI x7, xI x8, xI x9, xI x10, xI x11, xI x12, x13]) cEqR.fs cEqR.res { ρ0 with x := fun j => [xI x0, xI x1, xI x2, xI x3, xI x4, xI x5, x6, xI x7, xI x8, xI x9, xI x10, xI x11, xI x12, x13].getD j (xI 0) } (walkR Tryz.prog (cfG none [] [] lpEqR sumC) Tryz.f22 400 cEqR.args)) = EqRP x0 x1 x2 x3 x4 x5 x6 x7 x8 x9 x10 x11 x12 x13 := by kernel_rfl
set_option maxHeartbeats 4000000 in
theorem EqRO (x0 x1 x2 x3 x4 x5 : Int) (x6 : X) (x7 x8 x9 x10 x11 x12 : Int) (x13 : X) (g0 : -9223372036854775808 ≤ x0 ∧ x0 ≤ 9223372036854775807) (g1 : -9223372036854775808 ≤ x1 ∧ x1 ≤ 9223372036854775807) (g2 : -9223372036854775808 ≤ x2 ∧ x2 ≤ 9223372036854775807) (g3 : -9223372036854775808 ≤ x3 ∧ x3 ≤ 9223372036854775807) (g4 : -9223372036854775808 ≤ x4 ∧ x4 ≤ 9223372036854775807) (g5 : -9223372036854775808 ≤ x5 ∧ x5 ≤ 9223372036854775807) (g6 : 0 ≤ x6.i ∧ x6.i ≤ 9223372036854775807 ∧ RowOk [.int .i64 (-9223372036854775808) (9223372036854775807)] x6.r x6.i.toNat) (g7 : -9223372036854775808 ≤ x7 ∧ x7 ≤ 9223372036854775807) (g8 : -9223372036854775808 ≤ x8 ∧ x8 ≤ 9223372036854775807) (g9 : -9223372036854775808 ≤ x9 ∧ x9 ≤ 9223372036854775807) (g10 : -9223372036854775808 ≤ x10 ∧ x10 ≤ 9223372036854775807) (g11 : -9223372036854775808 ≤ x11 ∧ x11 ≤ 9223372036854775807) (g12 : -9223372036854775808 ≤ x12 ∧ x12 ≤ 9223372036854775807) (g13 : 0 ≤ x13.i ∧ x13.i ≤ 9223372036854775807 ∧ RowOk [.int .i64 (-9223372036854775808) (9223372036854775807)] x13.r x13.i.toNat) : EqRP x0 x1 x2 x3 x4 x5 x6 x7 x8 x9 x10 x11 x12 x13 := by
 unfold EqRP
 intro A
 refine And.intro ?_ ?_
 ·intro h1
  refine iff_of_false Bool.false_ne_true fun hv => ?_
  obtain ⟨e, e2⟩ := eqG_iff.1 hv
  have := lst_len g6.1 g13.1 e2
  omega
 intro h2
 have hi : x6.i = x13.i := by omega
 refine andI ?_ fun o3 => ?_
 ·exact ⟨Int.le_refl _, fun j hj => absurd hj (by show ¬ (j : Int) < 0; omega)⟩
 intro x20 h4 p5
 refine And.intro ?_ ?_
 ·intro h7
  refine andI ?_ fun o8 => ?_
  ·omega
  refine andI ?_ fun o9 => ?_
  ·omega
  refine And.intro ?_ ?_
  ·intro h11
   refine iff_of_false Bool.false_ne_true fun hv => h11 ?_
   exact lst_at h4.1 h7 (by omega) (eqG_iff.1 hv).2
  intro h12
  refine andI ?_ fun o13 => ?_
  ·refine ⟨Int.le_trans h4.1 (Int.le_of_lt (Int.lt_succ _)), fun j hj => ?_⟩
   have hj : (j : Int) < x20.i + 1 := hj
   by_cases e : (j : Int) = x20.i
   ·rw [e]
    exact h12
   ·exact p5.2 j (by omega)
  refine andI ?_ fun o14 => ?_
  ·show x6.i + 1 - (x20.i + 1) < x6.i + 1 - x20.i
   omega
  show 0 < x6.i + 1 - x20.i
  omega
 intro h15
 refine iff_of_true rfl (eqG_iff.2 ⟨by omega, lstX_ext (by omega) fun j hj => ?_⟩)
 exact p5.2 j (by omega)
theorem kEqR : RCtrOk Tryz.prog ρ0 cEqR := by
 refine rctr_of (cf := cfG none [] [] lpEqR sumC) (cfG_ok keep0 keepR0 noF) Tryz.func22 rfl 400 rfl fun ds hr => ?_
 have hr := rshX_flat hr
 match ds, hr with
 | [d0, d1, d2, d3, d4, d5, d6, d7, d8, d9, d10, d11, d12, d13], hr =>
  obtain ⟨⟨e0, l0, u0⟩, ⟨e1, l1, u1⟩, ⟨e2, l2, u2⟩, ⟨e3, l3, u3⟩, ⟨e4, l4, u4⟩, ⟨e5, l5, u5⟩, l6, ⟨e7, l7, u7⟩, ⟨e8, l8, u8⟩, ⟨e9, l9, u9⟩, ⟨e10, l10, u10⟩, ⟨e11, l11, u11⟩, ⟨e12, l12, u12⟩, l13, _⟩ := hr
  generalize d0.i = x0, d1.i = x1, d2.i = x2, d3.i = x3, d4.i = x4, d5.i = x5, d6 = x6, d7.i = x7, d8.i = x8, d9.i = x9, d10.i = x10, d11.i = x11, d12.i = x12, d13 = x13 at *
  subst e0 e1 e2 e3 e4 e5 e7 e8 e9 e10 e11 e12
  exact Eq.mpr (EqRL x0 x1 x2 x3 x4 x5 x6 x7 x8 x9 x10 x11 x12 x13) (EqRO x0 x1 x2 x3 x4 x5 x6 x7 x8 x9 x10 x11 x12 x13 ⟨l0, u0⟩ ⟨l1, u1⟩ ⟨l2, u2⟩ ⟨l3, u3⟩ ⟨l4, u4⟩ ⟨l5, u5⟩ l6 ⟨l7, u7⟩ ⟨l8, u8⟩ ⟨l9, u9⟩ ⟨l10, u10⟩ ⟨l11, u11⟩ ⟨l12, u12⟩ l13)
theorem nEqR : Hs cEqR.f := ⟨_, Tryz.func22, by kernel_rfl, by kernel_rfl⟩
end Vc
end Go.Proofs.YtaacclebncplbaaGreatDoor
