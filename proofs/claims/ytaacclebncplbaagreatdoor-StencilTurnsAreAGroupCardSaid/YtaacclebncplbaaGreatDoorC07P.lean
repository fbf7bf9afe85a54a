/- Contracts of functions, each out of one walk. -/
import Derived.Test.YtaacclebncplbaaGreatDoorC07N
import Derived.Test.YtaacclebncplbaaGreatDoorC04D
import Derived.Test.YtaacclebncplbaaGreatDoorC04E
namespace Go.Proofs.YtaacclebncplbaaGreatDoor
namespace Vc
open Go Go.RowKit
set_option linter.unusedVariables false
def ValidRP (x0 x1 x2 x3 x4 x5 : Int) (x6 : X) : Prop :=
 let A := [xI x0, xI x1, xI x2, xI x3, xI x4, xI x5, x6]; ((((¬ (((((-1048575) ≤ x0) ∧ (x0 ≤ 1048575)) ∧ (((-1048575) ≤ x1) ∧ (x1 ≤ 1048575))) ∧ (((-1048575) ≤ x2) ∧ (x2 ≤ 1048575)))) ∨ (¬ (((((-1048575) ≤ x3) ∧ (x3 ≤ 1048575)) ∧ (((-1048575) ≤ x4) ∧ (x4 ≤ 1048575))) ∧ (((-1048575) ≤ x5) ∧ (x5 ≤ 1048575))))) →
((false = true) ↔ (Ff 700 A).b = true)) ∧
((¬ ((¬ (((((-1048575) ≤ x0) ∧ (x0 ≤ 1048575)) ∧ (((-1048575) ≤ x1) ∧ (x1 ≤ 1048575))) ∧ (((-1048575) ≤ x2) ∧ (x2 ≤ 1048575)))) ∨ (¬ (((((-1048575) ≤ x3) ∧ (x3 ≤ 1048575)) ∧ (((-1048575) ≤ x4) ∧ (x4 ≤ 1048575))) ∧ (((-1048575) ≤ x5) ∧ (x5 ≤ 1048575)))))) →
(let v3 := Ff 210 [xI x0, xI x1, xI x2, xI x3, xI x4, xI x5]; ((((((v3.i = 0) ∧ (¬ ((x0 = 0) ∧ ((x1 = 0) ∧ ((x2 = 0) ∧ ((x3 = 0) ∧ ((x4 = 0) ∧ (x5 = 0)))))))) ∨ (2097152 < v3.i)) ∨ (¬ (x6.i = v3.i))) →
((false = true) ↔ (Ff 700 A).b = true)) ∧
((¬ ((((v3.i = 0) ∧ (¬ ((x0 = 0) ∧ ((x1 = 0) ∧ ((x2 = 0) ∧ ((x3 = 0) ∧ ((x4 = 0) ∧ (x5 = 0)))))))) ∨ (2097152 < v3.i)) ∨ (¬ (x6.i = v3.i)))) →
(Px 720 (A ++ [xI 0]) ∧
(∀ x20 : X, (((0 ≤ x20.i) ∧ (x20.i ≤ 2097152)) →
(Px 720 (A ++ [x20]) →
(((x20.i < v3.i) →
((x20.i < x6.i) ∧
(((¬ ((0 ≤ (x6.r x20.i 0).i) ∧ ((x6.r x20.i 0).i < 256))) →
((false = true) ↔ (Ff 700 A).b = true)) ∧
(((0 ≤ (x6.r x20.i 0).i) ∧ ((x6.r x20.i 0).i < 256)) →
(Px 720 (A ++ [(xI (x20.i + 1))]) ∧
(((Ff 750 (A ++ [(xI (x20.i + 1))])).i < (Ff 750 (A ++ [x20])).i) ∧
(0 < (Ff 750 (A ++ [x20])).i))))))) ∧
((¬ (x20.i < v3.i)) →
((true = true) ↔ (Ff 700 A).b = true))))))))))))
theorem ValidRL (x0 x1 x2 x3 x4 x5 : Int) (x6 : X) : (ctrR (fun j => Ff j [xI x0, xI x1, xI x2, xI x3, xI x4, xI x5, x6]) cValidR.fs cValidR.res { ρ0 with x := fun j => [xI x0, xI x1, xI x2, xI x3, xI x4, xI x5, x6].getD j (xI 0) } (walkR Tryz.prog (cfG none [cVolR] [] lpValidR sumL) Tryz.f37 400 cValidR.args)) = ValidRP x0 x1 x2 x3 x4 x5 x6 := by kernel_rfl
set_option maxHeartbeats 4000000 in
theorem ValidRO (x0 x1 x2 x3 x4 x5 : Int) (x6 : X) (g0 : -9223372036854775808 ≤ x0 ∧ x0 ≤ 9223372036854775807) (g1 : -9223372036854775808 ≤ x1 ∧ x1 ≤ 9223372036854775807) (g2 : -9223372036854775808 ≤ x2 ∧ x2 ≤ 9223372036854775807) (g3 : -9223372036854775808 ≤ x3 ∧ x3 ≤ 9223372036854775807) (g4 : -9223372036854775808 ≤ x4 ∧ x4 ≤ 9223372036854775807) (g5 : -9223372036854775808 ≤ x5 ∧ x5 ≤ 9223372036854775807) (g6 : 0 ≤ x6.i ∧ x6.i ≤ 9223372036854775807 ∧ RowOk [.int .i64 (-9223372036854775808) (9223372036854775807)] x6.r x6.i.toNat) : ValidRP x0 x1 x2 x3 x4 x5 x6 := by
 unfold ValidRP
 intro A
 have v7 := v700 (a := x0) (b := x1) (c := x2) (d := x3) (e := x4) (f := x5) (l := x6) g6.1
 refine And.intro ?_ ?_
 ·intro h1
  refine iff_of_false Bool.false_ne_true fun hv => ?_
  have hv := (v7.1 hv).1
  omega
 intro h2 v3
 have e3 : v3.i = volB x0 x1 x2 x3 x4 x5 := rfl
 refine And.intro ?_ ?_
 ·intro h5
  refine iff_of_false Bool.false_ne_true fun hv => ?_
  obtain ⟨_, k1, k2, k3, _⟩ := v7.1 hv
  omega
 intro h6
 refine andI ?_ fun o7 => ?_
 ·exact ⟨Int.le_refl _, g6.1, rfl⟩
 intro x20 h8 p9
 refine And.intro ?_ ?_
 ·intro h11
  refine andI ?_ fun o12 => ?_
  ·omega
  refine And.intro ?_ ?_
  ·intro h14
   refine iff_of_false Bool.false_ne_true fun hv => h14 ?_
   exact matB_iff.1 (lxI_allA h8.1 (by omega) (v7.1 hv).2.2.2.2)
  intro h15
  refine andI ?_ fun o16 => ?_
  ·exact ⟨Int.le_trans h8.1 (Int.le_of_lt (Int.lt_succ _)), show x20.i + 1 ≤ x6.i by omega, lxI_allS h8.1 (by omega) p9.2.2 (matB_iff.2 h15)⟩
  refine andI ?_ fun o17 => ?_
  ·show x6.i + 1 - (x20.i + 1) < x6.i + 1 - x20.i
   omega
  show 0 < x6.i + 1 - x20.i
  omega
 intro h18
 refine iff_of_true rfl (v7.2 ⟨by omega, by omega, by omega, by omega, ?_⟩)
 have := p9.2.2
 rwa [lx_all (by omega)] at this
theorem kValidR : RCtrOk Tryz.prog ρ0 cValidR := by
 refine rctr_of (cf := cfG none [cVolR] [] lpValidR sumL) (cfG_ok (keep0.cons kVolR nVolR) keepR0 noF) Tryz.func37 rfl 400 rfl fun ds hr => ?_
 have hr := rshX_flat hr
 match ds, hr with
 | [d0, d1, d2, d3, d4, d5, d6], hr =>
  obtain ⟨⟨e0, l0, u0⟩, ⟨e1, l1, u1⟩, ⟨e2, l2, u2⟩, ⟨e3, l3, u3⟩, ⟨e4, l4, u4⟩, ⟨e5, l5, u5⟩, l6, _⟩ := hr
  generalize d0.i = x0, d1.i = x1, d2.i = x2, d3.i = x3, d4.i = x4, d5.i = x5, d6 = x6 at *
  subst e0 e1 e2 e3 e4 e5
  exact Eq.mpr (ValidRL x0 x1 x2 x3 x4 x5 x6) (ValidRO x0 x1 x2 x3 x4 x5 x6 ⟨l0, u0⟩ ⟨l1, u1⟩ ⟨l2, u2⟩ ⟨l3, u3⟩ ⟨l4, u4⟩ ⟨l5, u5⟩ l6)
theorem nValidR : Hs cValidR.f := ⟨_, Tryz.func37, by kernel_rfl, by kernel_rfl⟩
def SetRP (x0 x1 x2 x3 x4 x5 : Int) (x6 : X) (x7 x8 x9 x10 : Int) : Prop :=
 let A := [xI x0, xI x1, xI x2, xI x3, xI x4, xI x5, x6, xI x7, xI x8, xI x9, xI x10]; (let v0 := Ff 260 [xI x0, xI x1, xI x2, xI x3, xI x4, xI x5, xI x7, xI x8, xI x9]; (((0 ≤ v0.i) →
((v0.i < x6.i) ∧
((rI x0 (Ff 701 A).i (-1048575) 1048575) ∧ ((rI x1 (Ff 702 A).i (-1048575) 1048575) ∧ ((rI x2 (Ff 703 A).i (-1048575) 1048575) ∧ ((rI x3 (Ff 704 A).i (-1048575) 1048575) ∧ ((rI x4 (Ff 705 A).i (-1048575) 1048575) ∧ ((rI x5 (Ff 706 A).i (-1048575) 1048575) ∧ (rowEq [.int .i64 (0) (255)] (Ff 707 A) (rwSet x6.r v0.i 0 (xI x10)) x6.i 2097152))))))))) ∧
((¬ (0 ≤ v0.i)) →
((rI x0 (Ff 701 A).i (-1048575) 1048575) ∧ ((rI x1 (Ff 702 A).i (-1048575) 1048575) ∧ ((rI x2 (Ff 703 A).i (-1048575) 1048575) ∧ ((rI x3 (Ff 704 A).i (-1048575) 1048575) ∧ ((rI x4 (Ff 705 A).i (-1048575) 1048575) ∧ ((rI x5 (Ff 706 A).i (-1048575) 1048575) ∧ (rowEq [.int .i64 (0) (255)] (Ff 707 A) x6.r x6.i 2097152))))))))))
theorem SetRL (x0 x1 x2 x3 x4 x5 : Int) (x6 : X) (x7 x8 x9 x10 : Int) : (ctrR (fun j => Ff j [xI x0, xI x1, xI x2, xI x3, xI x4, xI x5, x6, xI x7, xI x8, xI x9, xI x10]) cSetR.fs cSetR.res { ρ0 with x := fun j => [xI x0, xI x1, xI x2, xI x3, xI x4, xI x5, x6, xI x7, xI x8, xI x9, xI x10].getD j (xI 0) } (walkR Tryz.prog (cfG none [cIndexR] [] [] sumL) Tryz.f40 400 shSet)) = SetRP x0 x1 x2 x3 x4 x5 x6 x7 x8 x9 x10 := by kernel_rfl
set_option maxHeartbeats 4000000 in
theorem SetRO (x0 x1 x2 x3 x4 x5 : Int) (x6 : X) (x7 x8 x9 x10 : Int) (g0 : -1048575 ≤ x0 ∧ x0 ≤ 1048575) (g1 : -1048575 ≤ x1 ∧ x1 ≤ 1048575) (g2 : -1048575 ≤ x2 ∧ x2 ≤ 1048575) (g3 : -1048575 ≤ x3 ∧ x3 ≤ 1048575) (g4 : -1048575 ≤ x4 ∧ x4 ≤ 1048575) (g5 : -1048575 ≤ x5 ∧ x5 ≤ 1048575) (g6 : 0 ≤ x6.i ∧ x6.i ≤ 2097152 ∧ RowOk [.int .i64 (0) (255)] x6.r x6.i.toNat) (g7 : -1048576 ≤ x7 ∧ x7 ≤ 1048576) (g8 : -1048576 ≤ x8 ∧ x8 ≤ 1048576) (g9 : -1048576 ≤ x9 ∧ x9 ≤ 1048576) (g10 : 0 ≤ x10 ∧ x10 ≤ 255) (gp : Px cSetR.pre.get! [xI x0, xI x1, xI x2, xI x3, xI x4, xI x5, x6, xI x7, xI x8, xI x9, xI x10]) : SetRP x0 x1 x2 x3 x4 x5 x6 x7 x8 x9 x10 := by
 unfold SetRP
 intro A
 obtain ⟨k0, k1, k2, k3, k4⟩ := (v700 g6.1).1 gp
 intro v0
 have e0 : v0.i = (bxX (xI x0) (xI x1) (xI x2) (xI x3) (xI x4) (xI x5)).idx (x7, x8, x9) := rfl
 refine And.intro ?_ ?_
 ·intro h2
  refine andI ?_ fun o3 => ?_
  ·have h3 : v0.i < volB x0 x1 x2 x3 x4 x5 := (idx_ok (b := bxX (xI x0) (xI x1) (xI x2) (xI x3) (xI x4) (xI x5)) (p := (x7, x8, x9)) (idx_has.1 h2)).2
   omega
  refine ⟨⟨rfl, g0⟩, ⟨rfl, g1⟩, ⟨rfl, g2⟩, ⟨rfl, g3⟩, ⟨rfl, g4⟩, ⟨rfl, g5⟩, rowEq_of eqEl_int g6.1 g6.2.1 ?_⟩
  rw [deI_set h2]
  exact (if_pos h2).symm
 intro h4
 refine ⟨⟨rfl, g0⟩, ⟨rfl, g1⟩, ⟨rfl, g2⟩, ⟨rfl, g3⟩, ⟨rfl, g4⟩, ⟨rfl, g5⟩, rowEq_of eqEl_int g6.1 g6.2.1 ?_⟩
 exact (if_neg h4).symm
theorem kSetR : RCtrOk Tryz.prog ρ0 cSetR := by
 refine rctr_ofN (cf := cfG none [cIndexR] [] [] sumL) (cfG_ok (keep0.cons kIndexR nIndexR) keepR0 noF) Tryz.func40 rfl 400 rfl (sh := shSet) (by kernel_rfl) val_rsh fun ds hr hp => ?_
 have hr := rshX_flat hr
 match ds, hr, hp with
 | [d0, d1, d2, d3, d4, d5, d6, d7, d8, d9, d10], hr, hp =>
  obtain ⟨⟨e0, l0, u0⟩, ⟨e1, l1, u1⟩, ⟨e2, l2, u2⟩, ⟨e3, l3, u3⟩, ⟨e4, l4, u4⟩, ⟨e5, l5, u5⟩, l6, ⟨e7, l7, u7⟩, ⟨e8, l8, u8⟩, ⟨e9, l9, u9⟩, ⟨e10, l10, u10⟩, _⟩ := hr
  generalize d0.i = x0, d1.i = x1, d2.i = x2, d3.i = x3, d4.i = x4, d5.i = x5, d6 = x6, d7.i = x7, d8.i = x8, d9.i = x9, d10.i = x10 at *
  subst e0 e1 e2 e3 e4 e5 e7 e8 e9 e10
  exact Eq.mpr (SetRL x0 x1 x2 x3 x4 x5 x6 x7 x8 x9 x10) (SetRO x0 x1 x2 x3 x4 x5 x6 x7 x8 x9 x10 ⟨l0, u0⟩ ⟨l1, u1⟩ ⟨l2, u2⟩ ⟨l3, u3⟩ ⟨l4, u4⟩ ⟨l5, u5⟩ l6 ⟨l7, u7⟩ ⟨l8, u8⟩ ⟨l9, u9⟩ ⟨l10, u10⟩ hp)
theorem nSetR : Hs cSetR.f := ⟨_, Tryz.func40, by kernel_rfl, by kernel_rfl⟩
end Vc
end Go.Proofs.YtaacclebncplbaaGreatDoor
