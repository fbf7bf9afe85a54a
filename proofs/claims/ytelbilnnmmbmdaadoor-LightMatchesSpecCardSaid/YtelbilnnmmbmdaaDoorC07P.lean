/- Contracts of functions, each out of one walk. -/
import Derived.Test.YtelbilnnmmbmdaaDoorC07N
import Derived.Test.YtelbilnnmmbmdaaDoorC04D
import Derived.Test.YtelbilnnmmbmdaaDoorC04E
namespace Go.Proofs.YtelbilnnmmbmdaaDoor
namespace Vc
open Go Go.RowKit
set_option linter.unusedVariables false
def ValidRP (x0 x1 x2 x3 x4 x5 : Int) (x6 : X) : Prop :=
 let A := [xI x0, xI x1, xI x2, xI x3, xI x4, xI x5, x6]; ((((¬ (((((-1048575) ≤ x0) ∧ (x0 ≤ 1048575)) ∧ (((-1048575) ≤ x1) ∧ (x1 ≤ 1048575))) ∧ (((-1048575) ≤ x2) ∧ (x2 ≤ 1048575)))) ∨ (¬ (((((-1048575) ≤ x3) ∧ (x3 ≤ 1048575)) ∧ (((-1048575) ≤ x4) ∧ (x4 ≤ 1048575))) ∧ (((-1048575) ≤ x5) ∧ (x5 ≤ 1048575))))) →
((false = true) ↔ (Ff 700 A).b = true)) ∧
((¬ ((¬ (((((-1048575) ≤ x0) ∧ (x0 ≤ 1048575)) ∧ (((-1048575) ≤ x1) ∧ (x1 ≤ 1048575))) ∧ (((-1048575) ≤ x2) ∧ (x2 ≤ 1048575)))) ∨ (¬ (((((-1048575) ≤ x3) ∧ (x3 ≤ 1048575)) ∧ (((-1048575) ≤ x4) ∧ (x4 ≤ 1048575))) ∧ (((-1048575) ≤ x5) ∧ (x5 ≤ 1048575)))))) →
(let v3 := Ff 210 [xI x0, xI x1, xI x2, xI x3, xI x4, xI x5]; ((((((v3.i = 0) ∧ (¬ ((x0 = 0) ∧ ((x1 = 0) ∧ ((x2 = 0) ∧ ((x3 = 0) ∧ ((x4 = 0) ∧ (x5 = 0)))))))) ∨ (2097152 < v3.i)) ∨ (¬ (x6.i = v3.i))) →
((false = true) ↔ (Ff 700 A).b = true)) ∧
((¬ ((((v3.i = 0) ∧ (¬ ((x0 = 0) ∧ ((x1 = 0) ∧ ((x2 = 0) ∧ ((x3 = 0) ∧ ((x4 = 0) ∧ (x5 = 0)))))))) ∨ (2097152 < v3.i)) ∨ (¬ (x6.i = v3.i)))) →
(Px 720 (A ++ [xI 0]) ∧
(∀ x20 : X, (((0 ≤ x20.i) ∧ (x20.i ≤ 2097152)) →
(Px 720 (A ++ [x20]) →
(((x20.i < v3.i) →
((x20.i < x6.i) ∧
(((¬ ((0 ≤ (x6.r x20.i 0).i) ∧ ((x6.r x20.i 0).i < 256))) →
((false = true) ↔ (Ff 700 A).b = true)) ∧
(((0 ≤ (x6.r x20.i 0).i) ∧ ((x6.r x20.i 0).i < 256)) →
(Px 720 (A ++ [(xI (x20.i + 1))]) ∧
(((Ff 750 (A ++ [(xI (x20.i + 1))])).i < (Ff 750 (A ++ [x20])).i) ∧
(0 < (Ff 750 (A ++ [x20])).i))))))) ∧
((¬ (x20.i < v3.i)) →
((true = true) ↔ (Ff 700 A).b = true))))))))))))
theorem ValidRL (x0 x1 x2 x3 x4 x5 : Int) (x6 : X) : (ctrR (fun j => Ff j [xI x0, xI x1, xI x2, xI x3, xI x4, xI x5, x6]) cValidR.fs cValidR.res { ρ0 with x := fun j => [xI x0, xI x1, xI x2, xI x3, xI x4, xI x5, x6].getD j (xI 0) } (walkR Tryd.prog (cfG none [cVolR] [] lpValidR sumL) Tryd.f43 400 cValidR.args)) = ValidRP x0 x1 x2 x3 x4 x5 x6 := by kernel_rfl
set_option maxHeartbeats 4000000 in
theorem ValidRO (x0 x1 x2 x3 x4 x5 : Int) (x6 : X) (g0 : -9223372036854775808 ≤ x0 ∧ x0 ≤ 9223372036854775807) (g1 : -9223372036854775808 ≤ x1 ∧ x1 ≤ 9223372036854775807) (g2 : -9223372036854775808 ≤ x2 ∧ x2 ≤ 9223372036854775807) (g3 : -9223372036854775808 ≤ x3 ∧ x3 ≤ 9223372036854775807) (g4 : -9223372036854775808 ≤ x4 ∧ x4 ≤ 9223372036854775807) (g5 : -9223372036854775808 ≤ x5 ∧ x5 ≤ 9223372036854775807) (g6 : 0 ≤ x6.i ∧ x6.i ≤ 9223372036854775807 ∧ RowOk [.int .i64 (-9223372036854775808) (9223372036854775807)] x6.r x6.i.toNat) : ValidRP x0 x1 x2 x3 x4 x5 x6 := by
 unfold ValidRP
 intro A
 have v7 := v700 (a := x0) (b := x1) (c := x2) (d := x3) (e := x4) (f := x5) (l := x6) g6.1
 refine And.intro ?_ ?_
 ·intro h1
  refine iff_of_false Bool.false_ne_true fun hv => ?_
  have hv := (v7.1 hv).1
  omega
 intro h2 v3
 have e3 : v3.i = volB x0 x1 x2 x3 x4 x5 := rfl
 refine And.intro ?_ ?_
 ·intro h5
  refine iff_of_false Bool.false_ne_true fun hv => ?_
  obtain ⟨_, k1, k2, k3, _⟩ := v7.1 hv
  omega
 intro h6
 refine andI ?_ fun o7 => ?_
 ·exact ⟨Int.le_refl _, g6.1, rfl⟩
 intro x20 h8 p9
 refine And.intro ?_ ?_
 ·intro h11
  refine andI ?_ fun o12 => ?_
  ·omega
  refine And.intro ?_ ?_
  ·intro h14
   refine iff_of_false Bool.false_ne_true fun hv => h14 ?_
   exact matB_iff.1 (lxI_allA h8.1 (by omega) (v7.1 hv).2.2.2.2)
  intro h15
  refine andI ?_ fun o16 => ?_
  ·exact ⟨Int.le_trans h8.1 (Int.le_of_lt (Int.lt_succ _)), show x20.i + 1 ≤ x6.i by omega, lxI_allS h8.1 (by omega) p9.2.2 (matB_iff.2 h15)⟩
  refine andI ?_ fun o17 => ?_
  ·show x6.i + 1 - (x20.i + 1) < x6.i + 1 - x20.i
   omega
  show 0 < x6.i + 1 - x20.i
  omega
 intro h18
 refine iff_of_true rfl (v7.2 ⟨by omega, by omega, by omega, by omega, ?_⟩)
 have := p9.2.2
 rwa [lx_all (by omega)] at this
theorem kValidR : RCtrOk Tryd.prog ρ0 cValidR := by
 refine rctr_of (cf := cfG none [cVolR] [] lpValidR sumL) (cfG_ok (keep0.cons kVolR nVolR) keepR0 noF) Tryd.func43 rfl 400 rfl fun ds hr => ?_
 have hr := rshX_flat hr
 match ds, hr with
 | [d0, d1, d2, d3, d4, d5, d6], hr =>
  obtain ⟨⟨e0, l0, u0⟩, ⟨e1, l1, u1⟩, ⟨e2, l2, u2⟩, ⟨e3, l3, u3⟩, ⟨e4, l4, u4⟩, ⟨e5, l5, u5⟩, l6, _⟩ := hr
  generalize d0.i = x0, d1.i = x1, d2.i = x2, d3.i = x3, d4.i = x4, d5.i = x5, d6 = x6 at *
  subst e0 e1 e2 e3 e4 e5
  exact Eq.mpr (ValidRL x0 x1 x2 x3 x4 x5 x6) (ValidRO x0 x1 x2 x3 x4 x5 x6 ⟨l0, u0⟩ ⟨l1, u1⟩ ⟨l2, u2⟩ ⟨l3, u3⟩ ⟨l4, u4⟩ ⟨l5, u5⟩ l6)
theorem nValidR : Hs cValidR.f := ⟨_, Tryd.func43, by kernel_rfl, by kernel_rfl⟩
end Vc
end Go.Proofs.YtelbilnnmmbmdaaDoor
