/- Contracts of functions, each out of one walk. -/
import Derived.Test.YtelbilnnmmbmdaaDoorC33N
namespace Go.Proofs.YtelbilnnmmbmdaaDoor
namespace Vc
open Go Go.RowKit
set_option linter.unusedVariables false
def SmeRP (x0 : X) (x1 : X) : Prop :=
(((¬ (x0.i = x1.i)) →
((false = true) ↔ (Ff 1209 [x0, x1]).b = true)) ∧
((x0.i = x1.i) →
(Px 1242 [x0, x1, xI 0] ∧
(∀ x20 : X, (((0 ≤ x20.i) ∧ (x20.i ≤ 9223372036854775807)) →
(Px 1242 [x0, x1, x20] →
(((x20.i < x0.i) →
((x20.i < x1.i) ∧
((x20.i < x0.i) ∧
(((¬ (((x0.r x20.i 0).i = (x1.r x20.i 0).i) ∧ (((x0.r x20.i 1).i = (x1.r x20.i 1).i) ∧ (((x0.r x20.i 2).i = (x1.r x20.i 2).i) ∧ ((x0.r x20.i 3).i = (x1.r x20.i 3).i))))) →
((false = true) ↔ (Ff 1209 [x0, x1]).b = true)) ∧
((((x0.r x20.i 0).i = (x1.r x20.i 0).i) ∧ (((x0.r x20.i 1).i = (x1.r x20.i 1).i) ∧ (((x0.r x20.i 2).i = (x1.r x20.i 2).i) ∧ ((x0.r x20.i 3).i = (x1.r x20.i 3).i)))) →
(Px 1242 [x0, x1, (xI (x20.i + 1))] ∧
(((Ff 1252 [x0, x1, (xI (x20.i + 1))]).i < (Ff 1252 [x0, x1, x20]).i) ∧
(0 < (Ff 1252 [x0, x1, x20]).i)))))))) ∧
((¬ (x20.i < x0.i)) →
((true = true) ↔ (Ff 1209 [x0, x1]).b = true)))))))))
theorem SmeRL (x0 : X) (x1 : X) : (ctrR (fun j => Ff j [x0, x1]) cSmeR.fs cSmeR.res { ρ0 with x := fun j => [x0, x1].getD j (xI 0) } (walkR Tryd.prog (cfG none [] [] lpSmeR sumL) Tryd.f13 400 cSmeR.args)) = SmeRP x0 x1 := by kernel_rfl
set_option maxHeartbeats 4000000 in
theorem SmeRO (x0 : X) (x1 : X) (g0 : 0 ≤ x0.i ∧ x0.i ≤ 9223372036854775807 ∧ RowOk SLt x0.r x0.i.toNat) (g1 : 0 ≤ x1.i ∧ x1.i ≤ 9223372036854775807 ∧ RowOk SLt x1.r x1.i.toNat) : SmeRP x0 x1 := by
 unfold SmeRP
 refine And.intro ?_ ?_
 ·intro h1
  exact iff_of_false Bool.false_ne_true fun hv => h1 ((sme_iff g0.1).1 hv).1
 intro h2
 refine andI ?_ fun o3 => ?_
 ·exact ⟨Int.le_refl _, g0.1, fun k hk => absurd hk (by show ¬ (k : Int) < 0; omega)⟩
 intro x20 h4 p5
 obtain ⟨q0, q1, q2⟩ := p5
 refine And.intro ?_ ?_
 ·intro h7
  refine andI ?_ fun o8 => ?_
  ·omega
  refine andI ?_ fun o9 => ?_
  ·omega
  refine And.intro ?_ ?_
  ·intro h11
   refine iff_of_false Bool.false_ne_true fun hv => h11 ?_
   have := ((sme_iff g0.1).1 hv).2 x20.i.toNat (by omega)
   rw [Int.toNat_of_nonneg q0] at this
   exact this
  intro h12
  refine andI ?_ fun o13 => ?_
  ·refine ⟨Int.le_trans q0 (Int.le_of_lt (Int.lt_succ _)), show x20.i + 1 ≤ x0.i by omega, fun k hk => ?_⟩
   have hk : (k : Int) < x20.i + 1 := hk
   by_cases e : (k : Int) = x20.i
   ·rw [e]; exact h12
   ·exact q2 k (by omega)
  refine andI ?_ fun o14 => ?_
  ·show x0.i + 1 - (x20.i + 1) < x0.i + 1 - x20.i
   omega
  show 0 < x0.i + 1 - x20.i
  omega
 intro h15
 exact iff_of_true rfl ((sme_iff g0.1).2 ⟨h2, fun k hk => q2 k (by omega)⟩)
theorem kSmeR : RCtrOk Tryd.prog ρ0 cSmeR := by
 refine rctr_of (cf := cfG none [] [] lpSmeR sumL) (cfG_ok keep0 keepR0 noF) Tryd.func13 rfl 400 rfl fun ds hr => ?_
 have hr := rshX_flat hr
 match ds, hr with
 | [d0, d1], hr =>
  obtain ⟨l0, l1, _⟩ := hr
  generalize d0 = x0, d1 = x1 at *
  exact Eq.mpr (SmeRL x0 x1) (SmeRO x0 x1 l0 l1)
theorem nSmeR : Hs cSmeR.f := ⟨_, Tryd.func13, by kernel_rfl, by kernel_rfl⟩
def SmePP (x0 : X) (x1 : X) : Prop :=
(((¬ (x0.i = x1.i)) →
((false = true) ↔ (Ff 1209 [x0, x1]).b = true)) ∧
((x0.i = x1.i) →
(Px 1242 [x0, x1, xI 0] ∧
(∀ x20 : X, (((0 ≤ x20.i) ∧ (x20.i ≤ 9223372036854775807)) →
(Px 1242 [x0, x1, x20] →
(((x20.i < x0.i) →
((x20.i < x1.i) ∧
((x20.i < x0.i) ∧
(((¬ (((x0.r x20.i 0).i = (x1.r x20.i 0).i) ∧ (((x0.r x20.i 1).i = (x1.r x20.i 1).i) ∧ (((x0.r x20.i 2).i = (x1.r x20.i 2).i) ∧ ((x0.r x20.i 3).i = (x1.r x20.i 3).i))))) →
((false = true) ↔ (Ff 1209 [x0, x1]).b = true)) ∧
((((x0.r x20.i 0).i = (x1.r x20.i 0).i) ∧ (((x0.r x20.i 1).i = (x1.r x20.i 1).i) ∧ (((x0.r x20.i 2).i = (x1.r x20.i 2).i) ∧ ((x0.r x20.i 3).i = (x1.r x20.i 3).i)))) →
(Px 1242 [x0, x1, (xI (x20.i + 1))] ∧
(((Ff 1252 [x0, x1, (xI (x20.i + 1))]).i < (Ff 1252 [x0, x1, x20]).i) ∧
(0 < (Ff 1252 [x0, x1, x20]).i)))))))) ∧
((¬ (x20.i < x0.i)) →
((true = true) ↔ (Ff 1209 [x0, x1]).b = true)))))))))
theorem SmePL (x0 : X) (x1 : X) : (ctrR (fun j => Ff j [x0, x1]) cSmeP.fs cSmeP.res { ρ0 with x := fun j => [x0, x1].getD j (xI 0) } (walkR Tryd.prog (cfG none [] [] lpSmeP sumL) Tryd.f49 400 cSmeP.args)) = SmePP x0 x1 := by kernel_rfl
set_option maxHeartbeats 4000000 in
theorem SmePO (x0 : X) (x1 : X) (g0 : 0 ≤ x0.i ∧ x0.i ≤ 9223372036854775807 ∧ RowOk SLt x0.r x0.i.toNat) (g1 : 0 ≤ x1.i ∧ x1.i ≤ 9223372036854775807 ∧ RowOk SLt x1.r x1.i.toNat) : SmePP x0 x1 := by
 unfold SmePP
 refine And.intro ?_ ?_
 ·intro h1
  exact iff_of_false Bool.false_ne_true fun hv => h1 ((sme_iff g0.1).1 hv).1
 intro h2
 refine andI ?_ fun o3 => ?_
 ·exact ⟨Int.le_refl _, g0.1, fun k hk => absurd hk (by show ¬ (k : Int) < 0; omega)⟩
 intro x20 h4 p5
 obtain ⟨q0, q1, q2⟩ := p5
 refine And.intro ?_ ?_
 ·intro h7
  refine andI ?_ fun o8 => ?_
  ·omega
  refine andI ?_ fun o9 => ?_
  ·omega
  refine And.intro ?_ ?_
  ·intro h11
   refine iff_of_false Bool.false_ne_true fun hv => h11 ?_
   have := ((sme_iff g0.1).1 hv).2 x20.i.toNat (by omega)
   rw [Int.toNat_of_nonneg q0] at this
   exact this
  intro h12
  refine andI ?_ fun o13 => ?_
  ·refine ⟨Int.le_trans q0 (Int.le_of_lt (Int.lt_succ _)), show x20.i + 1 ≤ x0.i by omega, fun k hk => ?_⟩
   have hk : (k : Int) < x20.i + 1 := hk
   by_cases e : (k : Int) = x20.i
   ·rw [e]; exact h12
   ·exact q2 k (by omega)
  refine andI ?_ fun o14 => ?_
  ·show x0.i + 1 - (x20.i + 1) < x0.i + 1 - x20.i
   omega
  show 0 < x0.i + 1 - x20.i
  omega
 intro h15
 exact iff_of_true rfl ((sme_iff g0.1).2 ⟨h2, fun k hk => q2 k (by omega)⟩)
theorem kSmeP : RCtrOk Tryd.prog ρ0 cSmeP := by
 refine rctr_of (cf := cfG none [] [] lpSmeP sumL) (cfG_ok keep0 keepR0 noF) Tryd.func49 rfl 400 rfl fun ds hr => ?_
 have hr := rshX_flat hr
 match ds, hr with
 | [d0, d1], hr =>
  obtain ⟨l0, l1, _⟩ := hr
  generalize d0 = x0, d1 = x1 at *
  exact Eq.mpr (SmePL x0 x1) (SmePO x0 x1 l0 l1)
theorem nSmeP : Hs cSmeP.f := ⟨_, Tryd.func49, by kernel_rfl, by kernel_rfl⟩
end Vc
end Go.Proofs.YtelbilnnmmbmdaaDoor
