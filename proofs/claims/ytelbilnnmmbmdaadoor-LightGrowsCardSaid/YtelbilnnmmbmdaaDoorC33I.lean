/- Contracts of functions, each out of one walk. -/
import Derived.Test.YtelbilnnmmbmdaaDoorC33N
namespace Go.Proofs.YtelbilnnmmbmdaaDoor
namespace Vc
open Go Go.RowKit
set_option linter.unusedVariables false
def LesRP (x0 : X) (x1 : X) : Prop :=
(Px 1243 [x0, x1, xI 0] ∧
(∀ x20 : X, (((0 ≤ x20.i) ∧ (x20.i ≤ 9223372036854775807)) →
(Px 1243 [x0, x1, x20] →
((((x20.i < x0.i) ∧ (x20.i < x1.i)) →
((x20.i < x1.i) ∧
((x20.i < x0.i) ∧
((((x1.r x20.i 0).i < (x0.r x20.i 0).i) →
((false = true) ↔ (Ff 1210 [x0, x1]).b = true)) ∧
((¬ ((x1.r x20.i 0).i < (x0.r x20.i 0).i)) →
((x20.i < x1.i) ∧
((x20.i < x0.i) ∧
((((x1.r x20.i 1).i < (x0.r x20.i 1).i) →
((false = true) ↔ (Ff 1210 [x0, x1]).b = true)) ∧
((¬ ((x1.r x20.i 1).i < (x0.r x20.i 1).i)) →
((x20.i < x1.i) ∧
((x20.i < x0.i) ∧
((((x1.r x20.i 2).i < (x0.r x20.i 2).i) →
((false = true) ↔ (Ff 1210 [x0, x1]).b = true)) ∧
((¬ ((x1.r x20.i 2).i < (x0.r x20.i 2).i)) →
((x20.i < x1.i) ∧
((x20.i < x0.i) ∧
((((x1.r x20.i 3).i < (x0.r x20.i 3).i) →
((false = true) ↔ (Ff 1210 [x0, x1]).b = true)) ∧
((¬ ((x1.r x20.i 3).i < (x0.r x20.i 3).i)) →
(Px 1243 [x0, x1, (xI (x20.i + 1))] ∧
(((Ff 1252 [x0, x1, (xI (x20.i + 1))]).i < (Ff 1252 [x0, x1, x20]).i) ∧
(0 < (Ff 1252 [x0, x1, x20]).i)))))))))))))))))))) ∧
((¬ ((x20.i < x0.i) ∧ (x20.i < x1.i))) →
((x0.i = x1.i) ↔ (Ff 1210 [x0, x1]).b = true)))))))
theorem LesRL (x0 : X) (x1 : X) : (ctrR (fun j => Ff j [x0, x1]) cLesR.fs cLesR.res { ρ0 with x := fun j => [x0, x1].getD j (xI 0) } (walkR Tryd.prog (cfG none [] [] lpLesR sumL) Tryd.f25 400 cLesR.args)) = LesRP x0 x1 := by kernel_rfl
set_option maxHeartbeats 4000000 in
theorem LesRO (x0 : X) (x1 : X) (g0 : 0 ≤ x0.i ∧ x0.i ≤ 9223372036854775807 ∧ RowOk SLt x0.r x0.i.toNat) (g1 : 0 ≤ x1.i ∧ x1.i ≤ 9223372036854775807 ∧ RowOk SLt x1.r x1.i.toNat) : LesRP x0 x1 := by
 unfold LesRP
 refine andI ?_ fun o0 => ?_
 ·exact ⟨Int.le_refl _, g0.1, g1.1, fun k hk => absurd hk (by show ¬ (k : Int) < 0; omega)⟩
 intro x20 h1 p2
 obtain ⟨q0, q1, q2, q3⟩ := p2
 refine And.intro ?_ ?_
 ·intro h4
  refine andI ?_ fun o5 => ?_
  ·omega
  refine andI ?_ fun o6 => ?_
  ·omega
  refine And.intro ?_ ?_
  ·intro h8
   refine iff_of_false Bool.false_ne_true fun hv => ?_
   have q := ((les_iff g0.1).1 hv).2 x20.i.toNat (by omega)
   rw [Int.toNat_of_nonneg q0] at q
   have q : ((x0.r x20.i 0).i ≤ (x1.r x20.i 0).i) ∧ ((x0.r x20.i 1).i ≤ (x1.r x20.i 1).i) ∧ ((x0.r x20.i 2).i ≤ (x1.r x20.i 2).i) ∧ ((x0.r x20.i 3).i ≤ (x1.r x20.i 3).i) := q
   omega
  intro h9
  refine andI ?_ fun o10 => ?_
  ·omega
  refine andI ?_ fun o11 => ?_
  ·omega
  refine And.intro ?_ ?_
  ·intro h13
   refine iff_of_false Bool.false_ne_true fun hv => ?_
   have q := ((les_iff g0.1).1 hv).2 x20.i.toNat (by omega)
   rw [Int.toNat_of_nonneg q0] at q
   have q : ((x0.r x20.i 0).i ≤ (x1.r x20.i 0).i) ∧ ((x0.r x20.i 1).i ≤ (x1.r x20.i 1).i) ∧ ((x0.r x20.i 2).i ≤ (x1.r x20.i 2).i) ∧ ((x0.r x20.i 3).i ≤ (x1.r x20.i 3).i) := q
   omega
  intro h14
  refine andI ?_ fun o15 => ?_
  ·omega
  refine andI ?_ fun o16 => ?_
  ·omega
  refine And.intro ?_ ?_
  ·intro h18
   refine iff_of_false Bool.false_ne_true fun hv => ?_
   have q := ((les_iff g0.1).1 hv).2 x20.i.toNat (by omega)
   rw [Int.toNat_of_nonneg q0] at q
   have q : ((x0.r x20.i 0).i ≤ (x1.r x20.i 0).i) ∧ ((x0.r x20.i 1).i ≤ (x1.r x20.i 1).i) ∧ ((x0.r x20.i 2).i ≤ (x1.r x20.i 2).i) ∧ ((x0.r x20.i 3).i ≤ (x1.r x20.i 3).i) := q
   omega
  intro h19
  refine andI ?_ fun o20 => ?_
  ·omega
  refine andI ?_ fun o21 => ?_
  ·omega
  refine And.intro ?_ ?_
  ·intro h23
   refine iff_of_false Bool.false_ne_true fun hv => ?_
   have q := ((les_iff g0.1).1 hv).2 x20.i.toNat (by omega)
   rw [Int.toNat_of_nonneg q0] at q
   have q : ((x0.r x20.i 0).i ≤ (x1.r x20.i 0).i) ∧ ((x0.r x20.i 1).i ≤ (x1.r x20.i 1).i) ∧ ((x0.r x20.i 2).i ≤ (x1.r x20.i 2).i) ∧ ((x0.r x20.i 3).i ≤ (x1.r x20.i 3).i) := q
   omega
  intro h24
  refine andI ?_ fun o25 => ?_
  ·refine ⟨Int.le_trans q0 (Int.le_of_lt (Int.lt_succ _)), show x20.i + 1 ≤ x0.i by omega, show x20.i + 1 ≤ x1.i by omega, fun k hk => ?_⟩
   have hk : (k : Int) < x20.i + 1 := hk
   by_cases e : (k : Int) = x20.i
   ·rw [e]; exact ⟨Int.not_lt.1 h9, Int.not_lt.1 h14, Int.not_lt.1 h19, Int.not_lt.1 h24⟩
   ·exact q3 k (by omega)
  refine andI ?_ fun o26 => ?_
  ·show x0.i + 1 - (x20.i + 1) < x0.i + 1 - x20.i
   omega
  show 0 < x0.i + 1 - x20.i
  omega
 intro h27
 exact ⟨fun e => (les_iff g0.1).2 ⟨e, fun k hk => q3 k (by omega)⟩, fun hv => ((les_iff g0.1).1 hv).1⟩
theorem kLesR : RCtrOk Tryd.prog ρ0 cLesR := by
 refine rctr_of (cf := cfG none [] [] lpLesR sumL) (cfG_ok keep0 keepR0 noF) Tryd.func25 rfl 400 rfl fun ds hr => ?_
 have hr := rshX_flat hr
 match ds, hr with
 | [d0, d1], hr =>
  obtain ⟨l0, l1, _⟩ := hr
  generalize d0 = x0, d1 = x1 at *
  exact Eq.mpr (LesRL x0 x1) (LesRO x0 x1 l0 l1)
theorem nLesR : Hs cLesR.f := ⟨_, Tryd.func25, by kernel_rfl, by kernel_rfl⟩
end Vc
end Go.Proofs.YtelbilnnmmbmdaaDoor
