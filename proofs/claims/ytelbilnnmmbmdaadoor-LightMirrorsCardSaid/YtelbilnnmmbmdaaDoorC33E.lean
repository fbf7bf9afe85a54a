/- Contracts of functions, each out of one walk. -/
import Derived.Test.YtelbilnnmmbmdaaDoorC33M
namespace Go.Proofs.YtelbilnnmmbmdaaDoor
namespace Vc
open Go Go.RowKit
set_option linter.unusedVariables false
def NmMP (x0 : X) : Prop :=
((((0 < x0.i) ∧ (x0.i ≤ 32)) →
(0 < x0.i)) ∧
(((((0 < x0.i) ∧ (x0.i ≤ 32)) ∧ (¬ ((bytV x0.v 0) = 45))) →
(0 ≤ (x0.i - 1))) ∧
(((((0 < x0.i) ∧ (x0.i ≤ 32)) ∧ (¬ ((bytV x0.v 0) = 45))) →
((x0.i - 1) < x0.i)) ∧
((((((0 < x0.i) ∧ (x0.i ≤ 32)) ∧ (¬ ((bytV x0.v 0) = 45))) ∧ (¬ ((bytV x0.v (x0.i - 1)) = 45))) →
(Px 1240 [x0, xI 0] ∧
(∀ x20 : X, (((0 ≤ x20.i) ∧ (x20.i ≤ 9223372036854775807)) →
(Px 1240 [x0, x20] →
(((x20.i < x0.i) →
((((¬ ((97 ≤ (decR x0.v x20.i)) ∧ ((decR x0.v x20.i) ≤ 122))) ∧ (¬ ((decR x0.v x20.i) = 45))) →
((false = true) ↔ (Ff 867 [x0]).b = true)) ∧
((¬ ((¬ ((97 ≤ (decR x0.v x20.i)) ∧ ((decR x0.v x20.i) ≤ 122))) ∧ (¬ ((decR x0.v x20.i) = 45)))) →
(Px 1240 [x0, (xI (x20.i + (decW x0.v x20.i)))] ∧
(((Ff 1250 [x0, (xI (x20.i + (decW x0.v x20.i)))]).i < (Ff 1250 [x0, x20]).i) ∧
(0 < (Ff 1250 [x0, x20]).i)))))) ∧
((¬ (x20.i < x0.i)) →
((true = true) ↔ (Ff 867 [x0]).b = true)))))))) ∧
((¬ ((((0 < x0.i) ∧ (x0.i ≤ 32)) ∧ (¬ ((bytV x0.v 0) = 45))) ∧ (¬ ((bytV x0.v (x0.i - 1)) = 45)))) →
((false = true) ↔ (Ff 867 [x0]).b = true))))))
theorem NmML (x0 : X) : (ctrR (fun j => Ff j [x0]) cNmM.fs cNmM.res { ρ0 with x := fun j => [x0].getD j (xI 0) } (walkR Tryd.prog (cfG none [] [] lpNmM sumL) Tryd.f82 400 cNmM.args)) = NmMP x0 := by kernel_rfl
set_option maxHeartbeats 4000000 in
theorem NmMO (x0 : X) (g0 : ∃ s : ByteArray, x0.v = .string s ∧ x0.i = s.size ∧ (s.size : Int) ≤ 9223372036854775807) : NmMP x0 := by
 unfold NmMP
 obtain ⟨str, gv, gi, gl⟩ := g0
 refine And.intro ?_ ?_
 ·intro h1
  omega
 refine And.intro ?_ ?_
 ·intro h3
  omega
 refine And.intro ?_ ?_
 ·intro h5
  omega
 refine And.intro ?_ ?_
 ·intro h7
  refine andI ?_ fun o8 => ?_
  ·exact ⟨Int.le_refl _, show 0 ≤ x0.i by omega, rfl⟩
  intro x20 h9 p10
  obtain ⟨q0, q1, q2⟩ := p10
  refine And.intro ?_ ?_
  ·intro h12
   refine And.intro ?_ ?_
   ·intro h14
    refine iff_of_false Bool.false_ne_true fun hv => ?_
    have hb := nm_at (show nmX' x0 = true from hv) q0 h12
    rcases run_byt gv q0 with r | r <;> omega
   intro h15
   have hr := run_byt gv q0
   have hw : decW x0.v x20.i = 1 ∧ ((97 ≤ bytV x0.v x20.i ∧ bytV x0.v x20.i ≤ 122) ∨ bytV x0.v x20.i = 45) := by omega
   refine andI ?_ fun o16 => ?_
   ·show 0 ≤ x20.i + decW x0.v x20.i ∧ x20.i + decW x0.v x20.i ≤ x0.i ∧ nmA x0 (x20.i + decW x0.v x20.i).toNat = true
    rw [hw.1]
    refine ⟨by omega, by omega, ?_⟩
    rw [nmA_step q0, q2, Bool.true_and, Bool.or_eq_true, ltr_iff, decide_eq_true_eq]
    exact hw.2
   refine andI ?_ fun o17 => ?_
   ·show x0.i + 1 - (x20.i + decW x0.v x20.i) < x0.i + 1 - x20.i
    omega
   show 0 < x0.i + 1 - x20.i
   omega
  intro h18
  refine iff_of_true rfl (nm_iff.2 ⟨by omega, ?_⟩)
  exact nmA_B h7.1.2 h7.2 (by omega) (by rw [← show x20.i.toNat = x0.i.toNat by omega]; exact q2)
 intro h19
 refine iff_of_false Bool.false_ne_true fun hv => ?_
 have hv : nmX' x0 = true := hv
 have n0 := (nm_iff.1 hv).1
 have a := nm_at hv (Int.le_refl 0) (by omega)
 have b := nm_at (i := x0.i - 1) hv (by omega) (by omega)
 omega
theorem kNmM : RCtrOk Tryd.prog ρ0 cNmM := by
 refine rctr_of (cf := cfG none [] [] lpNmM sumL) (cfG_ok keep0 keepR0 noF) Tryd.func82 rfl 400 rfl fun ds hr => ?_
 have hr := rshX_flat hr
 match ds, hr with
 | [d0], hr =>
  obtain ⟨l0, _⟩ := hr
  generalize d0 = x0 at *
  exact Eq.mpr (NmML x0) (NmMO x0 l0)
theorem nNmM : Hs cNmM.f := ⟨_, Tryd.func82, by kernel_rfl, by kernel_rfl⟩
end Vc
end Go.Proofs.YtelbilnnmmbmdaaDoor
