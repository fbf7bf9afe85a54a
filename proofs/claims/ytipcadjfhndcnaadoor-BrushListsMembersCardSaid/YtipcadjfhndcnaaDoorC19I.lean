/- Contracts of functions, each out of one walk. -/
import Derived.Test.YtipcadjfhndcnaaDoorC19C
import Derived.Test.YtipcadjfhndcnaaDoorC19P
namespace Go.Proofs.YtipcadjfhndcnaaDoor
namespace Vc
open Go Go.RowKit
set_option linter.unusedVariables false

/-- What is left of the contract of voxellaw19.increasing. -/
def IncP (x0 : X) : Prop :=
  (
   Px 522 [x0, (xI 1)]
  ∧
   (∀ x20 : X,
    (((1 ≤ x20.i) ∧ (x20.i ≤ 100001)) →
     (Px 522 [x0, x20] →
      (
       ((x20.i < x0.i) →
        (
         (x20.i < x0.i)
        ∧
         (
          ((x20.i - 1) < x0.i)
         ∧
          (
           ((((x0.r x20.i 2).i < (x0.r (x20.i - 1) 2).i) ∨ (((x0.r (x20.i - 1) 2).i = (x0.r x20.i 2).i) ∧ (((x0.r x20.i 1).i < (x0.r (x20.i - 1) 1).i) ∨ (((x0.r (x20.i - 1) 1).i = (x0.r x20.i 1).i) ∧ ((x0.r x20.i 0).i ≤ (x0.r (x20.i - 1) 0).i))))) →
            ((false = true) ↔ (Ff 412 [x0]).b = true))
          ∧
           ((¬ (((x0.r x20.i 2).i < (x0.r (x20.i - 1) 2).i) ∨ (((x0.r (x20.i - 1) 2).i = (x0.r x20.i 2).i) ∧ (((x0.r x20.i 1).i < (x0.r (x20.i - 1) 1).i) ∨ (((x0.r (x20.i - 1) 1).i = (x0.r x20.i 1).i) ∧ ((x0.r x20.i 0).i ≤ (x0.r (x20.i - 1) 0).i)))))) →
            (
             Px 522 [x0, (xI (x20.i + 1))]
            ∧
             (
              ((Ff 451 [x0, (xI (x20.i + 1))]).i < (Ff 451 [x0, x20]).i)
             ∧
              (0 < (Ff 451 [x0, x20]).i))))))))
      ∧
       ((¬ (x20.i < x0.i)) →
        ((true = true) ↔ (Ff 412 [x0]).b = true)))))))
theorem IncL (x0 : X) : (ctrR (fun j => Ff j [x0]) cInc.fs cInc.res { ρ0 with x := fun j => [x0].getD j (xI 0) } (walkR Tryd.prog (cfG none [] [] lpInc sumL) Tryd.f27 400 cInc.args)) = IncP x0 := by kernel_rfl
set_option maxHeartbeats 1000000 in
theorem IncO (x0 : X) (h0 : 0 ≤ x0.i ∧ x0.i ≤ 100000 ∧ RowOk [.int .i64 (-1048575) (1048575), .int .i64 (-1048575) (1048575), .int .i64 (-1048575) (1048575)] x0.r x0.i.toNat) : IncP x0 := by
  unfold IncP
  simp only [b412, P522, xI_i]
  refine ⟨⟨Int.le_refl _, .inr (by trivial), inc_one x0⟩, fun k hk hP => ⟨fun hlt => ⟨hlt, by omega, fun hbad => iff_of_false Bool.false_ne_true fun hi => ?_, fun hok => ⟨⟨by omega, .inl (by omega), ?_⟩, ?_, ?_⟩⟩, fun hge => iff_of_true (by trivial) ?_⟩⟩
  · have h1 := incB_take _ (k.i + 1).toNat hi
    rw [inc_step hP.1 hlt, Bool.and_eq_true] at h1
    have h2 := h1.2
    unfold ltP deP at h2
    simp only [Bool.or_eq_true, Bool.and_eq_true, decide_eq_true_eq] at h2
    omega
  · rw [inc_step hP.1 hlt, hP.2.2, Bool.true_and]
    unfold ltP deP
    simp only [Bool.or_eq_true, Bool.and_eq_true, decide_eq_true_eq]
    omega
  · show (3000000 : Int) - (k.i + 1) < 3000000 - k.i; omega
  · show (0 : Int) < 3000000 - k.i; omega
  · have h1 := hP.2.2
    by_cases h : k.i ≤ x0.i
    · rwa [lst_all (by omega)] at h1
    · have hk1 : k.i = 1 := by omega
      rw [lst_all (by omega)] at h1
      exact h1
theorem kInc : RCtrOk Tryd.prog ρ0 cInc := by
  refine rctr_of (cf := cfG none [] [] lpInc sumL) (cfG_ok keep0 keepR0 noF) Tryd.func27 rfl 400 rfl fun ds hr => ?_
  have hr := rshX_flat hr
  match ds, hr with
  | [d0], hr =>
    obtain ⟨l0, _⟩ := hr
    generalize d0 = x0 at *
    exact Eq.mpr (IncL x0) (IncO x0 l0)
theorem nInc : ∃ fn, Tryd.prog.funcs[cInc.f]? = some fn ∧ fn.body.isSome = true ∧ (fn.name == "runtime.NumGoroutine") = false := ⟨_, Tryd.func27, by kernel_rfl, by kernel_rfl⟩
end Vc
end Go.Proofs.YtipcadjfhndcnaaDoor
