/- Contracts of functions, each out of one walk. -/
import Derived.Test.YtipcadjfhndcnaaDoorC19C
import Derived.Test.YtipcadjfhndcnaaDoorC19M
namespace Go.Proofs.YtipcadjfhndcnaaDoor
namespace Vc
open Go Go.RowKit
set_option linter.unusedVariables false

/-- What is left of the contract of voxelref19.SamePoints. -/
def SameP (x0 : X) (x1 : X) : Prop :=
  (
   ((¬ (x0.i = x1.i)) →
    ((false = true) ↔ (Ff 410 [x0, x1]).b = true))
  ∧
   ((x0.i = x1.i) →
    (
     Px 520 [x0, x1, (xI 0)]
    ∧
     (∀ x20 : X,
      (((0 ≤ x20.i) ∧ (x20.i ≤ 100000)) →
       (Px 520 [x0, x1, x20] →
        (
         ((x20.i < x0.i) →
          (
           (x20.i < x1.i)
          ∧
           (
            (x20.i < x0.i)
           ∧
            (
             ((¬ (((x0.r x20.i 0).i = (x1.r x20.i 0).i) ∧ (((x0.r x20.i 1).i = (x1.r x20.i 1).i) ∧ ((x0.r x20.i 2).i = (x1.r x20.i 2).i)))) →
              ((false = true) ↔ (Ff 410 [x0, x1]).b = true))
            ∧
             ((((x0.r x20.i 0).i = (x1.r x20.i 0).i) ∧ (((x0.r x20.i 1).i = (x1.r x20.i 1).i) ∧ ((x0.r x20.i 2).i = (x1.r x20.i 2).i))) →
              (
               Px 520 [x0, x1, (xI (x20.i + 1))]
              ∧
               (
                ((Ff 451 [x0, x1, (xI (x20.i + 1))]).i < (Ff 451 [x0, x1, x20]).i)
               ∧
                (0 < (Ff 451 [x0, x1, x20]).i))))))))
        ∧
         ((¬ (x20.i < x0.i)) →
          ((true = true) ↔ (Ff 410 [x0, x1]).b = true)))))))))
theorem SameL (x0 : X) (x1 : X) : (ctrR (fun j => Ff j [x0, x1]) cSame.fs cSame.res { ρ0 with x := fun j => [x0, x1].getD j (xI 0) } (walkR Tryd.prog (cfG none [] [] lpSame sumL) Tryd.f18 400 cSame.args)) = SameP x0 x1 := by kernel_rfl
set_option maxHeartbeats 1000000 in
theorem SameO (x0 : X) (x1 : X) (h0 : 0 ≤ x0.i ∧ x0.i ≤ 100000 ∧ RowOk [.int .i64 (-1048575) (1048575), .int .i64 (-1048575) (1048575), .int .i64 (-1048575) (1048575)] x0.r x0.i.toNat) (h1 : 0 ≤ x1.i ∧ x1.i ≤ 100000 ∧ RowOk [.int .i64 (-1048575) (1048575), .int .i64 (-1048575) (1048575), .int .i64 (-1048575) (1048575)] x1.r x1.i.toNat) : SameP x0 x1 := by
  unfold SameP
  simp only [b410, P520]
  refine ⟨fun h => iff_of_false Bool.false_ne_true fun e => h ?_, fun h => ⟨⟨h, Int.le_refl _, h0.1, rfl⟩, fun k hk hP => ⟨fun hlt => ⟨by omega, hlt, fun hne => iff_of_false Bool.false_ne_true fun e => hne ?_, fun heq => ⟨⟨h, ?_, ?_, ?_⟩, ?_, ?_⟩⟩, fun hge => iff_of_true (by trivial) ?_⟩⟩⟩
  · have := congrArg List.length e
    rw [lstX_len, lstX_len] at this
    omega
  · have := lst_at e h hP.2.1 hlt
    unfold deP at this
    simp only [Prod.mk.injEq] at this
    exact this
  · show 0 ≤ k.i + 1; omega
  · show k.i + 1 ≤ x0.i; omega
  · show (lstX deP x0).take (k.i + 1).toNat = (lstX deP x1).take (k.i + 1).toNat
    rw [lst_take hP.2.1 hlt, lst_take hP.2.1 (by omega), hP.2.2.2]
    unfold deP
    rw [heq.1, heq.2.1, heq.2.2]
  · show (3000000 : Int) - (k.i + 1) < 3000000 - k.i; omega
  · show (0 : Int) < 3000000 - k.i; omega
  · have := hP.2.2.2
    rw [lst_all (by omega), lst_all (by omega)] at this
    exact this
theorem kSame : RCtrOk Tryd.prog ρ0 cSame := by
  refine rctr_of (cf := cfG none [] [] lpSame sumL) (cfG_ok keep0 keepR0 noF) Tryd.func18 rfl 400 rfl fun ds hr => ?_
  have hr := rshX_flat hr
  match ds, hr with
  | [d0, d1], hr =>
    obtain ⟨l0, l1, _⟩ := hr
    generalize d0 = x0 at *
    generalize d1 = x1 at *
    exact Eq.mpr (SameL x0 x1) (SameO x0 x1 l0 l1)
theorem nSame : ∃ fn, Tryd.prog.funcs[cSame.f]? = some fn ∧ fn.body.isSome = true ∧ (fn.name == "runtime.NumGoroutine") = false := ⟨_, Tryd.func18, by kernel_rfl, by kernel_rfl⟩

/-- What is left of the contract of voxellaw19.has. -/
def HasP (x0 : X) (x1 : Int) (x2 : Int) (x3 : Int) : Prop :=
  (
   Px 521 [x0, (xI x1), (xI x2), (xI x3), (xI 0)]
  ∧
   (∀ x20 : X,
    (((0 ≤ x20.i) ∧ (x20.i ≤ 100000)) →
     (Px 521 [x0, (xI x1), (xI x2), (xI x3), x20] →
      (
       ((x20.i < x0.i) →
        (
         (x20.i < x0.i)
        ∧
         (
          (((x1 = (x0.r x20.i 0).i) ∧ ((x2 = (x0.r x20.i 1).i) ∧ (x3 = (x0.r x20.i 2).i))) →
           ((true = true) ↔ (Ff 411 [x0, xI x1, xI x2, xI x3]).b = true))
         ∧
          ((¬ ((x1 = (x0.r x20.i 0).i) ∧ ((x2 = (x0.r x20.i 1).i) ∧ (x3 = (x0.r x20.i 2).i)))) →
           (
            Px 521 [x0, (xI x1), (xI x2), (xI x3), (xI (x20.i + 1))]
           ∧
            (
             ((Ff 451 [x0, (xI x1), (xI x2), (xI x3), (xI (x20.i + 1))]).i < (Ff 451 [x0, (xI x1), (xI x2), (xI x3), x20]).i)
            ∧
             (0 < (Ff 451 [x0, (xI x1), (xI x2), (xI x3), x20]).i)))))))
      ∧
       ((¬ (x20.i < x0.i)) →
        ((false = true) ↔ (Ff 411 [x0, xI x1, xI x2, xI x3]).b = true)))))))
theorem HasL (x0 : X) (x1 : Int) (x2 : Int) (x3 : Int) : (ctrR (fun j => Ff j [x0, xI x1, xI x2, xI x3]) cHas.fs cHas.res { ρ0 with x := fun j => [x0, xI x1, xI x2, xI x3].getD j (xI 0) } (walkR Tryd.prog (cfG none [] [] lpHas sumL) Tryd.f28 400 cHas.args)) = HasP x0 x1 x2 x3 := by kernel_rfl
set_option maxHeartbeats 1000000 in
theorem HasO (x0 : X) (x1 : Int) (x2 : Int) (x3 : Int) (h0 : 0 ≤ x0.i ∧ x0.i ≤ 100000 ∧ RowOk [.int .i64 (-1048575) (1048575), .int .i64 (-1048575) (1048575), .int .i64 (-1048575) (1048575)] x0.r x0.i.toNat) (h1 : -1048575 ≤ x1 ∧ x1 ≤ 1048575) (h2 : -1048575 ≤ x2 ∧ x2 ≤ 1048575) (h3 : -1048575 ≤ x3 ∧ x3 ≤ 1048575) : HasP x0 x1 x2 x3 := by
  unfold HasP
  simp only [b411, P521, xI_i]
  refine ⟨⟨Int.le_refl _, h0.1, fun h => by simp at h⟩, fun k hk hP => ⟨fun hlt => ⟨hlt, fun heq => iff_of_true (by trivial) ?_, fun hne => ⟨⟨?_, ?_, ?_⟩, ?_, ?_⟩⟩, fun hge => iff_of_false Bool.false_ne_true ?_⟩⟩
  · have := lst_mem (l := x0) hP.1 hlt
    unfold deP at this
    rw [heq.1, heq.2.1, heq.2.2]
    exact this
  · omega
  · omega
  · rw [lst_take hP.1 hlt]
    intro h
    rcases List.mem_append.1 h with h | h
    · exact hP.2.2 h
    · have := List.mem_singleton.1 h
      unfold deP at this
      simp only [Prod.mk.injEq] at this
      exact hne this
  · show (3000000 : Int) - (k.i + 1) < 3000000 - k.i; omega
  · show (0 : Int) < 3000000 - k.i; omega
  · have := hP.2.2
    rw [lst_all (by omega)] at this
    exact this
theorem kHas : RCtrOk Tryd.prog ρ0 cHas := by
  refine rctr_of (cf := cfG none [] [] lpHas sumL) (cfG_ok keep0 keepR0 noF) Tryd.func28 rfl 400 rfl fun ds hr => ?_
  have hr := rshX_flat hr
  match ds, hr with
  | [d0, d1, d2, d3], hr =>
    obtain ⟨l0, ⟨e1, l1, u1⟩, ⟨e2, l2, u2⟩, ⟨e3, l3, u3⟩, _⟩ := hr
    generalize d0 = x0 at *
    generalize d1.i = x1 at *
    generalize d2.i = x2 at *
    generalize d3.i = x3 at *
    subst e1 e2 e3
    exact Eq.mpr (HasL x0 x1 x2 x3) (HasO x0 x1 x2 x3 l0 ⟨l1, u1⟩ ⟨l2, u2⟩ ⟨l3, u3⟩)
theorem nHas : ∃ fn, Tryd.prog.funcs[cHas.f]? = some fn ∧ fn.body.isSome = true ∧ (fn.name == "runtime.NumGoroutine") = false := ⟨_, Tryd.func28, by kernel_rfl, by kernel_rfl⟩
end Vc
end Go.Proofs.YtipcadjfhndcnaaDoor
