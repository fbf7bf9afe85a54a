/- Contracts of functions, each out of one walk. -/
import Derived.Test.YtleapeclbkclaaaGreatDoorC07M
namespace Go.Proofs.YtleapeclbkclaaaGreatDoor
namespace Vc
open Go Go.RowKit
set_option linter.unusedVariables false

/-- What is left of the contract of voxelref07.Count. -/
def CntRP (x0 : Int) (x1 : Int) (x2 : Int) (x3 : Int) (x4 : Int) (x5 : Int) (x6 : X) (x7 : Int) : Prop :=
(Px 735 [(xI x0), (xI x1), (xI x2), (xI x3), (xI x4), (xI x5), x6, (xI x7), (xI 0), (xI 0)] ∧
(∀ x20 : X, (∀ x21 : X, (((0 ≤ x20.i) ∧ (x20.i ≤ 9223372036854775807)) →
(((0 ≤ x21.i) ∧ (x21.i ≤ 9223372036854775807)) →
(Px 735 [(xI x0), (xI x1), (xI x2), (xI x3), (xI x4), (xI x5), x6, (xI x7), x20, x21] →
(((x20.i < x6.i) →
((x20.i < x6.i) ∧
((0 ≤ (bif (decide ((x6.r x20.i 0).i = x7)) then (IntKind.wrap Go.IntKind.i64 (x21.i + 1)) else x21.i)) ∧
(Px 735 [(xI x0), (xI x1), (xI x2), (xI x3), (xI x4), (xI x5), x6, (xI x7), (xI (x20.i + 1)), (xI (bif (decide ((x6.r x20.i 0).i = x7)) then (IntKind.wrap Go.IntKind.i64 (x21.i + 1)) else x21.i))] ∧
(((Ff 765 [(xI x0), (xI x1), (xI x2), (xI x3), (xI x4), (xI x5), x6, (xI x7), (xI (x20.i + 1)), (xI (bif (decide ((x6.r x20.i 0).i = x7)) then (IntKind.wrap Go.IntKind.i64 (x21.i + 1)) else x21.i))]).i < (Ff 765 [(xI x0), (xI x1), (xI x2), (xI x3), (xI x4), (xI x5), x6, (xI x7), x20, x21]).i) ∧
(0 < (Ff 765 [(xI x0), (xI x1), (xI x2), (xI x3), (xI x4), (xI x5), x6, (xI x7), x20, x21]).i)))))) ∧
((¬ (x20.i < x6.i)) →
(x21.i = (Ff 716 [xI x0, xI x1, xI x2, xI x3, xI x4, xI x5, x6, xI x7]).i ∧ 0 ≤ (Ff 716 [xI x0, xI x1, xI x2, xI x3, xI x4, xI x5, x6, xI x7]).i ∧ (Ff 716 [xI x0, xI x1, xI x2, xI x3, xI x4, xI x5, x6, xI x7]).i ≤ 9223372036854775807)))))))))
theorem CntRL (x0 : Int) (x1 : Int) (x2 : Int) (x3 : Int) (x4 : Int) (x5 : Int) (x6 : X) (x7 : Int) : (ctrR (fun j => Ff j [xI x0, xI x1, xI x2, xI x3, xI x4, xI x5, x6, xI x7]) cCntR.fs cCntR.res { ρ0 with x := fun j => [xI x0, xI x1, xI x2, xI x3, xI x4, xI x5, x6, xI x7].getD j (xI 0) } (walkR Tryz.prog (cfG none [] [] lpCntR sumC) Tryz.f25 400 cCntR.args)) = CntRP x0 x1 x2 x3 x4 x5 x6 x7 := by kernel_rfl
set_option maxHeartbeats 4000000 in
theorem CntRO (x0 : Int) (x1 : Int) (x2 : Int) (x3 : Int) (x4 : Int) (x5 : Int) (x6 : X) (x7 : Int) (g0 : -9223372036854775808 ≤ x0 ∧ x0 ≤ 9223372036854775807) (g1 : -9223372036854775808 ≤ x1 ∧ x1 ≤ 9223372036854775807) (g2 : -9223372036854775808 ≤ x2 ∧ x2 ≤ 9223372036854775807) (g3 : -9223372036854775808 ≤ x3 ∧ x3 ≤ 9223372036854775807) (g4 : -9223372036854775808 ≤ x4 ∧ x4 ≤ 9223372036854775807) (g5 : -9223372036854775808 ≤ x5 ∧ x5 ≤ 9223372036854775807) (g6 : 0 ≤ x6.i ∧ x6.i ≤ 9223372036854775807 ∧ RowOk [.int .i64 (-9223372036854775808) (9223372036854775807)] x6.r x6.i.toNat) (g7 : -9223372036854775808 ≤ x7 ∧ x7 ≤ 9223372036854775807) : CntRP x0 x1 x2 x3 x4 x5 x6 x7 := by
  unfold CntRP
  refine andI ?_ fun o0 => ?_
  · exact ⟨Int.le_refl _, g6.1, rfl⟩ -- #0
  intro x20
  intro x21
  intro h1
  intro h2
  intro p3
  refine And.intro ?_ ?_
  · intro h5
    have hm : x21.i = (((lstX deI x6).take x20.i.toNat).count x7 : Nat) := p3.2.2
    have hl : x21.i ≤ x20.i := by rw [hm]; exact cnt_le h1.1
    have hs : (((((lstX deI x6).take (x20.i + 1).toNat).count x7 : Nat)) : Int) = (bif (decide ((x6.r x20.i 0).i = x7)) then (IntKind.wrap Go.IntKind.i64 (x21.i + 1)) else x21.i) := by
      have hw : IntKind.wrap Go.IntKind.i64 (x21.i + 1) = x21.i + 1 := wrap_fits ⟨by show -9223372036854775808 ≤ x21.i + 1; omega, by show x21.i + 1 ≤ 9223372036854775807; omega⟩
      rw [cnt_step h1.1 h5, hw, hm, Bool.cond_decide]
      split <;> omega
    refine andI ?_ fun o6 => ?_
    · omega -- #1
    refine andI ?_ fun o7 => ?_
    · skip -- #2
      rw [← hs]
      omega
    refine andI ?_ fun o8 => ?_
    · exact ⟨Int.le_trans h1.1 (Int.le_of_lt (Int.lt_succ _)), show x20.i + 1 ≤ x6.i by omega, hs.symm⟩ -- #3
    refine andI ?_ fun o9 => ?_
    · skip -- #4
      show x6.i + 1 - (x20.i + 1) < x6.i + 1 - x20.i
      omega
    skip -- #5
    show 0 < x6.i + 1 - x20.i
    omega
  intro h10
  skip -- #6
  have hm : x21.i = (((lstX deI x6).take x20.i.toNat).count x7 : Nat) := p3.2.2
  rw [lx_all (by omega)] at hm
  exact rngI hm.symm (by omega)
theorem kCntR : RCtrOk Tryz.prog ρ0 cCntR := by
  refine rctr_of (cf := cfG none [] [] lpCntR sumC) (cfG_ok keep0 keepR0 noF) Tryz.func25 rfl 400 rfl fun ds hr => ?_
  have hr := rshX_flat hr
  match ds, hr with
  | [d0, d1, d2, d3, d4, d5, d6, d7], hr =>
    obtain ⟨⟨e0, l0, u0⟩, ⟨e1, l1, u1⟩, ⟨e2, l2, u2⟩, ⟨e3, l3, u3⟩, ⟨e4, l4, u4⟩, ⟨e5, l5, u5⟩, l6, ⟨e7, l7, u7⟩, _⟩ := hr
    generalize d0.i = x0 at *
    generalize d1.i = x1 at *
    generalize d2.i = x2 at *
    generalize d3.i = x3 at *
    generalize d4.i = x4 at *
    generalize d5.i = x5 at *
    generalize d6 = x6 at *
    generalize d7.i = x7 at *
    subst e0 e1 e2 e3 e4 e5 e7
    exact Eq.mpr (CntRL x0 x1 x2 x3 x4 x5 x6 x7) (CntRO x0 x1 x2 x3 x4 x5 x6 x7 ⟨l0, u0⟩ ⟨l1, u1⟩ ⟨l2, u2⟩ ⟨l3, u3⟩ ⟨l4, u4⟩ ⟨l5, u5⟩ l6 ⟨l7, u7⟩)
theorem nCntR : ∃ fn, Tryz.prog.funcs[cCntR.f]? = some fn ∧ fn.body.isSome = true ∧ (fn.name == "runtime.NumGoroutine") = false := ⟨_, Tryz.func25, by kernel_rfl, by kernel_rfl⟩
end Vc
end Go.Proofs.YtleapeclbkclaaaGreatDoor
