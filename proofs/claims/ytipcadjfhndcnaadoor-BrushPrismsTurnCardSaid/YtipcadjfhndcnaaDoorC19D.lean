/- Contracts of functions, each out of one walk. -/
import Derived.Test.YtipcadjfhndcnaaDoorC19C
import Derived.Test.YtipcadjfhndcnaaDoorC19L
namespace Go.Proofs.YtipcadjfhndcnaaDoor
namespace Vc
open Go Go.RowKit
set_option linter.unusedVariables false

/-- What is left of the contract of point.Intersect. -/
def InterWP (x0 : Int) (x1 : Int) (x2 : Int) (x3 : Int) (x4 : Int) (x5 : Int) (x6 : Int) (x7 : Int) (x8 : Int) (x9 : Int) (x10 : Int) (x11 : Int) : Prop :=
  (
   ((((((((max x0 x6) ≤ (max x0 x6)) ∧ ((max x0 x6) < (min x3 x9))) ∧ ((max x1 x7) ≤ (max x1 x7))) ∧ ((max x1 x7) < (min x4 x10))) ∧ ((max x2 x8) ≤ (max x2 x8))) ∧ ((max x2 x8) < (min x5 x11))) →
    (((max x0 x6) = (Ff 220 [xI x0, xI x1, xI x2, xI x3, xI x4, xI x5, xI x6, xI x7, xI x8, xI x9, xI x10, xI x11]).i ∧ -1048575 ≤ (Ff 220 [xI x0, xI x1, xI x2, xI x3, xI x4, xI x5, xI x6, xI x7, xI x8, xI x9, xI x10, xI x11]).i ∧ (Ff 220 [xI x0, xI x1, xI x2, xI x3, xI x4, xI x5, xI x6, xI x7, xI x8, xI x9, xI x10, xI x11]).i ≤ 1048575) ∧ (((max x1 x7) = (Ff 221 [xI x0, xI x1, xI x2, xI x3, xI x4, xI x5, xI x6, xI x7, xI x8, xI x9, xI x10, xI x11]).i ∧ -1048575 ≤ (Ff 221 [xI x0, xI x1, xI x2, xI x3, xI x4, xI x5, xI x6, xI x7, xI x8, xI x9, xI x10, xI x11]).i ∧ (Ff 221 [xI x0, xI x1, xI x2, xI x3, xI x4, xI x5, xI x6, xI x7, xI x8, xI x9, xI x10, xI x11]).i ≤ 1048575) ∧ (((max x2 x8) = (Ff 222 [xI x0, xI x1, xI x2, xI x3, xI x4, xI x5, xI x6, xI x7, xI x8, xI x9, xI x10, xI x11]).i ∧ -1048575 ≤ (Ff 222 [xI x0, xI x1, xI x2, xI x3, xI x4, xI x5, xI x6, xI x7, xI x8, xI x9, xI x10, xI x11]).i ∧ (Ff 222 [xI x0, xI x1, xI x2, xI x3, xI x4, xI x5, xI x6, xI x7, xI x8, xI x9, xI x10, xI x11]).i ≤ 1048575) ∧ (((min x3 x9) = (Ff 223 [xI x0, xI x1, xI x2, xI x3, xI x4, xI x5, xI x6, xI x7, xI x8, xI x9, xI x10, xI x11]).i ∧ -1048575 ≤ (Ff 223 [xI x0, xI x1, xI x2, xI x3, xI x4, xI x5, xI x6, xI x7, xI x8, xI x9, xI x10, xI x11]).i ∧ (Ff 223 [xI x0, xI x1, xI x2, xI x3, xI x4, xI x5, xI x6, xI x7, xI x8, xI x9, xI x10, xI x11]).i ≤ 1048575) ∧ (((min x4 x10) = (Ff 224 [xI x0, xI x1, xI x2, xI x3, xI x4, xI x5, xI x6, xI x7, xI x8, xI x9, xI x10, xI x11]).i ∧ -1048575 ≤ (Ff 224 [xI x0, xI x1, xI x2, xI x3, xI x4, xI x5, xI x6, xI x7, xI x8, xI x9, xI x10, xI x11]).i ∧ (Ff 224 [xI x0, xI x1, xI x2, xI x3, xI x4, xI x5, xI x6, xI x7, xI x8, xI x9, xI x10, xI x11]).i ≤ 1048575) ∧ ((min x5 x11) = (Ff 225 [xI x0, xI x1, xI x2, xI x3, xI x4, xI x5, xI x6, xI x7, xI x8, xI x9, xI x10, xI x11]).i ∧ -1048575 ≤ (Ff 225 [xI x0, xI x1, xI x2, xI x3, xI x4, xI x5, xI x6, xI x7, xI x8, xI x9, xI x10, xI x11]).i ∧ (Ff 225 [xI x0, xI x1, xI x2, xI x3, xI x4, xI x5, xI x6, xI x7, xI x8, xI x9, xI x10, xI x11]).i ≤ 1048575)))))))
  ∧
   ((¬ (((((((max x0 x6) ≤ (max x0 x6)) ∧ ((max x0 x6) < (min x3 x9))) ∧ ((max x1 x7) ≤ (max x1 x7))) ∧ ((max x1 x7) < (min x4 x10))) ∧ ((max x2 x8) ≤ (max x2 x8))) ∧ ((max x2 x8) < (min x5 x11)))) →
    ((0 = (Ff 220 [xI x0, xI x1, xI x2, xI x3, xI x4, xI x5, xI x6, xI x7, xI x8, xI x9, xI x10, xI x11]).i ∧ -1048575 ≤ (Ff 220 [xI x0, xI x1, xI x2, xI x3, xI x4, xI x5, xI x6, xI x7, xI x8, xI x9, xI x10, xI x11]).i ∧ (Ff 220 [xI x0, xI x1, xI x2, xI x3, xI x4, xI x5, xI x6, xI x7, xI x8, xI x9, xI x10, xI x11]).i ≤ 1048575) ∧ ((0 = (Ff 221 [xI x0, xI x1, xI x2, xI x3, xI x4, xI x5, xI x6, xI x7, xI x8, xI x9, xI x10, xI x11]).i ∧ -1048575 ≤ (Ff 221 [xI x0, xI x1, xI x2, xI x3, xI x4, xI x5, xI x6, xI x7, xI x8, xI x9, xI x10, xI x11]).i ∧ (Ff 221 [xI x0, xI x1, xI x2, xI x3, xI x4, xI x5, xI x6, xI x7, xI x8, xI x9, xI x10, xI x11]).i ≤ 1048575) ∧ ((0 = (Ff 222 [xI x0, xI x1, xI x2, xI x3, xI x4, xI x5, xI x6, xI x7, xI x8, xI x9, xI x10, xI x11]).i ∧ -1048575 ≤ (Ff 222 [xI x0, xI x1, xI x2, xI x3, xI x4, xI x5, xI x6, xI x7, xI x8, xI x9, xI x10, xI x11]).i ∧ (Ff 222 [xI x0, xI x1, xI x2, xI x3, xI x4, xI x5, xI x6, xI x7, xI x8, xI x9, xI x10, xI x11]).i ≤ 1048575) ∧ ((0 = (Ff 223 [xI x0, xI x1, xI x2, xI x3, xI x4, xI x5, xI x6, xI x7, xI x8, xI x9, xI x10, xI x11]).i ∧ -1048575 ≤ (Ff 223 [xI x0, xI x1, xI x2, xI x3, xI x4, xI x5, xI x6, xI x7, xI x8, xI x9, xI x10, xI x11]).i ∧ (Ff 223 [xI x0, xI x1, xI x2, xI x3, xI x4, xI x5, xI x6, xI x7, xI x8, xI x9, xI x10, xI x11]).i ≤ 1048575) ∧ ((0 = (Ff 224 [xI x0, xI x1, xI x2, xI x3, xI x4, xI x5, xI x6, xI x7, xI x8, xI x9, xI x10, xI x11]).i ∧ -1048575 ≤ (Ff 224 [xI x0, xI x1, xI x2, xI x3, xI x4, xI x5, xI x6, xI x7, xI x8, xI x9, xI x10, xI x11]).i ∧ (Ff 224 [xI x0, xI x1, xI x2, xI x3, xI x4, xI x5, xI x6, xI x7, xI x8, xI x9, xI x10, xI x11]).i ≤ 1048575) ∧ (0 = (Ff 225 [xI x0, xI x1, xI x2, xI x3, xI x4, xI x5, xI x6, xI x7, xI x8, xI x9, xI x10, xI x11]).i ∧ -1048575 ≤ (Ff 225 [xI x0, xI x1, xI x2, xI x3, xI x4, xI x5, xI x6, xI x7, xI x8, xI x9, xI x10, xI x11]).i ∧ (Ff 225 [xI x0, xI x1, xI x2, xI x3, xI x4, xI x5, xI x6, xI x7, xI x8, xI x9, xI x10, xI x11]).i ≤ 1048575))))))))
theorem InterWL (x0 : Int) (x1 : Int) (x2 : Int) (x3 : Int) (x4 : Int) (x5 : Int) (x6 : Int) (x7 : Int) (x8 : Int) (x9 : Int) (x10 : Int) (x11 : Int) : ((walkF Tryd.prog (cf0 []) Tryd.f42 3000 (shS cInterW.args 0)).ctr { ρ0 with x := fun j => [xI x0, xI x1, xI x2, xI x3, xI x4, xI x5, xI x6, xI x7, xI x8, xI x9, xI x10, xI x11].getD j (xI 0) } (fun j => Ff j [xI x0, xI x1, xI x2, xI x3, xI x4, xI x5, xI x6, xI x7, xI x8, xI x9, xI x10, xI x11]) cInterW.fs cInterW.res) = InterWP x0 x1 x2 x3 x4 x5 x6 x7 x8 x9 x10 x11 := by kernel_rfl
set_option maxHeartbeats 1000000 in
theorem InterWO (x0 : Int) (x1 : Int) (x2 : Int) (x3 : Int) (x4 : Int) (x5 : Int) (x6 : Int) (x7 : Int) (x8 : Int) (x9 : Int) (x10 : Int) (x11 : Int) (h0 : -1050624 ≤ x0 ∧ x0 ≤ 1050624) (h1 : -1050624 ≤ x1 ∧ x1 ≤ 1050624) (h2 : -1050624 ≤ x2 ∧ x2 ≤ 1050624) (h3 : -1050624 ≤ x3 ∧ x3 ≤ 1050624) (h4 : -1050624 ≤ x4 ∧ x4 ≤ 1050624) (h5 : -1050624 ≤ x5 ∧ x5 ≤ 1050624) (h6 : -1048575 ≤ x6 ∧ x6 ≤ 1048575) (h7 : -1048575 ≤ x7 ∧ x7 ≤ 1048575) (h8 : -1048575 ≤ x8 ∧ x8 ≤ 1048575) (h9 : -1048575 ≤ x9 ∧ x9 ≤ 1048575) (h10 : -1048575 ≤ x10 ∧ x10 ≤ 1048575) (h11 : -1048575 ≤ x11 ∧ x11 ≤ 1048575) : InterWP x0 x1 x2 x3 x4 x5 x6 x7 x8 x9 x10 x11 := by
  unfold InterWP
  simp only [F220, F221, F222, F223, F224, F225, xI_i]
  unfold itB
  by_cases h : neB (max x0 x6) (max x1 x7) (max x2 x8) (min x3 x9) (min x4 x10) (min x5 x11)
  · simp only [if_pos h]
    unfold neB at h
    refine ⟨fun g => ?_, fun g => ?_⟩
    · first | (exfalso; omega) | ((repeat' apply And.intro) <;> first | trivial | omega)
    · first | (exfalso; omega) | ((repeat' apply And.intro) <;> first | trivial | omega)
  · simp only [if_neg h]
    unfold neB at h
    refine ⟨fun g => ?_, fun g => ?_⟩
    · first | (exfalso; omega) | ((repeat' apply And.intro) <;> first | trivial | omega)
    · first | (exfalso; omega) | ((repeat' apply And.intro) <;> first | trivial | omega)
theorem kInterW : CtrOk Tryd.prog ρ0 cInterW := by
  refine ctr_of (cf := cf0 []) (cf0_ok keep0) Tryd.func42 rfl 3000 fun ds hr => ?_
  match ds, hr with
  | [d0, d1, d2, d3, d4, d5, d6, d7, d8, d9, d10, d11], hr =>
    obtain ⟨⟨⟨e0, l0, u0⟩, ⟨e1, l1, u1⟩, ⟨e2, l2, u2⟩, ⟨e3, l3, u3⟩, ⟨e4, l4, u4⟩, ⟨e5, l5, u5⟩, _⟩, ⟨⟨e6, l6, u6⟩, ⟨e7, l7, u7⟩, ⟨e8, l8, u8⟩, ⟨e9, l9, u9⟩, ⟨e10, l10, u10⟩, ⟨e11, l11, u11⟩, _⟩, _⟩ := hr
    generalize d0.i = x0 at *
    generalize d1.i = x1 at *
    generalize d2.i = x2 at *
    generalize d3.i = x3 at *
    generalize d4.i = x4 at *
    generalize d5.i = x5 at *
    generalize d6.i = x6 at *
    generalize d7.i = x7 at *
    generalize d8.i = x8 at *
    generalize d9.i = x9 at *
    generalize d10.i = x10 at *
    generalize d11.i = x11 at *
    subst e0 e1 e2 e3 e4 e5 e6 e7 e8 e9 e10 e11
    exact Eq.mpr (InterWL x0 x1 x2 x3 x4 x5 x6 x7 x8 x9 x10 x11) (InterWO x0 x1 x2 x3 x4 x5 x6 x7 x8 x9 x10 x11 ⟨l0, u0⟩ ⟨l1, u1⟩ ⟨l2, u2⟩ ⟨l3, u3⟩ ⟨l4, u4⟩ ⟨l5, u5⟩ ⟨l6, u6⟩ ⟨l7, u7⟩ ⟨l8, u8⟩ ⟨l9, u9⟩ ⟨l10, u10⟩ ⟨l11, u11⟩)
theorem nInterW : ∃ fn, Tryd.prog.funcs[cInterW.f]? = some fn ∧ fn.body.isSome = true ∧ (fn.name == "runtime.NumGoroutine") = false := ⟨_, Tryd.func42, by kernel_rfl, by kernel_rfl⟩

/-- What is left of the contract of voxelref04.Intersect. -/
def InterWRP (x0 : Int) (x1 : Int) (x2 : Int) (x3 : Int) (x4 : Int) (x5 : Int) (x6 : Int) (x7 : Int) (x8 : Int) (x9 : Int) (x10 : Int) (x11 : Int) : Prop :=
  (
   (((((min x3 x9) ≤ (max x0 x6)) ∨ ((min x4 x10) ≤ (max x1 x7))) ∨ ((min x5 x11) ≤ (max x2 x8))) →
    ((0 = (Ff 220 [xI x0, xI x1, xI x2, xI x3, xI x4, xI x5, xI x6, xI x7, xI x8, xI x9, xI x10, xI x11]).i ∧ -1048575 ≤ (Ff 220 [xI x0, xI x1, xI x2, xI x3, xI x4, xI x5, xI x6, xI x7, xI x8, xI x9, xI x10, xI x11]).i ∧ (Ff 220 [xI x0, xI x1, xI x2, xI x3, xI x4, xI x5, xI x6, xI x7, xI x8, xI x9, xI x10, xI x11]).i ≤ 1048575) ∧ ((0 = (Ff 221 [xI x0, xI x1, xI x2, xI x3, xI x4, xI x5, xI x6, xI x7, xI x8, xI x9, xI x10, xI x11]).i ∧ -1048575 ≤ (Ff 221 [xI x0, xI x1, xI x2, xI x3, xI x4, xI x5, xI x6, xI x7, xI x8, xI x9, xI x10, xI x11]).i ∧ (Ff 221 [xI x0, xI x1, xI x2, xI x3, xI x4, xI x5, xI x6, xI x7, xI x8, xI x9, xI x10, xI x11]).i ≤ 1048575) ∧ ((0 = (Ff 222 [xI x0, xI x1, xI x2, xI x3, xI x4, xI x5, xI x6, xI x7, xI x8, xI x9, xI x10, xI x11]).i ∧ -1048575 ≤ (Ff 222 [xI x0, xI x1, xI x2, xI x3, xI x4, xI x5, xI x6, xI x7, xI x8, xI x9, xI x10, xI x11]).i ∧ (Ff 222 [xI x0, xI x1, xI x2, xI x3, xI x4, xI x5, xI x6, xI x7, xI x8, xI x9, xI x10, xI x11]).i ≤ 1048575) ∧ ((0 = (Ff 223 [xI x0, xI x1, xI x2, xI x3, xI x4, xI x5, xI x6, xI x7, xI x8, xI x9, xI x10, xI x11]).i ∧ -1048575 ≤ (Ff 223 [xI x0, xI x1, xI x2, xI x3, xI x4, xI x5, xI x6, xI x7, xI x8, xI x9, xI x10, xI x11]).i ∧ (Ff 223 [xI x0, xI x1, xI x2, xI x3, xI x4, xI x5, xI x6, xI x7, xI x8, xI x9, xI x10, xI x11]).i ≤ 1048575) ∧ ((0 = (Ff 224 [xI x0, xI x1, xI x2, xI x3, xI x4, xI x5, xI x6, xI x7, xI x8, xI x9, xI x10, xI x11]).i ∧ -1048575 ≤ (Ff 224 [xI x0, xI x1, xI x2, xI x3, xI x4, xI x5, xI x6, xI x7, xI x8, xI x9, xI x10, xI x11]).i ∧ (Ff 224 [xI x0, xI x1, xI x2, xI x3, xI x4, xI x5, xI x6, xI x7, xI x8, xI x9, xI x10, xI x11]).i ≤ 1048575) ∧ (0 = (Ff 225 [xI x0, xI x1, xI x2, xI x3, xI x4, xI x5, xI x6, xI x7, xI x8, xI x9, xI x10, xI x11]).i ∧ -1048575 ≤ (Ff 225 [xI x0, xI x1, xI x2, xI x3, xI x4, xI x5, xI x6, xI x7, xI x8, xI x9, xI x10, xI x11]).i ∧ (Ff 225 [xI x0, xI x1, xI x2, xI x3, xI x4, xI x5, xI x6, xI x7, xI x8, xI x9, xI x10, xI x11]).i ≤ 1048575)))))))
  ∧
   ((¬ ((((min x3 x9) ≤ (max x0 x6)) ∨ ((min x4 x10) ≤ (max x1 x7))) ∨ ((min x5 x11) ≤ (max x2 x8)))) →
    (((max x0 x6) = (Ff 220 [xI x0, xI x1, xI x2, xI x3, xI x4, xI x5, xI x6, xI x7, xI x8, xI x9, xI x10, xI x11]).i ∧ -1048575 ≤ (Ff 220 [xI x0, xI x1, xI x2, xI x3, xI x4, xI x5, xI x6, xI x7, xI x8, xI x9, xI x10, xI x11]).i ∧ (Ff 220 [xI x0, xI x1, xI x2, xI x3, xI x4, xI x5, xI x6, xI x7, xI x8, xI x9, xI x10, xI x11]).i ≤ 1048575) ∧ (((max x1 x7) = (Ff 221 [xI x0, xI x1, xI x2, xI x3, xI x4, xI x5, xI x6, xI x7, xI x8, xI x9, xI x10, xI x11]).i ∧ -1048575 ≤ (Ff 221 [xI x0, xI x1, xI x2, xI x3, xI x4, xI x5, xI x6, xI x7, xI x8, xI x9, xI x10, xI x11]).i ∧ (Ff 221 [xI x0, xI x1, xI x2, xI x3, xI x4, xI x5, xI x6, xI x7, xI x8, xI x9, xI x10, xI x11]).i ≤ 1048575) ∧ (((max x2 x8) = (Ff 222 [xI x0, xI x1, xI x2, xI x3, xI x4, xI x5, xI x6, xI x7, xI x8, xI x9, xI x10, xI x11]).i ∧ -1048575 ≤ (Ff 222 [xI x0, xI x1, xI x2, xI x3, xI x4, xI x5, xI x6, xI x7, xI x8, xI x9, xI x10, xI x11]).i ∧ (Ff 222 [xI x0, xI x1, xI x2, xI x3, xI x4, xI x5, xI x6, xI x7, xI x8, xI x9, xI x10, xI x11]).i ≤ 1048575) ∧ (((min x3 x9) = (Ff 223 [xI x0, xI x1, xI x2, xI x3, xI x4, xI x5, xI x6, xI x7, xI x8, xI x9, xI x10, xI x11]).i ∧ -1048575 ≤ (Ff 223 [xI x0, xI x1, xI x2, xI x3, xI x4, xI x5, xI x6, xI x7, xI x8, xI x9, xI x10, xI x11]).i ∧ (Ff 223 [xI x0, xI x1, xI x2, xI x3, xI x4, xI x5, xI x6, xI x7, xI x8, xI x9, xI x10, xI x11]).i ≤ 1048575) ∧ (((min x4 x10) = (Ff 224 [xI x0, xI x1, xI x2, xI x3, xI x4, xI x5, xI x6, xI x7, xI x8, xI x9, xI x10, xI x11]).i ∧ -1048575 ≤ (Ff 224 [xI x0, xI x1, xI x2, xI x3, xI x4, xI x5, xI x6, xI x7, xI x8, xI x9, xI x10, xI x11]).i ∧ (Ff 224 [xI x0, xI x1, xI x2, xI x3, xI x4, xI x5, xI x6, xI x7, xI x8, xI x9, xI x10, xI x11]).i ≤ 1048575) ∧ ((min x5 x11) = (Ff 225 [xI x0, xI x1, xI x2, xI x3, xI x4, xI x5, xI x6, xI x7, xI x8, xI x9, xI x10, xI x11]).i ∧ -1048575 ≤ (Ff 225 [xI x0, xI x1, xI x2, xI x3, xI x4, xI x5, xI x6, xI x7, xI x8, xI x9, xI x10, xI x11]).i ∧ (Ff 225 [xI x0, xI x1, xI x2, xI x3, xI x4, xI x5, xI x6, xI x7, xI x8, xI x9, xI x10, xI x11]).i ≤ 1048575))))))))
theorem InterWRL (x0 : Int) (x1 : Int) (x2 : Int) (x3 : Int) (x4 : Int) (x5 : Int) (x6 : Int) (x7 : Int) (x8 : Int) (x9 : Int) (x10 : Int) (x11 : Int) : ((walkF Tryd.prog (cf0 []) Tryd.f36 3000 (shS cInterWR.args 0)).ctr { ρ0 with x := fun j => [xI x0, xI x1, xI x2, xI x3, xI x4, xI x5, xI x6, xI x7, xI x8, xI x9, xI x10, xI x11].getD j (xI 0) } (fun j => Ff j [xI x0, xI x1, xI x2, xI x3, xI x4, xI x5, xI x6, xI x7, xI x8, xI x9, xI x10, xI x11]) cInterWR.fs cInterWR.res) = InterWRP x0 x1 x2 x3 x4 x5 x6 x7 x8 x9 x10 x11 := by kernel_rfl
set_option maxHeartbeats 1000000 in
theorem InterWRO (x0 : Int) (x1 : Int) (x2 : Int) (x3 : Int) (x4 : Int) (x5 : Int) (x6 : Int) (x7 : Int) (x8 : Int) (x9 : Int) (x10 : Int) (x11 : Int) (h0 : -1050624 ≤ x0 ∧ x0 ≤ 1050624) (h1 : -1050624 ≤ x1 ∧ x1 ≤ 1050624) (h2 : -1050624 ≤ x2 ∧ x2 ≤ 1050624) (h3 : -1050624 ≤ x3 ∧ x3 ≤ 1050624) (h4 : -1050624 ≤ x4 ∧ x4 ≤ 1050624) (h5 : -1050624 ≤ x5 ∧ x5 ≤ 1050624) (h6 : -1048575 ≤ x6 ∧ x6 ≤ 1048575) (h7 : -1048575 ≤ x7 ∧ x7 ≤ 1048575) (h8 : -1048575 ≤ x8 ∧ x8 ≤ 1048575) (h9 : -1048575 ≤ x9 ∧ x9 ≤ 1048575) (h10 : -1048575 ≤ x10 ∧ x10 ≤ 1048575) (h11 : -1048575 ≤ x11 ∧ x11 ≤ 1048575) : InterWRP x0 x1 x2 x3 x4 x5 x6 x7 x8 x9 x10 x11 := by
  unfold InterWRP
  simp only [F220, F221, F222, F223, F224, F225, xI_i]
  unfold itB
  by_cases h : neB (max x0 x6) (max x1 x7) (max x2 x8) (min x3 x9) (min x4 x10) (min x5 x11)
  · simp only [if_pos h]
    unfold neB at h
    refine ⟨fun g => ?_, fun g => ?_⟩
    · first | (exfalso; omega) | ((repeat' apply And.intro) <;> first | trivial | omega)
    · first | (exfalso; omega) | ((repeat' apply And.intro) <;> first | trivial | omega)
  · simp only [if_neg h]
    unfold neB at h
    refine ⟨fun g => ?_, fun g => ?_⟩
    · first | (exfalso; omega) | ((repeat' apply And.intro) <;> first | trivial | omega)
    · first | (exfalso; omega) | ((repeat' apply And.intro) <;> first | trivial | omega)
theorem kInterWR : CtrOk Tryd.prog ρ0 cInterWR := by
  refine ctr_of (cf := cf0 []) (cf0_ok keep0) Tryd.func36 rfl 3000 fun ds hr => ?_
  match ds, hr with
  | [d0, d1, d2, d3, d4, d5, d6, d7, d8, d9, d10, d11], hr =>
    obtain ⟨⟨⟨e0, l0, u0⟩, ⟨e1, l1, u1⟩, ⟨e2, l2, u2⟩, ⟨e3, l3, u3⟩, ⟨e4, l4, u4⟩, ⟨e5, l5, u5⟩, _⟩, ⟨⟨e6, l6, u6⟩, ⟨e7, l7, u7⟩, ⟨e8, l8, u8⟩, ⟨e9, l9, u9⟩, ⟨e10, l10, u10⟩, ⟨e11, l11, u11⟩, _⟩, _⟩ := hr
    generalize d0.i = x0 at *
    generalize d1.i = x1 at *
    generalize d2.i = x2 at *
    generalize d3.i = x3 at *
    generalize d4.i = x4 at *
    generalize d5.i = x5 at *
    generalize d6.i = x6 at *
    generalize d7.i = x7 at *
    generalize d8.i = x8 at *
    generalize d9.i = x9 at *
    generalize d10.i = x10 at *
    generalize d11.i = x11 at *
    subst e0 e1 e2 e3 e4 e5 e6 e7 e8 e9 e10 e11
    exact Eq.mpr (InterWRL x0 x1 x2 x3 x4 x5 x6 x7 x8 x9 x10 x11) (InterWRO x0 x1 x2 x3 x4 x5 x6 x7 x8 x9 x10 x11 ⟨l0, u0⟩ ⟨l1, u1⟩ ⟨l2, u2⟩ ⟨l3, u3⟩ ⟨l4, u4⟩ ⟨l5, u5⟩ ⟨l6, u6⟩ ⟨l7, u7⟩ ⟨l8, u8⟩ ⟨l9, u9⟩ ⟨l10, u10⟩ ⟨l11, u11⟩)
theorem nInterWR : ∃ fn, Tryd.prog.funcs[cInterWR.f]? = some fn ∧ fn.body.isSome = true ∧ (fn.name == "runtime.NumGoroutine") = false := ⟨_, Tryd.func36, by kernel_rfl, by kernel_rfl⟩

/-- What is left of the contract of brush.BallBox. -/
def BBoxP (x0 : Int) (x1 : Int) (x2 : Int) (x3 : Int) : Prop :=
  (
   ((¬ ((1 ≤ x3) ∧ (x3 ≤ 4096))) →
    ((0 = (Ff 422 [xI x0, xI x1, xI x2, xI x3]).i ∧ -1050624 ≤ (Ff 422 [xI x0, xI x1, xI x2, xI x3]).i ∧ (Ff 422 [xI x0, xI x1, xI x2, xI x3]).i ≤ 1050624) ∧ ((0 = (Ff 423 [xI x0, xI x1, xI x2, xI x3]).i ∧ -1050624 ≤ (Ff 423 [xI x0, xI x1, xI x2, xI x3]).i ∧ (Ff 423 [xI x0, xI x1, xI x2, xI x3]).i ≤ 1050624) ∧ ((0 = (Ff 424 [xI x0, xI x1, xI x2, xI x3]).i ∧ -1050624 ≤ (Ff 424 [xI x0, xI x1, xI x2, xI x3]).i ∧ (Ff 424 [xI x0, xI x1, xI x2, xI x3]).i ≤ 1050624) ∧ ((0 = (Ff 425 [xI x0, xI x1, xI x2, xI x3]).i ∧ -1050624 ≤ (Ff 425 [xI x0, xI x1, xI x2, xI x3]).i ∧ (Ff 425 [xI x0, xI x1, xI x2, xI x3]).i ≤ 1050624) ∧ ((0 = (Ff 426 [xI x0, xI x1, xI x2, xI x3]).i ∧ -1050624 ≤ (Ff 426 [xI x0, xI x1, xI x2, xI x3]).i ∧ (Ff 426 [xI x0, xI x1, xI x2, xI x3]).i ≤ 1050624) ∧ (0 = (Ff 427 [xI x0, xI x1, xI x2, xI x3]).i ∧ -1050624 ≤ (Ff 427 [xI x0, xI x1, xI x2, xI x3]).i ∧ (Ff 427 [xI x0, xI x1, xI x2, xI x3]).i ≤ 1050624)))))))
  ∧
   (((1 ≤ x3) ∧ (x3 ≤ 4096)) →
    ((((0 - (x3 / 2)) + x0) = (Ff 422 [xI x0, xI x1, xI x2, xI x3]).i ∧ -1050624 ≤ (Ff 422 [xI x0, xI x1, xI x2, xI x3]).i ∧ (Ff 422 [xI x0, xI x1, xI x2, xI x3]).i ≤ 1050624) ∧ ((((0 - (x3 / 2)) + x1) = (Ff 423 [xI x0, xI x1, xI x2, xI x3]).i ∧ -1050624 ≤ (Ff 423 [xI x0, xI x1, xI x2, xI x3]).i ∧ (Ff 423 [xI x0, xI x1, xI x2, xI x3]).i ≤ 1050624) ∧ ((((0 - (x3 / 2)) + x2) = (Ff 424 [xI x0, xI x1, xI x2, xI x3]).i ∧ -1050624 ≤ (Ff 424 [xI x0, xI x1, xI x2, xI x3]).i ∧ (Ff 424 [xI x0, xI x1, xI x2, xI x3]).i ≤ 1050624) ∧ (((((x3 / 2) + 1) + x0) = (Ff 425 [xI x0, xI x1, xI x2, xI x3]).i ∧ -1050624 ≤ (Ff 425 [xI x0, xI x1, xI x2, xI x3]).i ∧ (Ff 425 [xI x0, xI x1, xI x2, xI x3]).i ≤ 1050624) ∧ (((((x3 / 2) + 1) + x1) = (Ff 426 [xI x0, xI x1, xI x2, xI x3]).i ∧ -1050624 ≤ (Ff 426 [xI x0, xI x1, xI x2, xI x3]).i ∧ (Ff 426 [xI x0, xI x1, xI x2, xI x3]).i ≤ 1050624) ∧ ((((x3 / 2) + 1) + x2) = (Ff 427 [xI x0, xI x1, xI x2, xI x3]).i ∧ -1050624 ≤ (Ff 427 [xI x0, xI x1, xI x2, xI x3]).i ∧ (Ff 427 [xI x0, xI x1, xI x2, xI x3]).i ≤ 1050624))))))))
theorem BBoxL (x0 : Int) (x1 : Int) (x2 : Int) (x3 : Int) : ((walkF Tryd.prog (cf0 []) Tryd.f23 3000 (shS cBBox.args 0)).ctr { ρ0 with x := fun j => [xI x0, xI x1, xI x2, xI x3].getD j (xI 0) } (fun j => Ff j [xI x0, xI x1, xI x2, xI x3]) cBBox.fs cBBox.res) = BBoxP x0 x1 x2 x3 := by kernel_rfl
set_option maxHeartbeats 1000000 in
theorem BBoxO (x0 : Int) (x1 : Int) (x2 : Int) (x3 : Int) (h0 : -1048575 ≤ x0 ∧ x0 ≤ 1048575) (h1 : -1048575 ≤ x1 ∧ x1 ≤ 1048575) (h2 : -1048575 ≤ x2 ∧ x2 ≤ 1048575) (h3 : -9223372036854775808 ≤ x3 ∧ x3 ≤ 9223372036854775807) : BBoxP x0 x1 x2 x3 := by
  unfold BBoxP
  simp only [F422, F423, F424, F425, F426, F427, xI_i]
  unfold ballX
  by_cases h : isSz x3
  · simp only [if_pos h]
    unfold isSz at h
    refine ⟨fun g => absurd h g, fun _ => ?_⟩
    (repeat' apply And.intro) <;> first | trivial | omega
  · simp only [if_neg h]
    unfold isSz at h
    refine ⟨fun g => ?_, fun g => absurd g h⟩
    (repeat' apply And.intro) <;> first | trivial | omega
theorem kBBox : CtrOk Tryd.prog ρ0 cBBox := by
  refine ctr_of (cf := cf0 []) (cf0_ok keep0) Tryd.func23 rfl 3000 fun ds hr => ?_
  match ds, hr with
  | [d0, d1, d2, d3], hr =>
    obtain ⟨⟨⟨e0, l0, u0⟩, ⟨e1, l1, u1⟩, ⟨e2, l2, u2⟩, _⟩, ⟨⟨e3, l3, u3⟩, _⟩, _⟩ := hr
    generalize d0.i = x0 at *
    generalize d1.i = x1 at *
    generalize d2.i = x2 at *
    generalize d3.i = x3 at *
    subst e0 e1 e2 e3
    exact Eq.mpr (BBoxL x0 x1 x2 x3) (BBoxO x0 x1 x2 x3 ⟨l0, u0⟩ ⟨l1, u1⟩ ⟨l2, u2⟩ ⟨l3, u3⟩)
theorem nBBox : ∃ fn, Tryd.prog.funcs[cBBox.f]? = some fn ∧ fn.body.isSome = true ∧ (fn.name == "runtime.NumGoroutine") = false := ⟨_, Tryd.func23, by kernel_rfl, by kernel_rfl⟩

/-- What is left of the contract of voxelref19.BallBox. -/
def BBoxRP (x0 : Int) (x1 : Int) (x2 : Int) (x3 : Int) : Prop :=
  (
   ((¬ ((1 ≤ x3) ∧ (x3 ≤ 4096))) →
    ((0 = (Ff 422 [xI x0, xI x1, xI x2, xI x3]).i ∧ -1050624 ≤ (Ff 422 [xI x0, xI x1, xI x2, xI x3]).i ∧ (Ff 422 [xI x0, xI x1, xI x2, xI x3]).i ≤ 1050624) ∧ ((0 = (Ff 423 [xI x0, xI x1, xI x2, xI x3]).i ∧ -1050624 ≤ (Ff 423 [xI x0, xI x1, xI x2, xI x3]).i ∧ (Ff 423 [xI x0, xI x1, xI x2, xI x3]).i ≤ 1050624) ∧ ((0 = (Ff 424 [xI x0, xI x1, xI x2, xI x3]).i ∧ -1050624 ≤ (Ff 424 [xI x0, xI x1, xI x2, xI x3]).i ∧ (Ff 424 [xI x0, xI x1, xI x2, xI x3]).i ≤ 1050624) ∧ ((0 = (Ff 425 [xI x0, xI x1, xI x2, xI x3]).i ∧ -1050624 ≤ (Ff 425 [xI x0, xI x1, xI x2, xI x3]).i ∧ (Ff 425 [xI x0, xI x1, xI x2, xI x3]).i ≤ 1050624) ∧ ((0 = (Ff 426 [xI x0, xI x1, xI x2, xI x3]).i ∧ -1050624 ≤ (Ff 426 [xI x0, xI x1, xI x2, xI x3]).i ∧ (Ff 426 [xI x0, xI x1, xI x2, xI x3]).i ≤ 1050624) ∧ (0 = (Ff 427 [xI x0, xI x1, xI x2, xI x3]).i ∧ -1050624 ≤ (Ff 427 [xI x0, xI x1, xI x2, xI x3]).i ∧ (Ff 427 [xI x0, xI x1, xI x2, xI x3]).i ≤ 1050624)))))))
  ∧
   (((1 ≤ x3) ∧ (x3 ≤ 4096)) →
    (((x0 - (x3 / 2)) = (Ff 422 [xI x0, xI x1, xI x2, xI x3]).i ∧ -1050624 ≤ (Ff 422 [xI x0, xI x1, xI x2, xI x3]).i ∧ (Ff 422 [xI x0, xI x1, xI x2, xI x3]).i ≤ 1050624) ∧ (((x1 - (x3 / 2)) = (Ff 423 [xI x0, xI x1, xI x2, xI x3]).i ∧ -1050624 ≤ (Ff 423 [xI x0, xI x1, xI x2, xI x3]).i ∧ (Ff 423 [xI x0, xI x1, xI x2, xI x3]).i ≤ 1050624) ∧ (((x2 - (x3 / 2)) = (Ff 424 [xI x0, xI x1, xI x2, xI x3]).i ∧ -1050624 ≤ (Ff 424 [xI x0, xI x1, xI x2, xI x3]).i ∧ (Ff 424 [xI x0, xI x1, xI x2, xI x3]).i ≤ 1050624) ∧ (((x0 + ((x3 / 2) + 1)) = (Ff 425 [xI x0, xI x1, xI x2, xI x3]).i ∧ -1050624 ≤ (Ff 425 [xI x0, xI x1, xI x2, xI x3]).i ∧ (Ff 425 [xI x0, xI x1, xI x2, xI x3]).i ≤ 1050624) ∧ (((x1 + ((x3 / 2) + 1)) = (Ff 426 [xI x0, xI x1, xI x2, xI x3]).i ∧ -1050624 ≤ (Ff 426 [xI x0, xI x1, xI x2, xI x3]).i ∧ (Ff 426 [xI x0, xI x1, xI x2, xI x3]).i ≤ 1050624) ∧ ((x2 + ((x3 / 2) + 1)) = (Ff 427 [xI x0, xI x1, xI x2, xI x3]).i ∧ -1050624 ≤ (Ff 427 [xI x0, xI x1, xI x2, xI x3]).i ∧ (Ff 427 [xI x0, xI x1, xI x2, xI x3]).i ≤ 1050624))))))))
theorem BBoxRL (x0 : Int) (x1 : Int) (x2 : Int) (x3 : Int) : ((walkF Tryd.prog (cf0 []) Tryd.f24 3000 (shS cBBoxR.args 0)).ctr { ρ0 with x := fun j => [xI x0, xI x1, xI x2, xI x3].getD j (xI 0) } (fun j => Ff j [xI x0, xI x1, xI x2, xI x3]) cBBoxR.fs cBBoxR.res) = BBoxRP x0 x1 x2 x3 := by kernel_rfl
set_option maxHeartbeats 1000000 in
theorem BBoxRO (x0 : Int) (x1 : Int) (x2 : Int) (x3 : Int) (h0 : -1048575 ≤ x0 ∧ x0 ≤ 1048575) (h1 : -1048575 ≤ x1 ∧ x1 ≤ 1048575) (h2 : -1048575 ≤ x2 ∧ x2 ≤ 1048575) (h3 : -9223372036854775808 ≤ x3 ∧ x3 ≤ 9223372036854775807) : BBoxRP x0 x1 x2 x3 := by
  unfold BBoxRP
  simp only [F422, F423, F424, F425, F426, F427, xI_i]
  unfold ballX
  by_cases h : isSz x3
  · simp only [if_pos h]
    unfold isSz at h
    refine ⟨fun g => absurd h g, fun _ => ?_⟩
    (repeat' apply And.intro) <;> first | trivial | omega
  · simp only [if_neg h]
    unfold isSz at h
    refine ⟨fun g => ?_, fun g => absurd g h⟩
    (repeat' apply And.intro) <;> first | trivial | omega
theorem kBBoxR : CtrOk Tryd.prog ρ0 cBBoxR := by
  refine ctr_of (cf := cf0 []) (cf0_ok keep0) Tryd.func24 rfl 3000 fun ds hr => ?_
  match ds, hr with
  | [d0, d1, d2, d3], hr =>
    obtain ⟨⟨⟨e0, l0, u0⟩, ⟨e1, l1, u1⟩, ⟨e2, l2, u2⟩, _⟩, ⟨⟨e3, l3, u3⟩, _⟩, _⟩ := hr
    generalize d0.i = x0 at *
    generalize d1.i = x1 at *
    generalize d2.i = x2 at *
    generalize d3.i = x3 at *
    subst e0 e1 e2 e3
    exact Eq.mpr (BBoxRL x0 x1 x2 x3) (BBoxRO x0 x1 x2 x3 ⟨l0, u0⟩ ⟨l1, u1⟩ ⟨l2, u2⟩ ⟨l3, u3⟩)
theorem nBBoxR : ∃ fn, Tryd.prog.funcs[cBBoxR.f]? = some fn ∧ fn.body.isSome = true ∧ (fn.name == "runtime.NumGoroutine") = false := ⟨_, Tryd.func24, by kernel_rfl, by kernel_rfl⟩

/-- What is left of the contract of brush.InBall. -/
def IBallP (x0 : Int) (x1 : Int) (x2 : Int) (x3 : Int) (x4 : Int) (x5 : Int) (x6 : Int) : Prop :=
  ((((1 ≤ x3) ∧ (x3 ≤ 4096)) ∧ ((4 * ((((x4 + ((-1) * x0)) * (x4 + ((-1) * x0))) + ((x5 + ((-1) * x1)) * (x5 + ((-1) * x1)))) + ((x6 + ((-1) * x2)) * (x6 + ((-1) * x2))))) ≤ (IntKind.wrap Go.IntKind.i64 (x3 * x3)))) ↔ (Ff 420 [xI x0, xI x1, xI x2, xI x3, xI x4, xI x5, xI x6]).b = true)
theorem IBallL (x0 : Int) (x1 : Int) (x2 : Int) (x3 : Int) (x4 : Int) (x5 : Int) (x6 : Int) : ((walkF Tryd.prog (cf0 []) Tryd.f19 3000 (shS cIBall.args 0)).ctr { ρ0 with x := fun j => [xI x0, xI x1, xI x2, xI x3, xI x4, xI x5, xI x6].getD j (xI 0) } (fun j => Ff j [xI x0, xI x1, xI x2, xI x3, xI x4, xI x5, xI x6]) cIBall.fs cIBall.res) = IBallP x0 x1 x2 x3 x4 x5 x6 := by kernel_rfl
set_option maxHeartbeats 1000000 in
theorem IBallO (x0 : Int) (x1 : Int) (x2 : Int) (x3 : Int) (x4 : Int) (x5 : Int) (x6 : Int) (h0 : -1048576 ≤ x0 ∧ x0 ≤ 1048576) (h1 : -1048576 ≤ x1 ∧ x1 ≤ 1048576) (h2 : -1048576 ≤ x2 ∧ x2 ≤ 1048576) (h3 : -9223372036854775808 ≤ x3 ∧ x3 ≤ 9223372036854775807) (h4 : -1048576 ≤ x4 ∧ x4 ≤ 1048576) (h5 : -1048576 ≤ x5 ∧ x5 ≤ 1048576) (h6 : -1048576 ≤ x6 ∧ x6 ≤ 1048576) : IBallP x0 x1 x2 x3 x4 x5 x6 := by
  unfold IBallP
  rw [F420]
  show _ ↔ (decide (isSz x3) && ballB x0 x1 x2 x3 (x4, x5, x6)) = true
  rw [Bool.and_eq_true, decide_eq_true_eq]
  unfold ballB
  rw [decide_eq_true_eq]
  refine and_congr_right fun h => ?_
  have h1 : 0 ≤ x3 * x3 := Int.mul_nonneg (by omega) (by omega)
  have h2 : x3 * x3 ≤ 4096 * 4096 := Int.mul_le_mul h.2 h.2 (by omega) (by omega)
  rw [wrap_fits (by simp only [kmin, kmax]; omega)]
  have e : ∀ a b : Int, a + (-1) * b = a - b := fun a b => by omega
  rw [e, e, e]
theorem kIBall : CtrOk Tryd.prog ρ0 cIBall := by
  refine ctr_of (cf := cf0 []) (cf0_ok keep0) Tryd.func19 rfl 3000 fun ds hr => ?_
  match ds, hr with
  | [d0, d1, d2, d3, d4, d5, d6], hr =>
    obtain ⟨⟨⟨e0, l0, u0⟩, ⟨e1, l1, u1⟩, ⟨e2, l2, u2⟩, _⟩, ⟨⟨e3, l3, u3⟩, _⟩, ⟨⟨e4, l4, u4⟩, ⟨e5, l5, u5⟩, ⟨e6, l6, u6⟩, _⟩, _⟩ := hr
    generalize d0.i = x0 at *
    generalize d1.i = x1 at *
    generalize d2.i = x2 at *
    generalize d3.i = x3 at *
    generalize d4.i = x4 at *
    generalize d5.i = x5 at *
    generalize d6.i = x6 at *
    subst e0 e1 e2 e3 e4 e5 e6
    exact Eq.mpr (IBallL x0 x1 x2 x3 x4 x5 x6) (IBallO x0 x1 x2 x3 x4 x5 x6 ⟨l0, u0⟩ ⟨l1, u1⟩ ⟨l2, u2⟩ ⟨l3, u3⟩ ⟨l4, u4⟩ ⟨l5, u5⟩ ⟨l6, u6⟩)
theorem nIBall : ∃ fn, Tryd.prog.funcs[cIBall.f]? = some fn ∧ fn.body.isSome = true ∧ (fn.name == "runtime.NumGoroutine") = false := ⟨_, Tryd.func19, by kernel_rfl, by kernel_rfl⟩

/-- What is left of the contract of voxelref19.InBall. -/
def IBallRP (x0 : Int) (x1 : Int) (x2 : Int) (x3 : Int) (x4 : Int) (x5 : Int) (x6 : Int) : Prop :=
  (
   ((¬ ((1 ≤ x3) ∧ (x3 ≤ 4096))) →
    ((false = true) ↔ (Ff 420 [xI x0, xI x1, xI x2, xI x3, xI x4, xI x5, xI x6]).b = true))
  ∧
   (((1 ≤ x3) ∧ (x3 ≤ 4096)) →
    (((4 * ((((x4 - x0) * (x4 - x0)) + ((x5 - x1) * (x5 - x1))) + ((x6 - x2) * (x6 - x2)))) ≤ (x3 * x3)) ↔ (Ff 420 [xI x0, xI x1, xI x2, xI x3, xI x4, xI x5, xI x6]).b = true)))
theorem IBallRL (x0 : Int) (x1 : Int) (x2 : Int) (x3 : Int) (x4 : Int) (x5 : Int) (x6 : Int) : ((walkF Tryd.prog (cf0 []) Tryd.f20 3000 (shS cIBallR.args 0)).ctr { ρ0 with x := fun j => [xI x0, xI x1, xI x2, xI x3, xI x4, xI x5, xI x6].getD j (xI 0) } (fun j => Ff j [xI x0, xI x1, xI x2, xI x3, xI x4, xI x5, xI x6]) cIBallR.fs cIBallR.res) = IBallRP x0 x1 x2 x3 x4 x5 x6 := by kernel_rfl
set_option maxHeartbeats 1000000 in
theorem IBallRO (x0 : Int) (x1 : Int) (x2 : Int) (x3 : Int) (x4 : Int) (x5 : Int) (x6 : Int) (h0 : -1048576 ≤ x0 ∧ x0 ≤ 1048576) (h1 : -1048576 ≤ x1 ∧ x1 ≤ 1048576) (h2 : -1048576 ≤ x2 ∧ x2 ≤ 1048576) (h3 : -9223372036854775808 ≤ x3 ∧ x3 ≤ 9223372036854775807) (h4 : -1048576 ≤ x4 ∧ x4 ≤ 1048576) (h5 : -1048576 ≤ x5 ∧ x5 ≤ 1048576) (h6 : -1048576 ≤ x6 ∧ x6 ≤ 1048576) : IBallRP x0 x1 x2 x3 x4 x5 x6 := by
  unfold IBallRP
  rw [F420]
  show _ ∧ (_ → (_ ↔ (decide (isSz x3) && ballB x0 x1 x2 x3 (x4, x5, x6)) = true))
  unfold ballB isSz
  refine ⟨fun g => ?_, fun g => ?_⟩
  · show _ ↔ (decide (isSz x3) && _) = true
    rw [decide_eq_false (show ¬ isSz x3 from g)]
    simp
  · rw [decide_eq_true g, Bool.true_and, decide_eq_true_eq]
theorem kIBallR : CtrOk Tryd.prog ρ0 cIBallR := by
  refine ctr_of (cf := cf0 []) (cf0_ok keep0) Tryd.func20 rfl 3000 fun ds hr => ?_
  match ds, hr with
  | [d0, d1, d2, d3, d4, d5, d6], hr =>
    obtain ⟨⟨⟨e0, l0, u0⟩, ⟨e1, l1, u1⟩, ⟨e2, l2, u2⟩, _⟩, ⟨⟨e3, l3, u3⟩, _⟩, ⟨⟨e4, l4, u4⟩, ⟨e5, l5, u5⟩, ⟨e6, l6, u6⟩, _⟩, _⟩ := hr
    generalize d0.i = x0 at *
    generalize d1.i = x1 at *
    generalize d2.i = x2 at *
    generalize d3.i = x3 at *
    generalize d4.i = x4 at *
    generalize d5.i = x5 at *
    generalize d6.i = x6 at *
    subst e0 e1 e2 e3 e4 e5 e6
    exact Eq.mpr (IBallRL x0 x1 x2 x3 x4 x5 x6) (IBallRO x0 x1 x2 x3 x4 x5 x6 ⟨l0, u0⟩ ⟨l1, u1⟩ ⟨l2, u2⟩ ⟨l3, u3⟩ ⟨l4, u4⟩ ⟨l5, u5⟩ ⟨l6, u6⟩)
theorem nIBallR : ∃ fn, Tryd.prog.funcs[cIBallR.f]? = some fn ∧ fn.body.isSome = true ∧ (fn.name == "runtime.NumGoroutine") = false := ⟨_, Tryd.func20, by kernel_rfl, by kernel_rfl⟩
end Vc
end Go.Proofs.YtipcadjfhndcnaaDoor
