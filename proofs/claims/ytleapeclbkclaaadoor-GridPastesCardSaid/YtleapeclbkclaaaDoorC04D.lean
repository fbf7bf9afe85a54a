/- Contracts of functions, each out of one walk. -/
import Derived.Test.YtleapeclbkclaaaDoorC04C
namespace Go.Proofs.YtleapeclbkclaaaDoor
namespace Vc
open Go Go.RowKit
set_option linter.unusedVariables false

/-- What is left of the contract of point.Empty. -/
def EmptyP (x0 : Int) (x1 : Int) (x2 : Int) (x3 : Int) (x4 : Int) (x5 : Int) : Prop :=
  ((¬ ((((((x0 ≤ x0) ∧ (x0 < x3)) ∧ (x1 ≤ x1)) ∧ (x1 < x4)) ∧ (x2 ≤ x2)) ∧ (x2 < x5))) ↔ (Ff 200 [xI x0, xI x1, xI x2, xI x3, xI x4, xI x5]).b = true)
theorem EmptyL (x0 : Int) (x1 : Int) (x2 : Int) (x3 : Int) (x4 : Int) (x5 : Int) : ((walkF Tryd.prog (cf0 []) Tryd.f47 3000 (shS cEmpty.args 0)).ctr { ρ0 with x := fun j => [xI x0, xI x1, xI x2, xI x3, xI x4, xI x5].getD j (xI 0) } (fun j => Ff j [xI x0, xI x1, xI x2, xI x3, xI x4, xI x5]) cEmpty.fs cEmpty.res) = EmptyP x0 x1 x2 x3 x4 x5 := by kernel_rfl
set_option maxHeartbeats 1000000 in
theorem EmptyO (x0 : Int) (x1 : Int) (x2 : Int) (x3 : Int) (x4 : Int) (x5 : Int) (h0 : -1048575 ≤ x0 ∧ x0 ≤ 1048575) (h1 : -1048575 ≤ x1 ∧ x1 ≤ 1048575) (h2 : -1048575 ≤ x2 ∧ x2 ≤ 1048575) (h3 : -1048575 ≤ x3 ∧ x3 ≤ 1048575) (h4 : -1048575 ≤ x4 ∧ x4 ≤ 1048575) (h5 : -1048575 ≤ x5 ∧ x5 ≤ 1048575) : EmptyP x0 x1 x2 x3 x4 x5 := by
  unfold EmptyP
  rw [F200]
  show _ ↔ (!decide (neB x0 x1 x2 x3 x4 x5)) = true
  rw [notB, decide_eq_true_eq]
  unfold neB
  omega
theorem kEmpty : CtrOk Tryd.prog ρ0 cEmpty := by
  refine ctr_of (cf := cf0 []) (cf0_ok keep0) Tryd.func47 rfl 3000 fun ds hr => ?_
  match ds, hr with
  | [d0, d1, d2, d3, d4, d5], hr =>
    obtain ⟨⟨⟨e0, l0, u0⟩, ⟨e1, l1, u1⟩, ⟨e2, l2, u2⟩, ⟨e3, l3, u3⟩, ⟨e4, l4, u4⟩, ⟨e5, l5, u5⟩, _⟩, _⟩ := hr
    generalize d0.i = x0 at *
    generalize d1.i = x1 at *
    generalize d2.i = x2 at *
    generalize d3.i = x3 at *
    generalize d4.i = x4 at *
    generalize d5.i = x5 at *
    subst e0 e1 e2 e3 e4 e5
    exact Eq.mpr (EmptyL x0 x1 x2 x3 x4 x5) (EmptyO x0 x1 x2 x3 x4 x5 ⟨l0, u0⟩ ⟨l1, u1⟩ ⟨l2, u2⟩ ⟨l3, u3⟩ ⟨l4, u4⟩ ⟨l5, u5⟩)
theorem nEmpty : ∃ fn, Tryd.prog.funcs[cEmpty.f]? = some fn ∧ fn.body.isSome = true ∧ (fn.name == "runtime.NumGoroutine") = false := ⟨_, Tryd.func47, by kernel_rfl, by kernel_rfl⟩

/-- What is left of the contract of voxelref04.Empty. -/
def EmptyRP (x0 : Int) (x1 : Int) (x2 : Int) (x3 : Int) (x4 : Int) (x5 : Int) : Prop :=
  ((((x3 ≤ x0) ∨ (x4 ≤ x1)) ∨ (x5 ≤ x2)) ↔ (Ff 200 [xI x0, xI x1, xI x2, xI x3, xI x4, xI x5]).b = true)
theorem EmptyRL (x0 : Int) (x1 : Int) (x2 : Int) (x3 : Int) (x4 : Int) (x5 : Int) : ((walkF Tryd.prog (cf0 []) Tryd.f78 3000 (shS cEmptyR.args 0)).ctr { ρ0 with x := fun j => [xI x0, xI x1, xI x2, xI x3, xI x4, xI x5].getD j (xI 0) } (fun j => Ff j [xI x0, xI x1, xI x2, xI x3, xI x4, xI x5]) cEmptyR.fs cEmptyR.res) = EmptyRP x0 x1 x2 x3 x4 x5 := by kernel_rfl
set_option maxHeartbeats 1000000 in
theorem EmptyRO (x0 : Int) (x1 : Int) (x2 : Int) (x3 : Int) (x4 : Int) (x5 : Int) (h0 : -1048575 ≤ x0 ∧ x0 ≤ 1048575) (h1 : -1048575 ≤ x1 ∧ x1 ≤ 1048575) (h2 : -1048575 ≤ x2 ∧ x2 ≤ 1048575) (h3 : -1048575 ≤ x3 ∧ x3 ≤ 1048575) (h4 : -1048575 ≤ x4 ∧ x4 ≤ 1048575) (h5 : -1048575 ≤ x5 ∧ x5 ≤ 1048575) : EmptyRP x0 x1 x2 x3 x4 x5 := by
  unfold EmptyRP
  rw [F200]
  show _ ↔ (!decide (neB x0 x1 x2 x3 x4 x5)) = true
  rw [notB, decide_eq_true_eq]
  unfold neB
  omega
theorem kEmptyR : CtrOk Tryd.prog ρ0 cEmptyR := by
  refine ctr_of (cf := cf0 []) (cf0_ok keep0) Tryd.func78 rfl 3000 fun ds hr => ?_
  match ds, hr with
  | [d0, d1, d2, d3, d4, d5], hr =>
    obtain ⟨⟨⟨e0, l0, u0⟩, ⟨e1, l1, u1⟩, ⟨e2, l2, u2⟩, ⟨e3, l3, u3⟩, ⟨e4, l4, u4⟩, ⟨e5, l5, u5⟩, _⟩, _⟩ := hr
    generalize d0.i = x0 at *
    generalize d1.i = x1 at *
    generalize d2.i = x2 at *
    generalize d3.i = x3 at *
    generalize d4.i = x4 at *
    generalize d5.i = x5 at *
    subst e0 e1 e2 e3 e4 e5
    exact Eq.mpr (EmptyRL x0 x1 x2 x3 x4 x5) (EmptyRO x0 x1 x2 x3 x4 x5 ⟨l0, u0⟩ ⟨l1, u1⟩ ⟨l2, u2⟩ ⟨l3, u3⟩ ⟨l4, u4⟩ ⟨l5, u5⟩)
theorem nEmptyR : ∃ fn, Tryd.prog.funcs[cEmptyR.f]? = some fn ∧ fn.body.isSome = true ∧ (fn.name == "runtime.NumGoroutine") = false := ⟨_, Tryd.func78, by kernel_rfl, by kernel_rfl⟩

/-- What is left of the contract of point.In. -/
def InP (x0 : Int) (x1 : Int) (x2 : Int) (x3 : Int) (x4 : Int) (x5 : Int) (x6 : Int) (x7 : Int) (x8 : Int) : Prop :=
  (((((((x3 ≤ x0) ∧ (x0 < x6)) ∧ (x4 ≤ x1)) ∧ (x1 < x7)) ∧ (x5 ≤ x2)) ∧ (x2 < x8)) ↔ (Ff 201 [xI x0, xI x1, xI x2, xI x3, xI x4, xI x5, xI x6, xI x7, xI x8]).b = true)
theorem InL (x0 : Int) (x1 : Int) (x2 : Int) (x3 : Int) (x4 : Int) (x5 : Int) (x6 : Int) (x7 : Int) (x8 : Int) : ((walkF Tryd.prog (cf0 []) Tryd.f81 3000 (shS cIn.args 0)).ctr { ρ0 with x := fun j => [xI x0, xI x1, xI x2, xI x3, xI x4, xI x5, xI x6, xI x7, xI x8].getD j (xI 0) } (fun j => Ff j [xI x0, xI x1, xI x2, xI x3, xI x4, xI x5, xI x6, xI x7, xI x8]) cIn.fs cIn.res) = InP x0 x1 x2 x3 x4 x5 x6 x7 x8 := by kernel_rfl
set_option maxHeartbeats 1000000 in
theorem InO (x0 : Int) (x1 : Int) (x2 : Int) (x3 : Int) (x4 : Int) (x5 : Int) (x6 : Int) (x7 : Int) (x8 : Int) (h0 : -1048576 ≤ x0 ∧ x0 ≤ 1048576) (h1 : -1048576 ≤ x1 ∧ x1 ≤ 1048576) (h2 : -1048576 ≤ x2 ∧ x2 ≤ 1048576) (h3 : -1048575 ≤ x3 ∧ x3 ≤ 1048575) (h4 : -1048575 ≤ x4 ∧ x4 ≤ 1048575) (h5 : -1048575 ≤ x5 ∧ x5 ≤ 1048575) (h6 : -1048575 ≤ x6 ∧ x6 ≤ 1048575) (h7 : -1048575 ≤ x7 ∧ x7 ≤ 1048575) (h8 : -1048575 ≤ x8 ∧ x8 ≤ 1048575) : InP x0 x1 x2 x3 x4 x5 x6 x7 x8 := by
  unfold InP
  rw [F201]
  show _ ↔ (decide (inB x0 x1 x2 x3 x4 x5 x6 x7 x8)) = true
  rw [decide_eq_true_eq]
  unfold inB
  omega
theorem kIn : CtrOk Tryd.prog ρ0 cIn := by
  refine ctr_of (cf := cf0 []) (cf0_ok keep0) Tryd.func81 rfl 3000 fun ds hr => ?_
  match ds, hr with
  | [d0, d1, d2, d3, d4, d5, d6, d7, d8], hr =>
    obtain ⟨⟨⟨e0, l0, u0⟩, ⟨e1, l1, u1⟩, ⟨e2, l2, u2⟩, _⟩, ⟨⟨e3, l3, u3⟩, ⟨e4, l4, u4⟩, ⟨e5, l5, u5⟩, ⟨e6, l6, u6⟩, ⟨e7, l7, u7⟩, ⟨e8, l8, u8⟩, _⟩, _⟩ := hr
    generalize d0.i = x0 at *
    generalize d1.i = x1 at *
    generalize d2.i = x2 at *
    generalize d3.i = x3 at *
    generalize d4.i = x4 at *
    generalize d5.i = x5 at *
    generalize d6.i = x6 at *
    generalize d7.i = x7 at *
    generalize d8.i = x8 at *
    subst e0 e1 e2 e3 e4 e5 e6 e7 e8
    exact Eq.mpr (InL x0 x1 x2 x3 x4 x5 x6 x7 x8) (InO x0 x1 x2 x3 x4 x5 x6 x7 x8 ⟨l0, u0⟩ ⟨l1, u1⟩ ⟨l2, u2⟩ ⟨l3, u3⟩ ⟨l4, u4⟩ ⟨l5, u5⟩ ⟨l6, u6⟩ ⟨l7, u7⟩ ⟨l8, u8⟩)
theorem nIn : ∃ fn, Tryd.prog.funcs[cIn.f]? = some fn ∧ fn.body.isSome = true ∧ (fn.name == "runtime.NumGoroutine") = false := ⟨_, Tryd.func81, by kernel_rfl, by kernel_rfl⟩

/-- What is left of the contract of voxelref04.In. -/
def InRP (x0 : Int) (x1 : Int) (x2 : Int) (x3 : Int) (x4 : Int) (x5 : Int) (x6 : Int) (x7 : Int) (x8 : Int) : Prop :=
  (((((x3 ≤ x0) ∧ (x0 < x6)) ∧ ((x4 ≤ x1) ∧ (x1 < x7))) ∧ ((x5 ≤ x2) ∧ (x2 < x8))) ↔ (Ff 201 [xI x0, xI x1, xI x2, xI x3, xI x4, xI x5, xI x6, xI x7, xI x8]).b = true)
theorem InRL (x0 : Int) (x1 : Int) (x2 : Int) (x3 : Int) (x4 : Int) (x5 : Int) (x6 : Int) (x7 : Int) (x8 : Int) : ((walkF Tryd.prog (cf0 []) Tryd.f23 3000 (shS cInR.args 0)).ctr { ρ0 with x := fun j => [xI x0, xI x1, xI x2, xI x3, xI x4, xI x5, xI x6, xI x7, xI x8].getD j (xI 0) } (fun j => Ff j [xI x0, xI x1, xI x2, xI x3, xI x4, xI x5, xI x6, xI x7, xI x8]) cInR.fs cInR.res) = InRP x0 x1 x2 x3 x4 x5 x6 x7 x8 := by kernel_rfl
set_option maxHeartbeats 1000000 in
theorem InRO (x0 : Int) (x1 : Int) (x2 : Int) (x3 : Int) (x4 : Int) (x5 : Int) (x6 : Int) (x7 : Int) (x8 : Int) (h0 : -1048576 ≤ x0 ∧ x0 ≤ 1048576) (h1 : -1048576 ≤ x1 ∧ x1 ≤ 1048576) (h2 : -1048576 ≤ x2 ∧ x2 ≤ 1048576) (h3 : -1048575 ≤ x3 ∧ x3 ≤ 1048575) (h4 : -1048575 ≤ x4 ∧ x4 ≤ 1048575) (h5 : -1048575 ≤ x5 ∧ x5 ≤ 1048575) (h6 : -1048575 ≤ x6 ∧ x6 ≤ 1048575) (h7 : -1048575 ≤ x7 ∧ x7 ≤ 1048575) (h8 : -1048575 ≤ x8 ∧ x8 ≤ 1048575) : InRP x0 x1 x2 x3 x4 x5 x6 x7 x8 := by
  unfold InRP
  rw [F201]
  show _ ↔ (decide (inB x0 x1 x2 x3 x4 x5 x6 x7 x8)) = true
  rw [decide_eq_true_eq]
  unfold inB
  omega
theorem kInR : CtrOk Tryd.prog ρ0 cInR := by
  refine ctr_of (cf := cf0 []) (cf0_ok keep0) Tryd.func23 rfl 3000 fun ds hr => ?_
  match ds, hr with
  | [d0, d1, d2, d3, d4, d5, d6, d7, d8], hr =>
    obtain ⟨⟨⟨e0, l0, u0⟩, ⟨e1, l1, u1⟩, ⟨e2, l2, u2⟩, _⟩, ⟨⟨e3, l3, u3⟩, ⟨e4, l4, u4⟩, ⟨e5, l5, u5⟩, ⟨e6, l6, u6⟩, ⟨e7, l7, u7⟩, ⟨e8, l8, u8⟩, _⟩, _⟩ := hr
    generalize d0.i = x0 at *
    generalize d1.i = x1 at *
    generalize d2.i = x2 at *
    generalize d3.i = x3 at *
    generalize d4.i = x4 at *
    generalize d5.i = x5 at *
    generalize d6.i = x6 at *
    generalize d7.i = x7 at *
    generalize d8.i = x8 at *
    subst e0 e1 e2 e3 e4 e5 e6 e7 e8
    exact Eq.mpr (InRL x0 x1 x2 x3 x4 x5 x6 x7 x8) (InRO x0 x1 x2 x3 x4 x5 x6 x7 x8 ⟨l0, u0⟩ ⟨l1, u1⟩ ⟨l2, u2⟩ ⟨l3, u3⟩ ⟨l4, u4⟩ ⟨l5, u5⟩ ⟨l6, u6⟩ ⟨l7, u7⟩ ⟨l8, u8⟩)
theorem nInR : ∃ fn, Tryd.prog.funcs[cInR.f]? = some fn ∧ fn.body.isSome = true ∧ (fn.name == "runtime.NumGoroutine") = false := ⟨_, Tryd.func23, by kernel_rfl, by kernel_rfl⟩

/-- What is left of the contract of point.Size. -/
def SizeP (x0 : Int) (x1 : Int) (x2 : Int) (x3 : Int) (x4 : Int) (x5 : Int) : Prop :=
  (
   ((¬ ((((((x0 ≤ x0) ∧ (x0 < x3)) ∧ (x1 ≤ x1)) ∧ (x1 < x4)) ∧ (x2 ≤ x2)) ∧ (x2 < x5))) →
    ((0 = (Ff 205 [xI x0, xI x1, xI x2, xI x3, xI x4, xI x5]).i ∧ 0 ≤ (Ff 205 [xI x0, xI x1, xI x2, xI x3, xI x4, xI x5]).i ∧ (Ff 205 [xI x0, xI x1, xI x2, xI x3, xI x4, xI x5]).i ≤ 2097150) ∧ ((0 = (Ff 206 [xI x0, xI x1, xI x2, xI x3, xI x4, xI x5]).i ∧ 0 ≤ (Ff 206 [xI x0, xI x1, xI x2, xI x3, xI x4, xI x5]).i ∧ (Ff 206 [xI x0, xI x1, xI x2, xI x3, xI x4, xI x5]).i ≤ 2097150) ∧ (0 = (Ff 207 [xI x0, xI x1, xI x2, xI x3, xI x4, xI x5]).i ∧ 0 ≤ (Ff 207 [xI x0, xI x1, xI x2, xI x3, xI x4, xI x5]).i ∧ (Ff 207 [xI x0, xI x1, xI x2, xI x3, xI x4, xI x5]).i ≤ 2097150))))
  ∧
   (((((((x0 ≤ x0) ∧ (x0 < x3)) ∧ (x1 ≤ x1)) ∧ (x1 < x4)) ∧ (x2 ≤ x2)) ∧ (x2 < x5)) →
    (((x3 + ((-1) * x0)) = (Ff 205 [xI x0, xI x1, xI x2, xI x3, xI x4, xI x5]).i ∧ 0 ≤ (Ff 205 [xI x0, xI x1, xI x2, xI x3, xI x4, xI x5]).i ∧ (Ff 205 [xI x0, xI x1, xI x2, xI x3, xI x4, xI x5]).i ≤ 2097150) ∧ (((x4 + ((-1) * x1)) = (Ff 206 [xI x0, xI x1, xI x2, xI x3, xI x4, xI x5]).i ∧ 0 ≤ (Ff 206 [xI x0, xI x1, xI x2, xI x3, xI x4, xI x5]).i ∧ (Ff 206 [xI x0, xI x1, xI x2, xI x3, xI x4, xI x5]).i ≤ 2097150) ∧ ((x5 + ((-1) * x2)) = (Ff 207 [xI x0, xI x1, xI x2, xI x3, xI x4, xI x5]).i ∧ 0 ≤ (Ff 207 [xI x0, xI x1, xI x2, xI x3, xI x4, xI x5]).i ∧ (Ff 207 [xI x0, xI x1, xI x2, xI x3, xI x4, xI x5]).i ≤ 2097150)))))
theorem SizeL (x0 : Int) (x1 : Int) (x2 : Int) (x3 : Int) (x4 : Int) (x5 : Int) : ((walkF Tryd.prog (cf0 []) Tryd.f82 3000 (shS cSize.args 0)).ctr { ρ0 with x := fun j => [xI x0, xI x1, xI x2, xI x3, xI x4, xI x5].getD j (xI 0) } (fun j => Ff j [xI x0, xI x1, xI x2, xI x3, xI x4, xI x5]) cSize.fs cSize.res) = SizeP x0 x1 x2 x3 x4 x5 := by kernel_rfl
set_option maxHeartbeats 1000000 in
theorem SizeO (x0 : Int) (x1 : Int) (x2 : Int) (x3 : Int) (x4 : Int) (x5 : Int) (h0 : -1048575 ≤ x0 ∧ x0 ≤ 1048575) (h1 : -1048575 ≤ x1 ∧ x1 ≤ 1048575) (h2 : -1048575 ≤ x2 ∧ x2 ≤ 1048575) (h3 : -1048575 ≤ x3 ∧ x3 ≤ 1048575) (h4 : -1048575 ≤ x4 ∧ x4 ≤ 1048575) (h5 : -1048575 ≤ x5 ∧ x5 ≤ 1048575) : SizeP x0 x1 x2 x3 x4 x5 := by
  unfold SizeP
  simp only [F205, F206, F207, xI_i]
  unfold szB
  by_cases h : neB x0 x1 x2 x3 x4 x5
  · simp only [if_pos h]
    unfold neB at h
    refine ⟨fun g => ?_, fun g => ?_⟩
    · first | (exfalso; omega) | ((repeat' apply And.intro) <;> first | trivial | omega)
    · first | (exfalso; omega) | ((repeat' apply And.intro) <;> first | trivial | omega)
  · simp only [if_neg h]
    unfold neB at h
    refine ⟨fun g => ?_, fun g => ?_⟩
    · first | (exfalso; omega) | ((repeat' apply And.intro) <;> first | trivial | omega)
    · first | (exfalso; omega) | ((repeat' apply And.intro) <;> first | trivial | omega)
theorem kSize : CtrOk Tryd.prog ρ0 cSize := by
  refine ctr_of (cf := cf0 []) (cf0_ok keep0) Tryd.func82 rfl 3000 fun ds hr => ?_
  match ds, hr with
  | [d0, d1, d2, d3, d4, d5], hr =>
    obtain ⟨⟨⟨e0, l0, u0⟩, ⟨e1, l1, u1⟩, ⟨e2, l2, u2⟩, ⟨e3, l3, u3⟩, ⟨e4, l4, u4⟩, ⟨e5, l5, u5⟩, _⟩, _⟩ := hr
    generalize d0.i = x0 at *
    generalize d1.i = x1 at *
    generalize d2.i = x2 at *
    generalize d3.i = x3 at *
    generalize d4.i = x4 at *
    generalize d5.i = x5 at *
    subst e0 e1 e2 e3 e4 e5
    exact Eq.mpr (SizeL x0 x1 x2 x3 x4 x5) (SizeO x0 x1 x2 x3 x4 x5 ⟨l0, u0⟩ ⟨l1, u1⟩ ⟨l2, u2⟩ ⟨l3, u3⟩ ⟨l4, u4⟩ ⟨l5, u5⟩)
theorem nSize : ∃ fn, Tryd.prog.funcs[cSize.f]? = some fn ∧ fn.body.isSome = true ∧ (fn.name == "runtime.NumGoroutine") = false := ⟨_, Tryd.func82, by kernel_rfl, by kernel_rfl⟩

/-- What is left of the contract of voxelref04.Size. -/
def SizeRP (x0 : Int) (x1 : Int) (x2 : Int) (x3 : Int) (x4 : Int) (x5 : Int) : Prop :=
  (
   ((((x3 ≤ x0) ∨ (x4 ≤ x1)) ∨ (x5 ≤ x2)) →
    ((0 = (Ff 205 [xI x0, xI x1, xI x2, xI x3, xI x4, xI x5]).i ∧ 0 ≤ (Ff 205 [xI x0, xI x1, xI x2, xI x3, xI x4, xI x5]).i ∧ (Ff 205 [xI x0, xI x1, xI x2, xI x3, xI x4, xI x5]).i ≤ 2097150) ∧ ((0 = (Ff 206 [xI x0, xI x1, xI x2, xI x3, xI x4, xI x5]).i ∧ 0 ≤ (Ff 206 [xI x0, xI x1, xI x2, xI x3, xI x4, xI x5]).i ∧ (Ff 206 [xI x0, xI x1, xI x2, xI x3, xI x4, xI x5]).i ≤ 2097150) ∧ (0 = (Ff 207 [xI x0, xI x1, xI x2, xI x3, xI x4, xI x5]).i ∧ 0 ≤ (Ff 207 [xI x0, xI x1, xI x2, xI x3, xI x4, xI x5]).i ∧ (Ff 207 [xI x0, xI x1, xI x2, xI x3, xI x4, xI x5]).i ≤ 2097150))))
  ∧
   ((¬ (((x3 ≤ x0) ∨ (x4 ≤ x1)) ∨ (x5 ≤ x2))) →
    (((x3 - x0) = (Ff 205 [xI x0, xI x1, xI x2, xI x3, xI x4, xI x5]).i ∧ 0 ≤ (Ff 205 [xI x0, xI x1, xI x2, xI x3, xI x4, xI x5]).i ∧ (Ff 205 [xI x0, xI x1, xI x2, xI x3, xI x4, xI x5]).i ≤ 2097150) ∧ (((x4 - x1) = (Ff 206 [xI x0, xI x1, xI x2, xI x3, xI x4, xI x5]).i ∧ 0 ≤ (Ff 206 [xI x0, xI x1, xI x2, xI x3, xI x4, xI x5]).i ∧ (Ff 206 [xI x0, xI x1, xI x2, xI x3, xI x4, xI x5]).i ≤ 2097150) ∧ ((x5 - x2) = (Ff 207 [xI x0, xI x1, xI x2, xI x3, xI x4, xI x5]).i ∧ 0 ≤ (Ff 207 [xI x0, xI x1, xI x2, xI x3, xI x4, xI x5]).i ∧ (Ff 207 [xI x0, xI x1, xI x2, xI x3, xI x4, xI x5]).i ≤ 2097150)))))
theorem SizeRL (x0 : Int) (x1 : Int) (x2 : Int) (x3 : Int) (x4 : Int) (x5 : Int) : ((walkF Tryd.prog (cf0 []) Tryd.f39 3000 (shS cSizeR.args 0)).ctr { ρ0 with x := fun j => [xI x0, xI x1, xI x2, xI x3, xI x4, xI x5].getD j (xI 0) } (fun j => Ff j [xI x0, xI x1, xI x2, xI x3, xI x4, xI x5]) cSizeR.fs cSizeR.res) = SizeRP x0 x1 x2 x3 x4 x5 := by kernel_rfl
set_option maxHeartbeats 1000000 in
theorem SizeRO (x0 : Int) (x1 : Int) (x2 : Int) (x3 : Int) (x4 : Int) (x5 : Int) (h0 : -1048575 ≤ x0 ∧ x0 ≤ 1048575) (h1 : -1048575 ≤ x1 ∧ x1 ≤ 1048575) (h2 : -1048575 ≤ x2 ∧ x2 ≤ 1048575) (h3 : -1048575 ≤ x3 ∧ x3 ≤ 1048575) (h4 : -1048575 ≤ x4 ∧ x4 ≤ 1048575) (h5 : -1048575 ≤ x5 ∧ x5 ≤ 1048575) : SizeRP x0 x1 x2 x3 x4 x5 := by
  unfold SizeRP
  simp only [F205, F206, F207, xI_i]
  unfold szB
  by_cases h : neB x0 x1 x2 x3 x4 x5
  · simp only [if_pos h]
    unfold neB at h
    refine ⟨fun g => ?_, fun g => ?_⟩
    · first | (exfalso; omega) | ((repeat' apply And.intro) <;> first | trivial | omega)
    · first | (exfalso; omega) | ((repeat' apply And.intro) <;> first | trivial | omega)
  · simp only [if_neg h]
    unfold neB at h
    refine ⟨fun g => ?_, fun g => ?_⟩
    · first | (exfalso; omega) | ((repeat' apply And.intro) <;> first | trivial | omega)
    · first | (exfalso; omega) | ((repeat' apply And.intro) <;> first | trivial | omega)
theorem kSizeR : CtrOk Tryd.prog ρ0 cSizeR := by
  refine ctr_of (cf := cf0 []) (cf0_ok keep0) Tryd.func39 rfl 3000 fun ds hr => ?_
  match ds, hr with
  | [d0, d1, d2, d3, d4, d5], hr =>
    obtain ⟨⟨⟨e0, l0, u0⟩, ⟨e1, l1, u1⟩, ⟨e2, l2, u2⟩, ⟨e3, l3, u3⟩, ⟨e4, l4, u4⟩, ⟨e5, l5, u5⟩, _⟩, _⟩ := hr
    generalize d0.i = x0 at *
    generalize d1.i = x1 at *
    generalize d2.i = x2 at *
    generalize d3.i = x3 at *
    generalize d4.i = x4 at *
    generalize d5.i = x5 at *
    subst e0 e1 e2 e3 e4 e5
    exact Eq.mpr (SizeRL x0 x1 x2 x3 x4 x5) (SizeRO x0 x1 x2 x3 x4 x5 ⟨l0, u0⟩ ⟨l1, u1⟩ ⟨l2, u2⟩ ⟨l3, u3⟩ ⟨l4, u4⟩ ⟨l5, u5⟩)
theorem nSizeR : ∃ fn, Tryd.prog.funcs[cSizeR.f]? = some fn ∧ fn.body.isSome = true ∧ (fn.name == "runtime.NumGoroutine") = false := ⟨_, Tryd.func39, by kernel_rfl, by kernel_rfl⟩

/-- What is left of the contract of point.Intersect. -/
def InterP (x0 : Int) (x1 : Int) (x2 : Int) (x3 : Int) (x4 : Int) (x5 : Int) (x6 : Int) (x7 : Int) (x8 : Int) (x9 : Int) (x10 : Int) (x11 : Int) : Prop :=
  (
   ((((((((max x0 x6) ≤ (max x0 x6)) ∧ ((max x0 x6) < (min x3 x9))) ∧ ((max x1 x7) ≤ (max x1 x7))) ∧ ((max x1 x7) < (min x4 x10))) ∧ ((max x2 x8) ≤ (max x2 x8))) ∧ ((max x2 x8) < (min x5 x11))) →
    (((max x0 x6) = (Ff 220 [xI x0, xI x1, xI x2, xI x3, xI x4, xI x5, xI x6, xI x7, xI x8, xI x9, xI x10, xI x11]).i ∧ -1048575 ≤ (Ff 220 [xI x0, xI x1, xI x2, xI x3, xI x4, xI x5, xI x6, xI x7, xI x8, xI x9, xI x10, xI x11]).i ∧ (Ff 220 [xI x0, xI x1, xI x2, xI x3, xI x4, xI x5, xI x6, xI x7, xI x8, xI x9, xI x10, xI x11]).i ≤ 1048575) ∧ (((max x1 x7) = (Ff 221 [xI x0, xI x1, xI x2, xI x3, xI x4, xI x5, xI x6, xI x7, xI x8, xI x9, xI x10, xI x11]).i ∧ -1048575 ≤ (Ff 221 [xI x0, xI x1, xI x2, xI x3, xI x4, xI x5, xI x6, xI x7, xI x8, xI x9, xI x10, xI x11]).i ∧ (Ff 221 [xI x0, xI x1, xI x2, xI x3, xI x4, xI x5, xI x6, xI x7, xI x8, xI x9, xI x10, xI x11]).i ≤ 1048575) ∧ (((max x2 x8) = (Ff 222 [xI x0, xI x1, xI x2, xI x3, xI x4, xI x5, xI x6, xI x7, xI x8, xI x9, xI x10, xI x11]).i ∧ -1048575 ≤ (Ff 222 [xI x0, xI x1, xI x2, xI x3, xI x4, xI x5, xI x6, xI x7, xI x8, xI x9, xI x10, xI x11]).i ∧ (Ff 222 [xI x0, xI x1, xI x2, xI x3, xI x4, xI x5, xI x6, xI x7, xI x8, xI x9, xI x10, xI x11]).i ≤ 1048575) ∧ (((min x3 x9) = (Ff 223 [xI x0, xI x1, xI x2, xI x3, xI x4, xI x5, xI x6, xI x7, xI x8, xI x9, xI x10, xI x11]).i ∧ -1048575 ≤ (Ff 223 [xI x0, xI x1, xI x2, xI x3, xI x4, xI x5, xI x6, xI x7, xI x8, xI x9, xI x10, xI x11]).i ∧ (Ff 223 [xI x0, xI x1, xI x2, xI x3, xI x4, xI x5, xI x6, xI x7, xI x8, xI x9, xI x10, xI x11]).i ≤ 1048575) ∧ (((min x4 x10) = (Ff 224 [xI x0, xI x1, xI x2, xI x3, xI x4, xI x5, xI x6, xI x7, xI x8, xI x9, xI x10, xI x11]).i ∧ -1048575 ≤ (Ff 224 [xI x0, xI x1, xI x2, xI x3, xI x4, xI x5, xI x6, xI x7, xI x8, xI x9, xI x10, xI x11]).i ∧ (Ff 224 [xI x0, xI x1, xI x2, xI x3, xI x4, xI x5, xI x6, xI x7, xI x8, xI x9, xI x10, xI x11]).i ≤ 1048575) ∧ ((min x5 x11) = (Ff 225 [xI x0, xI x1, xI x2, xI x3, xI x4, xI x5, xI x6, xI x7, xI x8, xI x9, xI x10, xI x11]).i ∧ -1048575 ≤ (Ff 225 [xI x0, xI x1, xI x2, xI x3, xI x4, xI x5, xI x6, xI x7, xI x8, xI x9, xI x10, xI x11]).i ∧ (Ff 225 [xI x0, xI x1, xI x2, xI x3, xI x4, xI x5, xI x6, xI x7, xI x8, xI x9, xI x10, xI x11]).i ≤ 1048575)))))))
  ∧
   ((¬ (((((((max x0 x6) ≤ (max x0 x6)) ∧ ((max x0 x6) < (min x3 x9))) ∧ ((max x1 x7) ≤ (max x1 x7))) ∧ ((max x1 x7) < (min x4 x10))) ∧ ((max x2 x8) ≤ (max x2 x8))) ∧ ((max x2 x8) < (min x5 x11)))) →
    ((0 = (Ff 220 [xI x0, xI x1, xI x2, xI x3, xI x4, xI x5, xI x6, xI x7, xI x8, xI x9, xI x10, xI x11]).i ∧ -1048575 ≤ (Ff 220 [xI x0, xI x1, xI x2, xI x3, xI x4, xI x5, xI x6, xI x7, xI x8, xI x9, xI x10, xI x11]).i ∧ (Ff 220 [xI x0, xI x1, xI x2, xI x3, xI x4, xI x5, xI x6, xI x7, xI x8, xI x9, xI x10, xI x11]).i ≤ 1048575) ∧ ((0 = (Ff 221 [xI x0, xI x1, xI x2, xI x3, xI x4, xI x5, xI x6, xI x7, xI x8, xI x9, xI x10, xI x11]).i ∧ -1048575 ≤ (Ff 221 [xI x0, xI x1, xI x2, xI x3, xI x4, xI x5, xI x6, xI x7, xI x8, xI x9, xI x10, xI x11]).i ∧ (Ff 221 [xI x0, xI x1, xI x2, xI x3, xI x4, xI x5, xI x6, xI x7, xI x8, xI x9, xI x10, xI x11]).i ≤ 1048575) ∧ ((0 = (Ff 222 [xI x0, xI x1, xI x2, xI x3, xI x4, xI x5, xI x6, xI x7, xI x8, xI x9, xI x10, xI x11]).i ∧ -1048575 ≤ (Ff 222 [xI x0, xI x1, xI x2, xI x3, xI x4, xI x5, xI x6, xI x7, xI x8, xI x9, xI x10, xI x11]).i ∧ (Ff 222 [xI x0, xI x1, xI x2, xI x3, xI x4, xI x5, xI x6, xI x7, xI x8, xI x9, xI x10, xI x11]).i ≤ 1048575) ∧ ((0 = (Ff 223 [xI x0, xI x1, xI x2, xI x3, xI x4, xI x5, xI x6, xI x7, xI x8, xI x9, xI x10, xI x11]).i ∧ -1048575 ≤ (Ff 223 [xI x0, xI x1, xI x2, xI x3, xI x4, xI x5, xI x6, xI x7, xI x8, xI x9, xI x10, xI x11]).i ∧ (Ff 223 [xI x0, xI x1, xI x2, xI x3, xI x4, xI x5, xI x6, xI x7, xI x8, xI x9, xI x10, xI x11]).i ≤ 1048575) ∧ ((0 = (Ff 224 [xI x0, xI x1, xI x2, xI x3, xI x4, xI x5, xI x6, xI x7, xI x8, xI x9, xI x10, xI x11]).i ∧ -1048575 ≤ (Ff 224 [xI x0, xI x1, xI x2, xI x3, xI x4, xI x5, xI x6, xI x7, xI x8, xI x9, xI x10, xI x11]).i ∧ (Ff 224 [xI x0, xI x1, xI x2, xI x3, xI x4, xI x5, xI x6, xI x7, xI x8, xI x9, xI x10, xI x11]).i ≤ 1048575) ∧ (0 = (Ff 225 [xI x0, xI x1, xI x2, xI x3, xI x4, xI x5, xI x6, xI x7, xI x8, xI x9, xI x10, xI x11]).i ∧ -1048575 ≤ (Ff 225 [xI x0, xI x1, xI x2, xI x3, xI x4, xI x5, xI x6, xI x7, xI x8, xI x9, xI x10, xI x11]).i ∧ (Ff 225 [xI x0, xI x1, xI x2, xI x3, xI x4, xI x5, xI x6, xI x7, xI x8, xI x9, xI x10, xI x11]).i ≤ 1048575))))))))
theorem InterL (x0 : Int) (x1 : Int) (x2 : Int) (x3 : Int) (x4 : Int) (x5 : Int) (x6 : Int) (x7 : Int) (x8 : Int) (x9 : Int) (x10 : Int) (x11 : Int) : ((walkF Tryd.prog (cf0 []) Tryd.f90 3000 (shS cInter.args 0)).ctr { ρ0 with x := fun j => [xI x0, xI x1, xI x2, xI x3, xI x4, xI x5, xI x6, xI x7, xI x8, xI x9, xI x10, xI x11].getD j (xI 0) } (fun j => Ff j [xI x0, xI x1, xI x2, xI x3, xI x4, xI x5, xI x6, xI x7, xI x8, xI x9, xI x10, xI x11]) cInter.fs cInter.res) = InterP x0 x1 x2 x3 x4 x5 x6 x7 x8 x9 x10 x11 := by kernel_rfl
set_option maxHeartbeats 1000000 in
theorem InterO (x0 : Int) (x1 : Int) (x2 : Int) (x3 : Int) (x4 : Int) (x5 : Int) (x6 : Int) (x7 : Int) (x8 : Int) (x9 : Int) (x10 : Int) (x11 : Int) (h0 : -1048575 ≤ x0 ∧ x0 ≤ 1048575) (h1 : -1048575 ≤ x1 ∧ x1 ≤ 1048575) (h2 : -1048575 ≤ x2 ∧ x2 ≤ 1048575) (h3 : -1048575 ≤ x3 ∧ x3 ≤ 1048575) (h4 : -1048575 ≤ x4 ∧ x4 ≤ 1048575) (h5 : -1048575 ≤ x5 ∧ x5 ≤ 1048575) (h6 : -1048575 ≤ x6 ∧ x6 ≤ 1048575) (h7 : -1048575 ≤ x7 ∧ x7 ≤ 1048575) (h8 : -1048575 ≤ x8 ∧ x8 ≤ 1048575) (h9 : -1048575 ≤ x9 ∧ x9 ≤ 1048575) (h10 : -1048575 ≤ x10 ∧ x10 ≤ 1048575) (h11 : -1048575 ≤ x11 ∧ x11 ≤ 1048575) : InterP x0 x1 x2 x3 x4 x5 x6 x7 x8 x9 x10 x11 := by
  unfold InterP
  simp only [F220, F221, F222, F223, F224, F225, xI_i]
  unfold itB
  by_cases h : neB (max x0 x6) (max x1 x7) (max x2 x8) (min x3 x9) (min x4 x10) (min x5 x11)
  · simp only [if_pos h]
    unfold neB at h
    refine ⟨fun g => ?_, fun g => ?_⟩
    · first | (exfalso; omega) | ((repeat' apply And.intro) <;> first | trivial | omega)
    · first | (exfalso; omega) | ((repeat' apply And.intro) <;> first | trivial | omega)
  · simp only [if_neg h]
    unfold neB at h
    refine ⟨fun g => ?_, fun g => ?_⟩
    · first | (exfalso; omega) | ((repeat' apply And.intro) <;> first | trivial | omega)
    · first | (exfalso; omega) | ((repeat' apply And.intro) <;> first | trivial | omega)
theorem kInter : CtrOk Tryd.prog ρ0 cInter := by
  refine ctr_of (cf := cf0 []) (cf0_ok keep0) Tryd.func90 rfl 3000 fun ds hr => ?_
  match ds, hr with
  | [d0, d1, d2, d3, d4, d5, d6, d7, d8, d9, d10, d11], hr =>
    obtain ⟨⟨⟨e0, l0, u0⟩, ⟨e1, l1, u1⟩, ⟨e2, l2, u2⟩, ⟨e3, l3, u3⟩, ⟨e4, l4, u4⟩, ⟨e5, l5, u5⟩, _⟩, ⟨⟨e6, l6, u6⟩, ⟨e7, l7, u7⟩, ⟨e8, l8, u8⟩, ⟨e9, l9, u9⟩, ⟨e10, l10, u10⟩, ⟨e11, l11, u11⟩, _⟩, _⟩ := hr
    generalize d0.i = x0 at *
    generalize d1.i = x1 at *
    generalize d2.i = x2 at *
    generalize d3.i = x3 at *
    generalize d4.i = x4 at *
    generalize d5.i = x5 at *
    generalize d6.i = x6 at *
    generalize d7.i = x7 at *
    generalize d8.i = x8 at *
    generalize d9.i = x9 at *
    generalize d10.i = x10 at *
    generalize d11.i = x11 at *
    subst e0 e1 e2 e3 e4 e5 e6 e7 e8 e9 e10 e11
    exact Eq.mpr (InterL x0 x1 x2 x3 x4 x5 x6 x7 x8 x9 x10 x11) (InterO x0 x1 x2 x3 x4 x5 x6 x7 x8 x9 x10 x11 ⟨l0, u0⟩ ⟨l1, u1⟩ ⟨l2, u2⟩ ⟨l3, u3⟩ ⟨l4, u4⟩ ⟨l5, u5⟩ ⟨l6, u6⟩ ⟨l7, u7⟩ ⟨l8, u8⟩ ⟨l9, u9⟩ ⟨l10, u10⟩ ⟨l11, u11⟩)
theorem nInter : ∃ fn, Tryd.prog.funcs[cInter.f]? = some fn ∧ fn.body.isSome = true ∧ (fn.name == "runtime.NumGoroutine") = false := ⟨_, Tryd.func90, by kernel_rfl, by kernel_rfl⟩

/-- What is left of the contract of voxelref04.Intersect. -/
def InterRP (x0 : Int) (x1 : Int) (x2 : Int) (x3 : Int) (x4 : Int) (x5 : Int) (x6 : Int) (x7 : Int) (x8 : Int) (x9 : Int) (x10 : Int) (x11 : Int) : Prop :=
  (
   (((((min x3 x9) ≤ (max x0 x6)) ∨ ((min x4 x10) ≤ (max x1 x7))) ∨ ((min x5 x11) ≤ (max x2 x8))) →
    ((0 = (Ff 220 [xI x0, xI x1, xI x2, xI x3, xI x4, xI x5, xI x6, xI x7, xI x8, xI x9, xI x10, xI x11]).i ∧ -1048575 ≤ (Ff 220 [xI x0, xI x1, xI x2, xI x3, xI x4, xI x5, xI x6, xI x7, xI x8, xI x9, xI x10, xI x11]).i ∧ (Ff 220 [xI x0, xI x1, xI x2, xI x3, xI x4, xI x5, xI x6, xI x7, xI x8, xI x9, xI x10, xI x11]).i ≤ 1048575) ∧ ((0 = (Ff 221 [xI x0, xI x1, xI x2, xI x3, xI x4, xI x5, xI x6, xI x7, xI x8, xI x9, xI x10, xI x11]).i ∧ -1048575 ≤ (Ff 221 [xI x0, xI x1, xI x2, xI x3, xI x4, xI x5, xI x6, xI x7, xI x8, xI x9, xI x10, xI x11]).i ∧ (Ff 221 [xI x0, xI x1, xI x2, xI x3, xI x4, xI x5, xI x6, xI x7, xI x8, xI x9, xI x10, xI x11]).i ≤ 1048575) ∧ ((0 = (Ff 222 [xI x0, xI x1, xI x2, xI x3, xI x4, xI x5, xI x6, xI x7, xI x8, xI x9, xI x10, xI x11]).i ∧ -1048575 ≤ (Ff 222 [xI x0, xI x1, xI x2, xI x3, xI x4, xI x5, xI x6, xI x7, xI x8, xI x9, xI x10, xI x11]).i ∧ (Ff 222 [xI x0, xI x1, xI x2, xI x3, xI x4, xI x5, xI x6, xI x7, xI x8, xI x9, xI x10, xI x11]).i ≤ 1048575) ∧ ((0 = (Ff 223 [xI x0, xI x1, xI x2, xI x3, xI x4, xI x5, xI x6, xI x7, xI x8, xI x9, xI x10, xI x11]).i ∧ -1048575 ≤ (Ff 223 [xI x0, xI x1, xI x2, xI x3, xI x4, xI x5, xI x6, xI x7, xI x8, xI x9, xI x10, xI x11]).i ∧ (Ff 223 [xI x0, xI x1, xI x2, xI x3, xI x4, xI x5, xI x6, xI x7, xI x8, xI x9, xI x10, xI x11]).i ≤ 1048575) ∧ ((0 = (Ff 224 [xI x0, xI x1, xI x2, xI x3, xI x4, xI x5, xI x6, xI x7, xI x8, xI x9, xI x10, xI x11]).i ∧ -1048575 ≤ (Ff 224 [xI x0, xI x1, xI x2, xI x3, xI x4, xI x5, xI x6, xI x7, xI x8, xI x9, xI x10, xI x11]).i ∧ (Ff 224 [xI x0, xI x1, xI x2, xI x3, xI x4, xI x5, xI x6, xI x7, xI x8, xI x9, xI x10, xI x11]).i ≤ 1048575) ∧ (0 = (Ff 225 [xI x0, xI x1, xI x2, xI x3, xI x4, xI x5, xI x6, xI x7, xI x8, xI x9, xI x10, xI x11]).i ∧ -1048575 ≤ (Ff 225 [xI x0, xI x1, xI x2, xI x3, xI x4, xI x5, xI x6, xI x7, xI x8, xI x9, xI x10, xI x11]).i ∧ (Ff 225 [xI x0, xI x1, xI x2, xI x3, xI x4, xI x5, xI x6, xI x7, xI x8, xI x9, xI x10, xI x11]).i ≤ 1048575)))))))
  ∧
   ((¬ ((((min x3 x9) ≤ (max x0 x6)) ∨ ((min x4 x10) ≤ (max x1 x7))) ∨ ((min x5 x11) ≤ (max x2 x8)))) →
    (((max x0 x6) = (Ff 220 [xI x0, xI x1, xI x2, xI x3, xI x4, xI x5, xI x6, xI x7, xI x8, xI x9, xI x10, xI x11]).i ∧ -1048575 ≤ (Ff 220 [xI x0, xI x1, xI x2, xI x3, xI x4, xI x5, xI x6, xI x7, xI x8, xI x9, xI x10, xI x11]).i ∧ (Ff 220 [xI x0, xI x1, xI x2, xI x3, xI x4, xI x5, xI x6, xI x7, xI x8, xI x9, xI x10, xI x11]).i ≤ 1048575) ∧ (((max x1 x7) = (Ff 221 [xI x0, xI x1, xI x2, xI x3, xI x4, xI x5, xI x6, xI x7, xI x8, xI x9, xI x10, xI x11]).i ∧ -1048575 ≤ (Ff 221 [xI x0, xI x1, xI x2, xI x3, xI x4, xI x5, xI x6, xI x7, xI x8, xI x9, xI x10, xI x11]).i ∧ (Ff 221 [xI x0, xI x1, xI x2, xI x3, xI x4, xI x5, xI x6, xI x7, xI x8, xI x9, xI x10, xI x11]).i ≤ 1048575) ∧ (((max x2 x8) = (Ff 222 [xI x0, xI x1, xI x2, xI x3, xI x4, xI x5, xI x6, xI x7, xI x8, xI x9, xI x10, xI x11]).i ∧ -1048575 ≤ (Ff 222 [xI x0, xI x1, xI x2, xI x3, xI x4, xI x5, xI x6, xI x7, xI x8, xI x9, xI x10, xI x11]).i ∧ (Ff 222 [xI x0, xI x1, xI x2, xI x3, xI x4, xI x5, xI x6, xI x7, xI x8, xI x9, xI x10, xI x11]).i ≤ 1048575) ∧ (((min x3 x9) = (Ff 223 [xI x0, xI x1, xI x2, xI x3, xI x4, xI x5, xI x6, xI x7, xI x8, xI x9, xI x10, xI x11]).i ∧ -1048575 ≤ (Ff 223 [xI x0, xI x1, xI x2, xI x3, xI x4, xI x5, xI x6, xI x7, xI x8, xI x9, xI x10, xI x11]).i ∧ (Ff 223 [xI x0, xI x1, xI x2, xI x3, xI x4, xI x5, xI x6, xI x7, xI x8, xI x9, xI x10, xI x11]).i ≤ 1048575) ∧ (((min x4 x10) = (Ff 224 [xI x0, xI x1, xI x2, xI x3, xI x4, xI x5, xI x6, xI x7, xI x8, xI x9, xI x10, xI x11]).i ∧ -1048575 ≤ (Ff 224 [xI x0, xI x1, xI x2, xI x3, xI x4, xI x5, xI x6, xI x7, xI x8, xI x9, xI x10, xI x11]).i ∧ (Ff 224 [xI x0, xI x1, xI x2, xI x3, xI x4, xI x5, xI x6, xI x7, xI x8, xI x9, xI x10, xI x11]).i ≤ 1048575) ∧ ((min x5 x11) = (Ff 225 [xI x0, xI x1, xI x2, xI x3, xI x4, xI x5, xI x6, xI x7, xI x8, xI x9, xI x10, xI x11]).i ∧ -1048575 ≤ (Ff 225 [xI x0, xI x1, xI x2, xI x3, xI x4, xI x5, xI x6, xI x7, xI x8, xI x9, xI x10, xI x11]).i ∧ (Ff 225 [xI x0, xI x1, xI x2, xI x3, xI x4, xI x5, xI x6, xI x7, xI x8, xI x9, xI x10, xI x11]).i ≤ 1048575))))))))
theorem InterRL (x0 : Int) (x1 : Int) (x2 : Int) (x3 : Int) (x4 : Int) (x5 : Int) (x6 : Int) (x7 : Int) (x8 : Int) (x9 : Int) (x10 : Int) (x11 : Int) : ((walkF Tryd.prog (cf0 []) Tryd.f74 3000 (shS cInterR.args 0)).ctr { ρ0 with x := fun j => [xI x0, xI x1, xI x2, xI x3, xI x4, xI x5, xI x6, xI x7, xI x8, xI x9, xI x10, xI x11].getD j (xI 0) } (fun j => Ff j [xI x0, xI x1, xI x2, xI x3, xI x4, xI x5, xI x6, xI x7, xI x8, xI x9, xI x10, xI x11]) cInterR.fs cInterR.res) = InterRP x0 x1 x2 x3 x4 x5 x6 x7 x8 x9 x10 x11 := by kernel_rfl
set_option maxHeartbeats 1000000 in
theorem InterRO (x0 : Int) (x1 : Int) (x2 : Int) (x3 : Int) (x4 : Int) (x5 : Int) (x6 : Int) (x7 : Int) (x8 : Int) (x9 : Int) (x10 : Int) (x11 : Int) (h0 : -1048575 ≤ x0 ∧ x0 ≤ 1048575) (h1 : -1048575 ≤ x1 ∧ x1 ≤ 1048575) (h2 : -1048575 ≤ x2 ∧ x2 ≤ 1048575) (h3 : -1048575 ≤ x3 ∧ x3 ≤ 1048575) (h4 : -1048575 ≤ x4 ∧ x4 ≤ 1048575) (h5 : -1048575 ≤ x5 ∧ x5 ≤ 1048575) (h6 : -1048575 ≤ x6 ∧ x6 ≤ 1048575) (h7 : -1048575 ≤ x7 ∧ x7 ≤ 1048575) (h8 : -1048575 ≤ x8 ∧ x8 ≤ 1048575) (h9 : -1048575 ≤ x9 ∧ x9 ≤ 1048575) (h10 : -1048575 ≤ x10 ∧ x10 ≤ 1048575) (h11 : -1048575 ≤ x11 ∧ x11 ≤ 1048575) : InterRP x0 x1 x2 x3 x4 x5 x6 x7 x8 x9 x10 x11 := by
  unfold InterRP
  simp only [F220, F221, F222, F223, F224, F225, xI_i]
  unfold itB
  by_cases h : neB (max x0 x6) (max x1 x7) (max x2 x8) (min x3 x9) (min x4 x10) (min x5 x11)
  · simp only [if_pos h]
    unfold neB at h
    refine ⟨fun g => ?_, fun g => ?_⟩
    · first | (exfalso; omega) | ((repeat' apply And.intro) <;> first | trivial | omega)
    · first | (exfalso; omega) | ((repeat' apply And.intro) <;> first | trivial | omega)
  · simp only [if_neg h]
    unfold neB at h
    refine ⟨fun g => ?_, fun g => ?_⟩
    · first | (exfalso; omega) | ((repeat' apply And.intro) <;> first | trivial | omega)
    · first | (exfalso; omega) | ((repeat' apply And.intro) <;> first | trivial | omega)
theorem kInterR : CtrOk Tryd.prog ρ0 cInterR := by
  refine ctr_of (cf := cf0 []) (cf0_ok keep0) Tryd.func74 rfl 3000 fun ds hr => ?_
  match ds, hr with
  | [d0, d1, d2, d3, d4, d5, d6, d7, d8, d9, d10, d11], hr =>
    obtain ⟨⟨⟨e0, l0, u0⟩, ⟨e1, l1, u1⟩, ⟨e2, l2, u2⟩, ⟨e3, l3, u3⟩, ⟨e4, l4, u4⟩, ⟨e5, l5, u5⟩, _⟩, ⟨⟨e6, l6, u6⟩, ⟨e7, l7, u7⟩, ⟨e8, l8, u8⟩, ⟨e9, l9, u9⟩, ⟨e10, l10, u10⟩, ⟨e11, l11, u11⟩, _⟩, _⟩ := hr
    generalize d0.i = x0 at *
    generalize d1.i = x1 at *
    generalize d2.i = x2 at *
    generalize d3.i = x3 at *
    generalize d4.i = x4 at *
    generalize d5.i = x5 at *
    generalize d6.i = x6 at *
    generalize d7.i = x7 at *
    generalize d8.i = x8 at *
    generalize d9.i = x9 at *
    generalize d10.i = x10 at *
    generalize d11.i = x11 at *
    subst e0 e1 e2 e3 e4 e5 e6 e7 e8 e9 e10 e11
    exact Eq.mpr (InterRL x0 x1 x2 x3 x4 x5 x6 x7 x8 x9 x10 x11) (InterRO x0 x1 x2 x3 x4 x5 x6 x7 x8 x9 x10 x11 ⟨l0, u0⟩ ⟨l1, u1⟩ ⟨l2, u2⟩ ⟨l3, u3⟩ ⟨l4, u4⟩ ⟨l5, u5⟩ ⟨l6, u6⟩ ⟨l7, u7⟩ ⟨l8, u8⟩ ⟨l9, u9⟩ ⟨l10, u10⟩ ⟨l11, u11⟩)
theorem nInterR : ∃ fn, Tryd.prog.funcs[cInterR.f]? = some fn ∧ fn.body.isSome = true ∧ (fn.name == "runtime.NumGoroutine") = false := ⟨_, Tryd.func74, by kernel_rfl, by kernel_rfl⟩
end Vc
end Go.Proofs.YtleapeclbkclaaaDoor
