/- Contracts of functions, each out of one walk. -/
import Derived.Test.YtipcadjfhndcnaaDoorC04D
import Derived.Test.YtipcadjfhndcnaaDoorC04E
import Derived.Test.YtipcadjfhndcnaaDoorC04V
import Derived.Test.YtipcadjfhndcnaaDoorC19L
import Derived.Test.YtipcadjfhndcnaaDoorC19D
import Derived.Test.YtipcadjfhndcnaaDoorC19C
namespace Go.Proofs.YtipcadjfhndcnaaDoor
namespace Vc
open Go Go.RowKit
set_option linter.unusedVariables false

/-- What is left of the contract of brush.InPrism. -/
def IPrmP (x0 : Int) (x1 : Int) (x2 : Int) (x3 : Int) (x4 : Int) (x5 : Int) (x6 : Int) (x7 : Int) (x8 : Int) (x9 : Int) : Prop :=
  (
   ((((0 ≤ x6) ∧ (x6 < 48)) ∧ ((Ff 201 [(xI (x7 + 0)), (xI (x8 + 0)), (xI (x9 + 0)), (xI (x0 + 0)), (xI (x1 + 0)), (xI (x2 + 0)), (xI (x3 + 0)), (xI (x4 + 0)), (xI (x5 + 0))]).b = true)) →
    (((((Ff 293 [(xI ((Ff 311 [(xI (x6 + 0))]).i + 0)), (xI (x7 + 0)), (xI (x8 + 0)), (xI (x9 + 0))]).i + ((-1) * (Ff 300 [(xI ((Ff 311 [(xI (x6 + 0))]).i + 0)), (xI (x0 + 0)), (xI (x1 + 0)), (xI (x2 + 0)), (xI (x3 + 0)), (xI (x4 + 0)), (xI (x5 + 0))]).i)) * (Ff 207 [(xI ((Ff 300 [(xI ((Ff 311 [(xI (x6 + 0))]).i + 0)), (xI (x0 + 0)), (xI (x1 + 0)), (xI (x2 + 0)), (xI (x3 + 0)), (xI (x4 + 0)), (xI (x5 + 0))]).i + 0)), (xI ((Ff 301 [(xI ((Ff 311 [(xI (x6 + 0))]).i + 0)), (xI (x0 + 0)), (xI (x1 + 0)), (xI (x2 + 0)), (xI (x3 + 0)), (xI (x4 + 0)), (xI (x5 + 0))]).i + 0)), (xI ((Ff 302 [(xI ((Ff 311 [(xI (x6 + 0))]).i + 0)), (xI (x0 + 0)), (xI (x1 + 0)), (xI (x2 + 0)), (xI (x3 + 0)), (xI (x4 + 0)), (xI (x5 + 0))]).i + 0)), (xI ((Ff 303 [(xI ((Ff 311 [(xI (x6 + 0))]).i + 0)), (xI (x0 + 0)), (xI (x1 + 0)), (xI (x2 + 0)), (xI (x3 + 0)), (xI (x4 + 0)), (xI (x5 + 0))]).i + 0)), (xI ((Ff 304 [(xI ((Ff 311 [(xI (x6 + 0))]).i + 0)), (xI (x0 + 0)), (xI (x1 + 0)), (xI (x2 + 0)), (xI (x3 + 0)), (xI (x4 + 0)), (xI (x5 + 0))]).i + 0)), (xI ((Ff 305 [(xI ((Ff 311 [(xI (x6 + 0))]).i + 0)), (xI (x0 + 0)), (xI (x1 + 0)), (xI (x2 + 0)), (xI (x3 + 0)), (xI (x4 + 0)), (xI (x5 + 0))]).i + 0))]).i) < ((((Ff 295 [(xI ((Ff 311 [(xI (x6 + 0))]).i + 0)), (xI (x7 + 0)), (xI (x8 + 0)), (xI (x9 + 0))]).i + ((-1) * (Ff 302 [(xI ((Ff 311 [(xI (x6 + 0))]).i + 0)), (xI (x0 + 0)), (xI (x1 + 0)), (xI (x2 + 0)), (xI (x3 + 0)), (xI (x4 + 0)), (xI (x5 + 0))]).i)) + 1) * (Ff 205 [(xI ((Ff 300 [(xI ((Ff 311 [(xI (x6 + 0))]).i + 0)), (xI (x0 + 0)), (xI (x1 + 0)), (xI (x2 + 0)), (xI (x3 + 0)), (xI (x4 + 0)), (xI (x5 + 0))]).i + 0)), (xI ((Ff 301 [(xI ((Ff 311 [(xI (x6 + 0))]).i + 0)), (xI (x0 + 0)), (xI (x1 + 0)), (xI (x2 + 0)), (xI (x3 + 0)), (xI (x4 + 0)), (xI (x5 + 0))]).i + 0)), (xI ((Ff 302 [(xI ((Ff 311 [(xI (x6 + 0))]).i + 0)), (xI (x0 + 0)), (xI (x1 + 0)), (xI (x2 + 0)), (xI (x3 + 0)), (xI (x4 + 0)), (xI (x5 + 0))]).i + 0)), (xI ((Ff 303 [(xI ((Ff 311 [(xI (x6 + 0))]).i + 0)), (xI (x0 + 0)), (xI (x1 + 0)), (xI (x2 + 0)), (xI (x3 + 0)), (xI (x4 + 0)), (xI (x5 + 0))]).i + 0)), (xI ((Ff 304 [(xI ((Ff 311 [(xI (x6 + 0))]).i + 0)), (xI (x0 + 0)), (xI (x1 + 0)), (xI (x2 + 0)), (xI (x3 + 0)), (xI (x4 + 0)), (xI (x5 + 0))]).i + 0)), (xI ((Ff 305 [(xI ((Ff 311 [(xI (x6 + 0))]).i + 0)), (xI (x0 + 0)), (xI (x1 + 0)), (xI (x2 + 0)), (xI (x3 + 0)), (xI (x4 + 0)), (xI (x5 + 0))]).i + 0))]).i)) ↔ (Ff 421 [xI x0, xI x1, xI x2, xI x3, xI x4, xI x5, xI x6, xI x7, xI x8, xI x9]).b = true))
  ∧
   ((¬ (((0 ≤ x6) ∧ (x6 < 48)) ∧ ((Ff 201 [(xI (x7 + 0)), (xI (x8 + 0)), (xI (x9 + 0)), (xI (x0 + 0)), (xI (x1 + 0)), (xI (x2 + 0)), (xI (x3 + 0)), (xI (x4 + 0)), (xI (x5 + 0))]).b = true))) →
    ((false = true) ↔ (Ff 421 [xI x0, xI x1, xI x2, xI x3, xI x4, xI x5, xI x6, xI x7, xI x8, xI x9]).b = true)))
theorem IPrmL (x0 : Int) (x1 : Int) (x2 : Int) (x3 : Int) (x4 : Int) (x5 : Int) (x6 : Int) (x7 : Int) (x8 : Int) (x9 : Int) : ((walkF Tryd.prog (cf0 [cIn, cSize, cInv, cBox, cCell]) Tryd.f21 3000 (shS cIPrm.args 0)).ctr { ρ0 with x := fun j => [xI x0, xI x1, xI x2, xI x3, xI x4, xI x5, xI x6, xI x7, xI x8, xI x9].getD j (xI 0) } (fun j => Ff j [xI x0, xI x1, xI x2, xI x3, xI x4, xI x5, xI x6, xI x7, xI x8, xI x9]) cIPrm.fs cIPrm.res) = IPrmP x0 x1 x2 x3 x4 x5 x6 x7 x8 x9 := by kernel_rfl
set_option maxHeartbeats 1000000 in
theorem IPrmO (x0 : Int) (x1 : Int) (x2 : Int) (x3 : Int) (x4 : Int) (x5 : Int) (x6 : Int) (x7 : Int) (x8 : Int) (x9 : Int) (h0 : -1048575 ≤ x0 ∧ x0 ≤ 1048575) (h1 : -1048575 ≤ x1 ∧ x1 ≤ 1048575) (h2 : -1048575 ≤ x2 ∧ x2 ≤ 1048575) (h3 : -1048575 ≤ x3 ∧ x3 ≤ 1048575) (h4 : -1048575 ≤ x4 ∧ x4 ≤ 1048575) (h5 : -1048575 ≤ x5 ∧ x5 ≤ 1048575) (h6 : -9223372036854775808 ≤ x6 ∧ x6 ≤ 9223372036854775807) (h7 : -1048576 ≤ x7 ∧ x7 ≤ 1048575) (h8 : -1048576 ≤ x8 ∧ x8 ≤ 1048575) (h9 : -1048576 ≤ x9 ∧ x9 ≤ 1048575) : IPrmP x0 x1 x2 x3 x4 x5 x6 x7 x8 x9 := by
  unfold IPrmP
  simp only [G201, G205, G207, G293, G295, G300, G301, G302, G303, G304, G305, G311, G421, xI_i, xB_b, Int.add_zero, Bool.and_eq_true, decide_eq_true_eq, false_iff, Bool.false_eq_true]
  unfold prmB
  simp only [decide_eq_true_eq]
  have e : ∀ a b : Int, a + (-1) * b = a - b := fun a b => by omega
  try simp only [e]
  refine ⟨fun g => ?_, fun g k => g ⟨(show 0 ≤ x6 ∧ x6 < 48 from k.1.1), k.1.2⟩⟩
  exact ⟨fun k => ⟨⟨g.1, g.2⟩, k⟩, fun k => k.2⟩
theorem kIPrm : CtrOk Tryd.prog ρ0 cIPrm := by
  refine ctr_of (cf := cf0 [cIn, cSize, cInv, cBox, cCell]) (cf0_ok (((((keep0.cons kCell nCell).cons kBox nBox).cons kInv nInv).cons kSize nSize).cons kIn nIn)) Tryd.func21 rfl 3000 fun ds hr => ?_
  match ds, hr with
  | [d0, d1, d2, d3, d4, d5, d6, d7, d8, d9], hr =>
    obtain ⟨⟨⟨e0, l0, u0⟩, ⟨e1, l1, u1⟩, ⟨e2, l2, u2⟩, ⟨e3, l3, u3⟩, ⟨e4, l4, u4⟩, ⟨e5, l5, u5⟩, _⟩, ⟨⟨e6, l6, u6⟩, _⟩, ⟨⟨e7, l7, u7⟩, ⟨e8, l8, u8⟩, ⟨e9, l9, u9⟩, _⟩, _⟩ := hr
    generalize d0.i = x0 at *
    generalize d1.i = x1 at *
    generalize d2.i = x2 at *
    generalize d3.i = x3 at *
    generalize d4.i = x4 at *
    generalize d5.i = x5 at *
    generalize d6.i = x6 at *
    generalize d7.i = x7 at *
    generalize d8.i = x8 at *
    generalize d9.i = x9 at *
    subst e0 e1 e2 e3 e4 e5 e6 e7 e8 e9
    exact Eq.mpr (IPrmL x0 x1 x2 x3 x4 x5 x6 x7 x8 x9) (IPrmO x0 x1 x2 x3 x4 x5 x6 x7 x8 x9 ⟨l0, u0⟩ ⟨l1, u1⟩ ⟨l2, u2⟩ ⟨l3, u3⟩ ⟨l4, u4⟩ ⟨l5, u5⟩ ⟨l6, u6⟩ ⟨l7, u7⟩ ⟨l8, u8⟩ ⟨l9, u9⟩)
theorem nIPrm : ∃ fn, Tryd.prog.funcs[cIPrm.f]? = some fn ∧ fn.body.isSome = true ∧ (fn.name == "runtime.NumGoroutine") = false := ⟨_, Tryd.func21, by kernel_rfl, by kernel_rfl⟩

/-- What is left of the contract of voxelref19.InPrism. -/
def IPrmRP (x0 : Int) (x1 : Int) (x2 : Int) (x3 : Int) (x4 : Int) (x5 : Int) (x6 : Int) (x7 : Int) (x8 : Int) (x9 : Int) : Prop :=
  (
   ((((x6 < 0) ∨ (47 < x6)) ∨ (¬ ((Ff 201 [(xI (x7 + 0)), (xI (x8 + 0)), (xI (x9 + 0)), (xI (x0 + 0)), (xI (x1 + 0)), (xI (x2 + 0)), (xI (x3 + 0)), (xI (x4 + 0)), (xI (x5 + 0))]).b = true))) →
    ((false = true) ↔ (Ff 421 [xI x0, xI x1, xI x2, xI x3, xI x4, xI x5, xI x6, xI x7, xI x8, xI x9]).b = true))
  ∧
   ((¬ (((x6 < 0) ∨ (47 < x6)) ∨ (¬ ((Ff 201 [(xI (x7 + 0)), (xI (x8 + 0)), (xI (x9 + 0)), (xI (x0 + 0)), (xI (x1 + 0)), (xI (x2 + 0)), (xI (x3 + 0)), (xI (x4 + 0)), (xI (x5 + 0))]).b = true)))) →
    (((((Ff 293 [(xI ((Ff 311 [(xI (x6 + 0))]).i + 0)), (xI (x7 + 0)), (xI (x8 + 0)), (xI (x9 + 0))]).i - (Ff 300 [(xI ((Ff 311 [(xI (x6 + 0))]).i + 0)), (xI (x0 + 0)), (xI (x1 + 0)), (xI (x2 + 0)), (xI (x3 + 0)), (xI (x4 + 0)), (xI (x5 + 0))]).i) * (Ff 207 [(xI ((Ff 300 [(xI ((Ff 311 [(xI (x6 + 0))]).i + 0)), (xI (x0 + 0)), (xI (x1 + 0)), (xI (x2 + 0)), (xI (x3 + 0)), (xI (x4 + 0)), (xI (x5 + 0))]).i + 0)), (xI ((Ff 301 [(xI ((Ff 311 [(xI (x6 + 0))]).i + 0)), (xI (x0 + 0)), (xI (x1 + 0)), (xI (x2 + 0)), (xI (x3 + 0)), (xI (x4 + 0)), (xI (x5 + 0))]).i + 0)), (xI ((Ff 302 [(xI ((Ff 311 [(xI (x6 + 0))]).i + 0)), (xI (x0 + 0)), (xI (x1 + 0)), (xI (x2 + 0)), (xI (x3 + 0)), (xI (x4 + 0)), (xI (x5 + 0))]).i + 0)), (xI ((Ff 303 [(xI ((Ff 311 [(xI (x6 + 0))]).i + 0)), (xI (x0 + 0)), (xI (x1 + 0)), (xI (x2 + 0)), (xI (x3 + 0)), (xI (x4 + 0)), (xI (x5 + 0))]).i + 0)), (xI ((Ff 304 [(xI ((Ff 311 [(xI (x6 + 0))]).i + 0)), (xI (x0 + 0)), (xI (x1 + 0)), (xI (x2 + 0)), (xI (x3 + 0)), (xI (x4 + 0)), (xI (x5 + 0))]).i + 0)), (xI ((Ff 305 [(xI ((Ff 311 [(xI (x6 + 0))]).i + 0)), (xI (x0 + 0)), (xI (x1 + 0)), (xI (x2 + 0)), (xI (x3 + 0)), (xI (x4 + 0)), (xI (x5 + 0))]).i + 0))]).i) < ((((Ff 295 [(xI ((Ff 311 [(xI (x6 + 0))]).i + 0)), (xI (x7 + 0)), (xI (x8 + 0)), (xI (x9 + 0))]).i - (Ff 302 [(xI ((Ff 311 [(xI (x6 + 0))]).i + 0)), (xI (x0 + 0)), (xI (x1 + 0)), (xI (x2 + 0)), (xI (x3 + 0)), (xI (x4 + 0)), (xI (x5 + 0))]).i) + 1) * (Ff 205 [(xI ((Ff 300 [(xI ((Ff 311 [(xI (x6 + 0))]).i + 0)), (xI (x0 + 0)), (xI (x1 + 0)), (xI (x2 + 0)), (xI (x3 + 0)), (xI (x4 + 0)), (xI (x5 + 0))]).i + 0)), (xI ((Ff 301 [(xI ((Ff 311 [(xI (x6 + 0))]).i + 0)), (xI (x0 + 0)), (xI (x1 + 0)), (xI (x2 + 0)), (xI (x3 + 0)), (xI (x4 + 0)), (xI (x5 + 0))]).i + 0)), (xI ((Ff 302 [(xI ((Ff 311 [(xI (x6 + 0))]).i + 0)), (xI (x0 + 0)), (xI (x1 + 0)), (xI (x2 + 0)), (xI (x3 + 0)), (xI (x4 + 0)), (xI (x5 + 0))]).i + 0)), (xI ((Ff 303 [(xI ((Ff 311 [(xI (x6 + 0))]).i + 0)), (xI (x0 + 0)), (xI (x1 + 0)), (xI (x2 + 0)), (xI (x3 + 0)), (xI (x4 + 0)), (xI (x5 + 0))]).i + 0)), (xI ((Ff 304 [(xI ((Ff 311 [(xI (x6 + 0))]).i + 0)), (xI (x0 + 0)), (xI (x1 + 0)), (xI (x2 + 0)), (xI (x3 + 0)), (xI (x4 + 0)), (xI (x5 + 0))]).i + 0)), (xI ((Ff 305 [(xI ((Ff 311 [(xI (x6 + 0))]).i + 0)), (xI (x0 + 0)), (xI (x1 + 0)), (xI (x2 + 0)), (xI (x3 + 0)), (xI (x4 + 0)), (xI (x5 + 0))]).i + 0))]).i)) ↔ (Ff 421 [xI x0, xI x1, xI x2, xI x3, xI x4, xI x5, xI x6, xI x7, xI x8, xI x9]).b = true)))
theorem IPrmRL (x0 : Int) (x1 : Int) (x2 : Int) (x3 : Int) (x4 : Int) (x5 : Int) (x6 : Int) (x7 : Int) (x8 : Int) (x9 : Int) : ((walkF Tryd.prog (cf0 [cInR, cSizeR, cInvR, cBoxR, cCellR]) Tryd.f22 3000 (shS cIPrmR.args 0)).ctr { ρ0 with x := fun j => [xI x0, xI x1, xI x2, xI x3, xI x4, xI x5, xI x6, xI x7, xI x8, xI x9].getD j (xI 0) } (fun j => Ff j [xI x0, xI x1, xI x2, xI x3, xI x4, xI x5, xI x6, xI x7, xI x8, xI x9]) cIPrmR.fs cIPrmR.res) = IPrmRP x0 x1 x2 x3 x4 x5 x6 x7 x8 x9 := by kernel_rfl
set_option maxHeartbeats 1000000 in
theorem IPrmRO (x0 : Int) (x1 : Int) (x2 : Int) (x3 : Int) (x4 : Int) (x5 : Int) (x6 : Int) (x7 : Int) (x8 : Int) (x9 : Int) (h0 : -1048575 ≤ x0 ∧ x0 ≤ 1048575) (h1 : -1048575 ≤ x1 ∧ x1 ≤ 1048575) (h2 : -1048575 ≤ x2 ∧ x2 ≤ 1048575) (h3 : -1048575 ≤ x3 ∧ x3 ≤ 1048575) (h4 : -1048575 ≤ x4 ∧ x4 ≤ 1048575) (h5 : -1048575 ≤ x5 ∧ x5 ≤ 1048575) (h6 : -9223372036854775808 ≤ x6 ∧ x6 ≤ 9223372036854775807) (h7 : -1048576 ≤ x7 ∧ x7 ≤ 1048575) (h8 : -1048576 ≤ x8 ∧ x8 ≤ 1048575) (h9 : -1048576 ≤ x9 ∧ x9 ≤ 1048575) : IPrmRP x0 x1 x2 x3 x4 x5 x6 x7 x8 x9 := by
  unfold IPrmRP
  simp only [G201, G205, G207, G293, G295, G300, G301, G302, G303, G304, G305, G311, G421, xI_i, xB_b, Int.add_zero, Bool.and_eq_true, decide_eq_true_eq, false_iff, Bool.false_eq_true]
  unfold prmB
  simp only [decide_eq_true_eq]
  have e : ∀ a b : Int, a + (-1) * b = a - b := fun a b => by omega
  try simp only [e]
  refine ⟨fun g k => ?_, fun g => ?_⟩
  · have := k.1.1
    unfold inT at this
    rcases g with (g | g) | g
    · omega
    · omega
    · exact g k.1.2
  · have hi : inT x6 := by unfold inT; omega
    have hb : inB x7 x8 x9 x0 x1 x2 x3 x4 x5 := Classical.not_not.1 fun h => g (.inr h)
    exact ⟨fun k => ⟨⟨hi, hb⟩, k⟩, fun k => k.2⟩
theorem kIPrmR : CtrOk Tryd.prog ρ0 cIPrmR := by
  refine ctr_of (cf := cf0 [cInR, cSizeR, cInvR, cBoxR, cCellR]) (cf0_ok (((((keep0.cons kCellR nCellR).cons kBoxR nBoxR).cons kInvR nInvR).cons kSizeR nSizeR).cons kInR nInR)) Tryd.func22 rfl 3000 fun ds hr => ?_
  match ds, hr with
  | [d0, d1, d2, d3, d4, d5, d6, d7, d8, d9], hr =>
    obtain ⟨⟨⟨e0, l0, u0⟩, ⟨e1, l1, u1⟩, ⟨e2, l2, u2⟩, ⟨e3, l3, u3⟩, ⟨e4, l4, u4⟩, ⟨e5, l5, u5⟩, _⟩, ⟨⟨e6, l6, u6⟩, _⟩, ⟨⟨e7, l7, u7⟩, ⟨e8, l8, u8⟩, ⟨e9, l9, u9⟩, _⟩, _⟩ := hr
    generalize d0.i = x0 at *
    generalize d1.i = x1 at *
    generalize d2.i = x2 at *
    generalize d3.i = x3 at *
    generalize d4.i = x4 at *
    generalize d5.i = x5 at *
    generalize d6.i = x6 at *
    generalize d7.i = x7 at *
    generalize d8.i = x8 at *
    generalize d9.i = x9 at *
    subst e0 e1 e2 e3 e4 e5 e6 e7 e8 e9
    exact Eq.mpr (IPrmRL x0 x1 x2 x3 x4 x5 x6 x7 x8 x9) (IPrmRO x0 x1 x2 x3 x4 x5 x6 x7 x8 x9 ⟨l0, u0⟩ ⟨l1, u1⟩ ⟨l2, u2⟩ ⟨l3, u3⟩ ⟨l4, u4⟩ ⟨l5, u5⟩ ⟨l6, u6⟩ ⟨l7, u7⟩ ⟨l8, u8⟩ ⟨l9, u9⟩)
theorem nIPrmR : ∃ fn, Tryd.prog.funcs[cIPrmR.f]? = some fn ∧ fn.body.isSome = true ∧ (fn.name == "runtime.NumGoroutine") = false := ⟨_, Tryd.func22, by kernel_rfl, by kernel_rfl⟩
end Vc
end Go.Proofs.YtipcadjfhndcnaaDoor
