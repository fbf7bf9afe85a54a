/- Contracts of functions, each out of one walk. -/
import Derived.Test.YtleapeclbkclaaaDoorC04C
import Derived.Test.YtleapeclbkclaaaDoorC04D
namespace Go.Proofs.YtleapeclbkclaaaDoor
namespace Vc
open Go Go.RowKit
set_option linter.unusedVariables false

/-- What is left of the contract of point.Volume. -/
def VolP (x0 : Int) (x1 : Int) (x2 : Int) (x3 : Int) (x4 : Int) (x5 : Int) : Prop :=
  ((((Ff 205 [(xI x0), (xI x1), (xI x2), (xI x3), (xI x4), (xI x5)]).i * (Ff 206 [(xI x0), (xI x1), (xI x2), (xI x3), (xI x4), (xI x5)]).i) * (Ff 207 [(xI x0), (xI x1), (xI x2), (xI x3), (xI x4), (xI x5)]).i) = (Ff 210 [xI x0, xI x1, xI x2, xI x3, xI x4, xI x5]).i ∧ 0 ≤ (Ff 210 [xI x0, xI x1, xI x2, xI x3, xI x4, xI x5]).i ∧ (Ff 210 [xI x0, xI x1, xI x2, xI x3, xI x4, xI x5]).i ≤ 9223345648600875000)
theorem VolL (x0 : Int) (x1 : Int) (x2 : Int) (x3 : Int) (x4 : Int) (x5 : Int) : ((walkF Tryd.prog (cf0 [cSize]) Tryd.f48 3000 (shS cVol.args 0)).ctr { ρ0 with x := fun j => [xI x0, xI x1, xI x2, xI x3, xI x4, xI x5].getD j (xI 0) } (fun j => Ff j [xI x0, xI x1, xI x2, xI x3, xI x4, xI x5]) cVol.fs cVol.res) = VolP x0 x1 x2 x3 x4 x5 := by kernel_rfl
set_option maxHeartbeats 1000000 in
theorem VolO (x0 : Int) (x1 : Int) (x2 : Int) (x3 : Int) (x4 : Int) (x5 : Int) (h0 : -1048575 ≤ x0 ∧ x0 ≤ 1048575) (h1 : -1048575 ≤ x1 ∧ x1 ≤ 1048575) (h2 : -1048575 ≤ x2 ∧ x2 ≤ 1048575) (h3 : -1048575 ≤ x3 ∧ x3 ≤ 1048575) (h4 : -1048575 ≤ x4 ∧ x4 ≤ 1048575) (h5 : -1048575 ≤ x5 ∧ x5 ≤ 1048575) : VolP x0 x1 x2 x3 x4 x5 := by
  unfold VolP
  simp only [F205, F206, F207, F210, xI_i]
  try simp only [Int.add_zero]
  have hv := vol_rng h0 h1 h2 h3 h4 h5
  refine ⟨?_, hv⟩
  exact vol_szB x0 x1 x2 x3 x4 x5
theorem kVol : CtrOk Tryd.prog ρ0 cVol := by
  refine ctr_of (cf := cf0 [cSize]) (cf0_ok (keep0.cons kSize nSize)) Tryd.func48 rfl 3000 fun ds hr => ?_
  match ds, hr with
  | [d0, d1, d2, d3, d4, d5], hr =>
    obtain ⟨⟨⟨e0, l0, u0⟩, ⟨e1, l1, u1⟩, ⟨e2, l2, u2⟩, ⟨e3, l3, u3⟩, ⟨e4, l4, u4⟩, ⟨e5, l5, u5⟩, _⟩, _⟩ := hr
    generalize d0.i = x0 at *
    generalize d1.i = x1 at *
    generalize d2.i = x2 at *
    generalize d3.i = x3 at *
    generalize d4.i = x4 at *
    generalize d5.i = x5 at *
    subst e0 e1 e2 e3 e4 e5
    exact Eq.mpr (VolL x0 x1 x2 x3 x4 x5) (VolO x0 x1 x2 x3 x4 x5 ⟨l0, u0⟩ ⟨l1, u1⟩ ⟨l2, u2⟩ ⟨l3, u3⟩ ⟨l4, u4⟩ ⟨l5, u5⟩)
theorem nVol : ∃ fn, Tryd.prog.funcs[cVol.f]? = some fn ∧ fn.body.isSome = true ∧ (fn.name == "runtime.NumGoroutine") = false := ⟨_, Tryd.func48, by kernel_rfl, by kernel_rfl⟩

/-- What is left of the contract of voxelref04.Volume. -/
def VolRP (x0 : Int) (x1 : Int) (x2 : Int) (x3 : Int) (x4 : Int) (x5 : Int) : Prop :=
  ((((Ff 205 [(xI x0), (xI x1), (xI x2), (xI x3), (xI x4), (xI x5)]).i * (Ff 206 [(xI x0), (xI x1), (xI x2), (xI x3), (xI x4), (xI x5)]).i) * (Ff 207 [(xI x0), (xI x1), (xI x2), (xI x3), (xI x4), (xI x5)]).i) = (Ff 210 [xI x0, xI x1, xI x2, xI x3, xI x4, xI x5]).i ∧ 0 ≤ (Ff 210 [xI x0, xI x1, xI x2, xI x3, xI x4, xI x5]).i ∧ (Ff 210 [xI x0, xI x1, xI x2, xI x3, xI x4, xI x5]).i ≤ 9223345648600875000)
theorem VolRL (x0 : Int) (x1 : Int) (x2 : Int) (x3 : Int) (x4 : Int) (x5 : Int) : ((walkF Tryd.prog (cf0 [cSizeR]) Tryd.f10 3000 (shS cVolR.args 0)).ctr { ρ0 with x := fun j => [xI x0, xI x1, xI x2, xI x3, xI x4, xI x5].getD j (xI 0) } (fun j => Ff j [xI x0, xI x1, xI x2, xI x3, xI x4, xI x5]) cVolR.fs cVolR.res) = VolRP x0 x1 x2 x3 x4 x5 := by kernel_rfl
set_option maxHeartbeats 1000000 in
theorem VolRO (x0 : Int) (x1 : Int) (x2 : Int) (x3 : Int) (x4 : Int) (x5 : Int) (h0 : -1048575 ≤ x0 ∧ x0 ≤ 1048575) (h1 : -1048575 ≤ x1 ∧ x1 ≤ 1048575) (h2 : -1048575 ≤ x2 ∧ x2 ≤ 1048575) (h3 : -1048575 ≤ x3 ∧ x3 ≤ 1048575) (h4 : -1048575 ≤ x4 ∧ x4 ≤ 1048575) (h5 : -1048575 ≤ x5 ∧ x5 ≤ 1048575) : VolRP x0 x1 x2 x3 x4 x5 := by
  unfold VolRP
  simp only [F205, F206, F207, F210, xI_i]
  try simp only [Int.add_zero]
  have hv := vol_rng h0 h1 h2 h3 h4 h5
  refine ⟨?_, hv⟩
  exact vol_szB x0 x1 x2 x3 x4 x5
theorem kVolR : CtrOk Tryd.prog ρ0 cVolR := by
  refine ctr_of (cf := cf0 [cSizeR]) (cf0_ok (keep0.cons kSizeR nSizeR)) Tryd.func10 rfl 3000 fun ds hr => ?_
  match ds, hr with
  | [d0, d1, d2, d3, d4, d5], hr =>
    obtain ⟨⟨⟨e0, l0, u0⟩, ⟨e1, l1, u1⟩, ⟨e2, l2, u2⟩, ⟨e3, l3, u3⟩, ⟨e4, l4, u4⟩, ⟨e5, l5, u5⟩, _⟩, _⟩ := hr
    generalize d0.i = x0 at *
    generalize d1.i = x1 at *
    generalize d2.i = x2 at *
    generalize d3.i = x3 at *
    generalize d4.i = x4 at *
    generalize d5.i = x5 at *
    subst e0 e1 e2 e3 e4 e5
    exact Eq.mpr (VolRL x0 x1 x2 x3 x4 x5) (VolRO x0 x1 x2 x3 x4 x5 ⟨l0, u0⟩ ⟨l1, u1⟩ ⟨l2, u2⟩ ⟨l3, u3⟩ ⟨l4, u4⟩ ⟨l5, u5⟩)
theorem nVolR : ∃ fn, Tryd.prog.funcs[cVolR.f]? = some fn ∧ fn.body.isSome = true ∧ (fn.name == "runtime.NumGoroutine") = false := ⟨_, Tryd.func10, by kernel_rfl, by kernel_rfl⟩

/-- What is left of the contract of voxelref04.Contains. -/
def ContRP (x0 : Int) (x1 : Int) (x2 : Int) (x3 : Int) (x4 : Int) (x5 : Int) (x6 : Int) (x7 : Int) (x8 : Int) (x9 : Int) (x10 : Int) (x11 : Int) : Prop :=
  (((Ff 210 [(xI (Ff 220 [(xI x0), (xI x1), (xI x2), (xI x3), (xI x4), (xI x5), (xI x6), (xI x7), (xI x8), (xI x9), (xI x10), (xI x11)]).i), (xI (Ff 221 [(xI x0), (xI x1), (xI x2), (xI x3), (xI x4), (xI x5), (xI x6), (xI x7), (xI x8), (xI x9), (xI x10), (xI x11)]).i), (xI (Ff 222 [(xI x0), (xI x1), (xI x2), (xI x3), (xI x4), (xI x5), (xI x6), (xI x7), (xI x8), (xI x9), (xI x10), (xI x11)]).i), (xI (Ff 223 [(xI x0), (xI x1), (xI x2), (xI x3), (xI x4), (xI x5), (xI x6), (xI x7), (xI x8), (xI x9), (xI x10), (xI x11)]).i), (xI (Ff 224 [(xI x0), (xI x1), (xI x2), (xI x3), (xI x4), (xI x5), (xI x6), (xI x7), (xI x8), (xI x9), (xI x10), (xI x11)]).i), (xI (Ff 225 [(xI x0), (xI x1), (xI x2), (xI x3), (xI x4), (xI x5), (xI x6), (xI x7), (xI x8), (xI x9), (xI x10), (xI x11)]).i)]).i = (Ff 210 [(xI x6), (xI x7), (xI x8), (xI x9), (xI x10), (xI x11)]).i) ↔ (Ff 240 [xI x0, xI x1, xI x2, xI x3, xI x4, xI x5, xI x6, xI x7, xI x8, xI x9, xI x10, xI x11]).b = true)
theorem ContRL (x0 : Int) (x1 : Int) (x2 : Int) (x3 : Int) (x4 : Int) (x5 : Int) (x6 : Int) (x7 : Int) (x8 : Int) (x9 : Int) (x10 : Int) (x11 : Int) : ((walkF Tryd.prog (cf0 [cInterR, cVolR]) Tryd.f34 3000 (shS cContR.args 0)).ctr { ρ0 with x := fun j => [xI x0, xI x1, xI x2, xI x3, xI x4, xI x5, xI x6, xI x7, xI x8, xI x9, xI x10, xI x11].getD j (xI 0) } (fun j => Ff j [xI x0, xI x1, xI x2, xI x3, xI x4, xI x5, xI x6, xI x7, xI x8, xI x9, xI x10, xI x11]) cContR.fs cContR.res) = ContRP x0 x1 x2 x3 x4 x5 x6 x7 x8 x9 x10 x11 := by kernel_rfl
set_option maxHeartbeats 1000000 in
theorem ContRO (x0 : Int) (x1 : Int) (x2 : Int) (x3 : Int) (x4 : Int) (x5 : Int) (x6 : Int) (x7 : Int) (x8 : Int) (x9 : Int) (x10 : Int) (x11 : Int) (h0 : -1048575 ≤ x0 ∧ x0 ≤ 1048575) (h1 : -1048575 ≤ x1 ∧ x1 ≤ 1048575) (h2 : -1048575 ≤ x2 ∧ x2 ≤ 1048575) (h3 : -1048575 ≤ x3 ∧ x3 ≤ 1048575) (h4 : -1048575 ≤ x4 ∧ x4 ≤ 1048575) (h5 : -1048575 ≤ x5 ∧ x5 ≤ 1048575) (h6 : -1048575 ≤ x6 ∧ x6 ≤ 1048575) (h7 : -1048575 ≤ x7 ∧ x7 ≤ 1048575) (h8 : -1048575 ≤ x8 ∧ x8 ≤ 1048575) (h9 : -1048575 ≤ x9 ∧ x9 ≤ 1048575) (h10 : -1048575 ≤ x10 ∧ x10 ≤ 1048575) (h11 : -1048575 ≤ x11 ∧ x11 ≤ 1048575) : ContRP x0 x1 x2 x3 x4 x5 x6 x7 x8 x9 x10 x11 := by
  unfold ContRP
  simp only [F210, F220, F221, F222, F223, F224, F225, F240, xI_i, xB_b]
  try simp only [Int.add_zero]
  exact (vol_contains x0 x1 x2 x3 x4 x5 x6 x7 x8 x9 x10 x11).trans decide_eq_true_iff.symm
theorem kContR : CtrOk Tryd.prog ρ0 cContR := by
  refine ctr_of (cf := cf0 [cInterR, cVolR]) (cf0_ok ((keep0.cons kVolR nVolR).cons kInterR nInterR)) Tryd.func34 rfl 3000 fun ds hr => ?_
  match ds, hr with
  | [d0, d1, d2, d3, d4, d5, d6, d7, d8, d9, d10, d11], hr =>
    obtain ⟨⟨⟨e0, l0, u0⟩, ⟨e1, l1, u1⟩, ⟨e2, l2, u2⟩, ⟨e3, l3, u3⟩, ⟨e4, l4, u4⟩, ⟨e5, l5, u5⟩, _⟩, ⟨⟨e6, l6, u6⟩, ⟨e7, l7, u7⟩, ⟨e8, l8, u8⟩, ⟨e9, l9, u9⟩, ⟨e10, l10, u10⟩, ⟨e11, l11, u11⟩, _⟩, _⟩ := hr
    generalize d0.i = x0 at *
    generalize d1.i = x1 at *
    generalize d2.i = x2 at *
    generalize d3.i = x3 at *
    generalize d4.i = x4 at *
    generalize d5.i = x5 at *
    generalize d6.i = x6 at *
    generalize d7.i = x7 at *
    generalize d8.i = x8 at *
    generalize d9.i = x9 at *
    generalize d10.i = x10 at *
    generalize d11.i = x11 at *
    subst e0 e1 e2 e3 e4 e5 e6 e7 e8 e9 e10 e11
    exact Eq.mpr (ContRL x0 x1 x2 x3 x4 x5 x6 x7 x8 x9 x10 x11) (ContRO x0 x1 x2 x3 x4 x5 x6 x7 x8 x9 x10 x11 ⟨l0, u0⟩ ⟨l1, u1⟩ ⟨l2, u2⟩ ⟨l3, u3⟩ ⟨l4, u4⟩ ⟨l5, u5⟩ ⟨l6, u6⟩ ⟨l7, u7⟩ ⟨l8, u8⟩ ⟨l9, u9⟩ ⟨l10, u10⟩ ⟨l11, u11⟩)
theorem nContR : ∃ fn, Tryd.prog.funcs[cContR.f]? = some fn ∧ fn.body.isSome = true ∧ (fn.name == "runtime.NumGoroutine") = false := ⟨_, Tryd.func34, by kernel_rfl, by kernel_rfl⟩

/-- What is left of the contract of point.Index. -/
def IndexP (x0 : Int) (x1 : Int) (x2 : Int) (x3 : Int) (x4 : Int) (x5 : Int) (x6 : Int) (x7 : Int) (x8 : Int) : Prop :=
  (
   ((¬ ((Ff 201 [(xI x6), (xI x7), (xI x8), (xI x0), (xI x1), (xI x2), (xI x3), (xI x4), (xI x5)]).b = true)) →
    ((-1) = (Ff 260 [xI x0, xI x1, xI x2, xI x3, xI x4, xI x5, xI x6, xI x7, xI x8]).i ∧ -1 ≤ (Ff 260 [xI x0, xI x1, xI x2, xI x3, xI x4, xI x5, xI x6, xI x7, xI x8]).i ∧ (Ff 260 [xI x0, xI x1, xI x2, xI x3, xI x4, xI x5, xI x6, xI x7, xI x8]).i ≤ 9223345648600874999))
  ∧
   (((Ff 201 [(xI x6), (xI x7), (xI x8), (xI x0), (xI x1), (xI x2), (xI x3), (xI x4), (xI x5)]).b = true) →
    ((((((x8 + ((-1) * x2)) * (Ff 206 [(xI x0), (xI x1), (xI x2), (xI x3), (xI x4), (xI x5)]).i) + (x7 + ((-1) * x1))) * (Ff 205 [(xI x0), (xI x1), (xI x2), (xI x3), (xI x4), (xI x5)]).i) + (x6 + ((-1) * x0))) = (Ff 260 [xI x0, xI x1, xI x2, xI x3, xI x4, xI x5, xI x6, xI x7, xI x8]).i ∧ -1 ≤ (Ff 260 [xI x0, xI x1, xI x2, xI x3, xI x4, xI x5, xI x6, xI x7, xI x8]).i ∧ (Ff 260 [xI x0, xI x1, xI x2, xI x3, xI x4, xI x5, xI x6, xI x7, xI x8]).i ≤ 9223345648600874999)))
theorem IndexL (x0 : Int) (x1 : Int) (x2 : Int) (x3 : Int) (x4 : Int) (x5 : Int) (x6 : Int) (x7 : Int) (x8 : Int) : ((walkF Tryd.prog (cf0 [cIn, cSize]) Tryd.f56 3000 (shS cIndex.args 0)).ctr { ρ0 with x := fun j => [xI x0, xI x1, xI x2, xI x3, xI x4, xI x5, xI x6, xI x7, xI x8].getD j (xI 0) } (fun j => Ff j [xI x0, xI x1, xI x2, xI x3, xI x4, xI x5, xI x6, xI x7, xI x8]) cIndex.fs cIndex.res) = IndexP x0 x1 x2 x3 x4 x5 x6 x7 x8 := by kernel_rfl
set_option maxHeartbeats 1000000 in
theorem IndexO (x0 : Int) (x1 : Int) (x2 : Int) (x3 : Int) (x4 : Int) (x5 : Int) (x6 : Int) (x7 : Int) (x8 : Int) (h0 : -1048575 ≤ x0 ∧ x0 ≤ 1048575) (h1 : -1048575 ≤ x1 ∧ x1 ≤ 1048575) (h2 : -1048575 ≤ x2 ∧ x2 ≤ 1048575) (h3 : -1048575 ≤ x3 ∧ x3 ≤ 1048575) (h4 : -1048575 ≤ x4 ∧ x4 ≤ 1048575) (h5 : -1048575 ≤ x5 ∧ x5 ≤ 1048575) (h6 : -1048576 ≤ x6 ∧ x6 ≤ 1048576) (h7 : -1048576 ≤ x7 ∧ x7 ≤ 1048576) (h8 : -1048576 ≤ x8 ∧ x8 ≤ 1048576) : IndexP x0 x1 x2 x3 x4 x5 x6 x7 x8 := by
  unfold IndexP
  simp only [F201, F205, F206, F260, xI_i, xB_b]
  try simp only [Int.add_zero]
  by_cases p : inB x6 x7 x8 x0 x1 x2 x3 x4 x5
  · have ne := inB_ne p
    have r := idB_rng h0 h1 h2 h3 h4 h5 p
    simp only [p, decide_true, szB, if_pos ne]
    unfold idB at r ⊢
    simp only [if_pos p] at r ⊢
    refine ⟨fun h => absurd trivial h, fun _ => ⟨?_, by omega, by omega⟩⟩
    have e1 : x8 + -1 * x2 = x8 - x2 := by omega
    have e2 : x7 + -1 * x1 = x7 - x1 := by omega
    rw [e1, e2]; omega
  · simp [p, idB]
theorem kIndex : CtrOk Tryd.prog ρ0 cIndex := by
  refine ctr_of (cf := cf0 [cIn, cSize]) (cf0_ok ((keep0.cons kSize nSize).cons kIn nIn)) Tryd.func56 rfl 3000 fun ds hr => ?_
  match ds, hr with
  | [d0, d1, d2, d3, d4, d5, d6, d7, d8], hr =>
    obtain ⟨⟨⟨e0, l0, u0⟩, ⟨e1, l1, u1⟩, ⟨e2, l2, u2⟩, ⟨e3, l3, u3⟩, ⟨e4, l4, u4⟩, ⟨e5, l5, u5⟩, _⟩, ⟨⟨e6, l6, u6⟩, ⟨e7, l7, u7⟩, ⟨e8, l8, u8⟩, _⟩, _⟩ := hr
    generalize d0.i = x0 at *
    generalize d1.i = x1 at *
    generalize d2.i = x2 at *
    generalize d3.i = x3 at *
    generalize d4.i = x4 at *
    generalize d5.i = x5 at *
    generalize d6.i = x6 at *
    generalize d7.i = x7 at *
    generalize d8.i = x8 at *
    subst e0 e1 e2 e3 e4 e5 e6 e7 e8
    exact Eq.mpr (IndexL x0 x1 x2 x3 x4 x5 x6 x7 x8) (IndexO x0 x1 x2 x3 x4 x5 x6 x7 x8 ⟨l0, u0⟩ ⟨l1, u1⟩ ⟨l2, u2⟩ ⟨l3, u3⟩ ⟨l4, u4⟩ ⟨l5, u5⟩ ⟨l6, u6⟩ ⟨l7, u7⟩ ⟨l8, u8⟩)
theorem nIndex : ∃ fn, Tryd.prog.funcs[cIndex.f]? = some fn ∧ fn.body.isSome = true ∧ (fn.name == "runtime.NumGoroutine") = false := ⟨_, Tryd.func56, by kernel_rfl, by kernel_rfl⟩

/-- What is left of the contract of voxelref04.Index. -/
def IndexRP (x0 : Int) (x1 : Int) (x2 : Int) (x3 : Int) (x4 : Int) (x5 : Int) (x6 : Int) (x7 : Int) (x8 : Int) : Prop :=
  (
   ((¬ ((Ff 201 [(xI x6), (xI x7), (xI x8), (xI x0), (xI x1), (xI x2), (xI x3), (xI x4), (xI x5)]).b = true)) →
    ((-1) = (Ff 260 [xI x0, xI x1, xI x2, xI x3, xI x4, xI x5, xI x6, xI x7, xI x8]).i ∧ -1 ≤ (Ff 260 [xI x0, xI x1, xI x2, xI x3, xI x4, xI x5, xI x6, xI x7, xI x8]).i ∧ (Ff 260 [xI x0, xI x1, xI x2, xI x3, xI x4, xI x5, xI x6, xI x7, xI x8]).i ≤ 9223345648600874999))
  ∧
   (((Ff 201 [(xI x6), (xI x7), (xI x8), (xI x0), (xI x1), (xI x2), (xI x3), (xI x4), (xI x5)]).b = true) →
    (((x6 - x0) + ((Ff 205 [(xI x0), (xI x1), (xI x2), (xI x3), (xI x4), (xI x5)]).i * ((x7 - x1) + ((Ff 206 [(xI x0), (xI x1), (xI x2), (xI x3), (xI x4), (xI x5)]).i * (x8 - x2))))) = (Ff 260 [xI x0, xI x1, xI x2, xI x3, xI x4, xI x5, xI x6, xI x7, xI x8]).i ∧ -1 ≤ (Ff 260 [xI x0, xI x1, xI x2, xI x3, xI x4, xI x5, xI x6, xI x7, xI x8]).i ∧ (Ff 260 [xI x0, xI x1, xI x2, xI x3, xI x4, xI x5, xI x6, xI x7, xI x8]).i ≤ 9223345648600874999)))
theorem IndexRL (x0 : Int) (x1 : Int) (x2 : Int) (x3 : Int) (x4 : Int) (x5 : Int) (x6 : Int) (x7 : Int) (x8 : Int) : ((walkF Tryd.prog (cf0 [cInR, cSizeR]) Tryd.f36 3000 (shS cIndexR.args 0)).ctr { ρ0 with x := fun j => [xI x0, xI x1, xI x2, xI x3, xI x4, xI x5, xI x6, xI x7, xI x8].getD j (xI 0) } (fun j => Ff j [xI x0, xI x1, xI x2, xI x3, xI x4, xI x5, xI x6, xI x7, xI x8]) cIndexR.fs cIndexR.res) = IndexRP x0 x1 x2 x3 x4 x5 x6 x7 x8 := by kernel_rfl
set_option maxHeartbeats 1000000 in
theorem IndexRO (x0 : Int) (x1 : Int) (x2 : Int) (x3 : Int) (x4 : Int) (x5 : Int) (x6 : Int) (x7 : Int) (x8 : Int) (h0 : -1048575 ≤ x0 ∧ x0 ≤ 1048575) (h1 : -1048575 ≤ x1 ∧ x1 ≤ 1048575) (h2 : -1048575 ≤ x2 ∧ x2 ≤ 1048575) (h3 : -1048575 ≤ x3 ∧ x3 ≤ 1048575) (h4 : -1048575 ≤ x4 ∧ x4 ≤ 1048575) (h5 : -1048575 ≤ x5 ∧ x5 ≤ 1048575) (h6 : -1048576 ≤ x6 ∧ x6 ≤ 1048576) (h7 : -1048576 ≤ x7 ∧ x7 ≤ 1048576) (h8 : -1048576 ≤ x8 ∧ x8 ≤ 1048576) : IndexRP x0 x1 x2 x3 x4 x5 x6 x7 x8 := by
  unfold IndexRP
  simp only [F201, F205, F206, F260, xI_i, xB_b]
  try simp only [Int.add_zero]
  by_cases p : inB x6 x7 x8 x0 x1 x2 x3 x4 x5
  · have ne := inB_ne p
    have r := idB_rng h0 h1 h2 h3 h4 h5 p
    simp only [p, decide_true, szB, if_pos ne]
    unfold idB at r ⊢
    simp only [if_pos p] at r ⊢
    refine ⟨fun h => absurd trivial h, fun _ => ⟨?_, by omega, by omega⟩⟩
    rw [Int.mul_comm (x3 - x0), Int.mul_comm (x4 - x1), Int.add_comm (x7 - x1)]; omega
  · simp [p, idB]
theorem kIndexR : CtrOk Tryd.prog ρ0 cIndexR := by
  refine ctr_of (cf := cf0 [cInR, cSizeR]) (cf0_ok ((keep0.cons kSizeR nSizeR).cons kInR nInR)) Tryd.func36 rfl 3000 fun ds hr => ?_
  match ds, hr with
  | [d0, d1, d2, d3, d4, d5, d6, d7, d8], hr =>
    obtain ⟨⟨⟨e0, l0, u0⟩, ⟨e1, l1, u1⟩, ⟨e2, l2, u2⟩, ⟨e3, l3, u3⟩, ⟨e4, l4, u4⟩, ⟨e5, l5, u5⟩, _⟩, ⟨⟨e6, l6, u6⟩, ⟨e7, l7, u7⟩, ⟨e8, l8, u8⟩, _⟩, _⟩ := hr
    generalize d0.i = x0 at *
    generalize d1.i = x1 at *
    generalize d2.i = x2 at *
    generalize d3.i = x3 at *
    generalize d4.i = x4 at *
    generalize d5.i = x5 at *
    generalize d6.i = x6 at *
    generalize d7.i = x7 at *
    generalize d8.i = x8 at *
    subst e0 e1 e2 e3 e4 e5 e6 e7 e8
    exact Eq.mpr (IndexRL x0 x1 x2 x3 x4 x5 x6 x7 x8) (IndexRO x0 x1 x2 x3 x4 x5 x6 x7 x8 ⟨l0, u0⟩ ⟨l1, u1⟩ ⟨l2, u2⟩ ⟨l3, u3⟩ ⟨l4, u4⟩ ⟨l5, u5⟩ ⟨l6, u6⟩ ⟨l7, u7⟩ ⟨l8, u8⟩)
theorem nIndexR : ∃ fn, Tryd.prog.funcs[cIndexR.f]? = some fn ∧ fn.body.isSome = true ∧ (fn.name == "runtime.NumGoroutine") = false := ⟨_, Tryd.func36, by kernel_rfl, by kernel_rfl⟩

/-- What is left of the contract of point.At. -/
def AtP (x0 : Int) (x1 : Int) (x2 : Int) (x3 : Int) (x4 : Int) (x5 : Int) (x6 : Int) : Prop :=
  (
   (((x6 < 0) ∨ ((Ff 210 [(xI x0), (xI x1), (xI x2), (xI x3), (xI x4), (xI x5)]).i ≤ x6)) →
    (((0 = (Ff 270 [xI x0, xI x1, xI x2, xI x3, xI x4, xI x5, xI x6]).i ∧ -1048575 ≤ (Ff 270 [xI x0, xI x1, xI x2, xI x3, xI x4, xI x5, xI x6]).i ∧ (Ff 270 [xI x0, xI x1, xI x2, xI x3, xI x4, xI x5, xI x6]).i ≤ 1048575) ∧ ((0 = (Ff 271 [xI x0, xI x1, xI x2, xI x3, xI x4, xI x5, xI x6]).i ∧ -1048575 ≤ (Ff 271 [xI x0, xI x1, xI x2, xI x3, xI x4, xI x5, xI x6]).i ∧ (Ff 271 [xI x0, xI x1, xI x2, xI x3, xI x4, xI x5, xI x6]).i ≤ 1048575) ∧ (0 = (Ff 272 [xI x0, xI x1, xI x2, xI x3, xI x4, xI x5, xI x6]).i ∧ -1048575 ≤ (Ff 272 [xI x0, xI x1, xI x2, xI x3, xI x4, xI x5, xI x6]).i ∧ (Ff 272 [xI x0, xI x1, xI x2, xI x3, xI x4, xI x5, xI x6]).i ≤ 1048575))) ∧ (((false = true) ↔ (Ff 273 [xI x0, xI x1, xI x2, xI x3, xI x4, xI x5, xI x6]).b = true) ∧ True)))
  ∧
   ((¬ ((x6 < 0) ∨ ((Ff 210 [(xI x0), (xI x1), (xI x2), (xI x3), (xI x4), (xI x5)]).i ≤ x6))) →
    (
     (0 < (Ff 205 [(xI x0), (xI x1), (xI x2), (xI x3), (xI x4), (xI x5)]).i)
    ∧
     (
      (0 < (Ff 206 [(xI x0), (xI x1), (xI x2), (xI x3), (xI x4), (xI x5)]).i)
     ∧
      (
       (0 < (Ff 206 [(xI x0), (xI x1), (xI x2), (xI x3), (xI x4), (xI x5)]).i)
      ∧
       (
        (0 < (Ff 205 [(xI x0), (xI x1), (xI x2), (xI x3), (xI x4), (xI x5)]).i)
       ∧
        ((((x0 + (x6 % (Ff 205 [(xI x0), (xI x1), (xI x2), (xI x3), (xI x4), (xI x5)]).i)) = (Ff 270 [xI x0, xI x1, xI x2, xI x3, xI x4, xI x5, xI x6]).i ∧ -1048575 ≤ (Ff 270 [xI x0, xI x1, xI x2, xI x3, xI x4, xI x5, xI x6]).i ∧ (Ff 270 [xI x0, xI x1, xI x2, xI x3, xI x4, xI x5, xI x6]).i ≤ 1048575) ∧ (((x1 + ((x6 / (Ff 205 [(xI x0), (xI x1), (xI x2), (xI x3), (xI x4), (xI x5)]).i) % (Ff 206 [(xI x0), (xI x1), (xI x2), (xI x3), (xI x4), (xI x5)]).i)) = (Ff 271 [xI x0, xI x1, xI x2, xI x3, xI x4, xI x5, xI x6]).i ∧ -1048575 ≤ (Ff 271 [xI x0, xI x1, xI x2, xI x3, xI x4, xI x5, xI x6]).i ∧ (Ff 271 [xI x0, xI x1, xI x2, xI x3, xI x4, xI x5, xI x6]).i ≤ 1048575) ∧ ((IntKind.wrap Go.IntKind.i64 (x2 + ((x6 / (Ff 205 [(xI x0), (xI x1), (xI x2), (xI x3), (xI x4), (xI x5)]).i) / (Ff 206 [(xI x0), (xI x1), (xI x2), (xI x3), (xI x4), (xI x5)]).i))) = (Ff 272 [xI x0, xI x1, xI x2, xI x3, xI x4, xI x5, xI x6]).i ∧ -1048575 ≤ (Ff 272 [xI x0, xI x1, xI x2, xI x3, xI x4, xI x5, xI x6]).i ∧ (Ff 272 [xI x0, xI x1, xI x2, xI x3, xI x4, xI x5, xI x6]).i ≤ 1048575))) ∧ (((true = true) ↔ (Ff 273 [xI x0, xI x1, xI x2, xI x3, xI x4, xI x5, xI x6]).b = true) ∧ True))))))))
theorem AtL (x0 : Int) (x1 : Int) (x2 : Int) (x3 : Int) (x4 : Int) (x5 : Int) (x6 : Int) : ((walkF Tryd.prog (cf0 [cVol, cSize]) Tryd.f76 3000 (shS cAt.args 0)).ctr { ρ0 with x := fun j => [xI x0, xI x1, xI x2, xI x3, xI x4, xI x5, xI x6].getD j (xI 0) } (fun j => Ff j [xI x0, xI x1, xI x2, xI x3, xI x4, xI x5, xI x6]) cAt.fs cAt.res) = AtP x0 x1 x2 x3 x4 x5 x6 := by kernel_rfl
set_option maxHeartbeats 1000000 in
theorem AtO (x0 : Int) (x1 : Int) (x2 : Int) (x3 : Int) (x4 : Int) (x5 : Int) (x6 : Int) (h0 : -1048575 ≤ x0 ∧ x0 ≤ 1048575) (h1 : -1048575 ≤ x1 ∧ x1 ≤ 1048575) (h2 : -1048575 ≤ x2 ∧ x2 ≤ 1048575) (h3 : -1048575 ≤ x3 ∧ x3 ≤ 1048575) (h4 : -1048575 ≤ x4 ∧ x4 ≤ 1048575) (h5 : -1048575 ≤ x5 ∧ x5 ≤ 1048575) (h6 : -9223372036854775808 ≤ x6 ∧ x6 ≤ 9223372036854775807) : AtP x0 x1 x2 x3 x4 x5 x6 := by
  unfold AtP
  simp only [F205, F206, F210, F270, F271, F272, F273, xI_i, xB_b]
  try simp only [Int.add_zero]
  by_cases p : okB x0 x1 x2 x3 x4 x5 x6
  · have ne := okB_ne p
    have r := at_rng h0 h1 h2 h3 h4 h5 p
    simp only [szB, if_pos ne, atX, atY, atZ, if_pos p]
    have p' := p
    unfold okB at p'
    unfold inB at r
    unfold neB at ne
    refine ⟨fun h => absurd h (by omega), fun _ => ?_⟩
    have w : IntKind.i64.wrap (x2 + x6 / (x3 - x0) / (x4 - x1)) = x2 + x6 / (x3 - x0) / (x4 - x1) := wrap_fits (by simp only [kmin, kmax]; omega)
    rw [w]
    simp [p]
    omega
  · simp [p, atX, atY, atZ]
    unfold okB at p
    omega
theorem kAt : CtrOk Tryd.prog ρ0 cAt := by
  refine ctr_of (cf := cf0 [cVol, cSize]) (cf0_ok ((keep0.cons kSize nSize).cons kVol nVol)) Tryd.func76 rfl 3000 fun ds hr => ?_
  match ds, hr with
  | [d0, d1, d2, d3, d4, d5, d6], hr =>
    obtain ⟨⟨⟨e0, l0, u0⟩, ⟨e1, l1, u1⟩, ⟨e2, l2, u2⟩, ⟨e3, l3, u3⟩, ⟨e4, l4, u4⟩, ⟨e5, l5, u5⟩, _⟩, ⟨⟨e6, l6, u6⟩, _⟩, _⟩ := hr
    generalize d0.i = x0 at *
    generalize d1.i = x1 at *
    generalize d2.i = x2 at *
    generalize d3.i = x3 at *
    generalize d4.i = x4 at *
    generalize d5.i = x5 at *
    generalize d6.i = x6 at *
    subst e0 e1 e2 e3 e4 e5 e6
    exact Eq.mpr (AtL x0 x1 x2 x3 x4 x5 x6) (AtO x0 x1 x2 x3 x4 x5 x6 ⟨l0, u0⟩ ⟨l1, u1⟩ ⟨l2, u2⟩ ⟨l3, u3⟩ ⟨l4, u4⟩ ⟨l5, u5⟩ ⟨l6, u6⟩)
theorem nAt : ∃ fn, Tryd.prog.funcs[cAt.f]? = some fn ∧ fn.body.isSome = true ∧ (fn.name == "runtime.NumGoroutine") = false := ⟨_, Tryd.func76, by kernel_rfl, by kernel_rfl⟩

/-- What is left of the contract of voxelref04.At. -/
def AtRP (x0 : Int) (x1 : Int) (x2 : Int) (x3 : Int) (x4 : Int) (x5 : Int) (x6 : Int) : Prop :=
  (
   (((x6 < 0) ∨ ((Ff 210 [(xI x0), (xI x1), (xI x2), (xI x3), (xI x4), (xI x5)]).i ≤ x6)) →
    (((0 = (Ff 270 [xI x0, xI x1, xI x2, xI x3, xI x4, xI x5, xI x6]).i ∧ -1048575 ≤ (Ff 270 [xI x0, xI x1, xI x2, xI x3, xI x4, xI x5, xI x6]).i ∧ (Ff 270 [xI x0, xI x1, xI x2, xI x3, xI x4, xI x5, xI x6]).i ≤ 1048575) ∧ ((0 = (Ff 271 [xI x0, xI x1, xI x2, xI x3, xI x4, xI x5, xI x6]).i ∧ -1048575 ≤ (Ff 271 [xI x0, xI x1, xI x2, xI x3, xI x4, xI x5, xI x6]).i ∧ (Ff 271 [xI x0, xI x1, xI x2, xI x3, xI x4, xI x5, xI x6]).i ≤ 1048575) ∧ (0 = (Ff 272 [xI x0, xI x1, xI x2, xI x3, xI x4, xI x5, xI x6]).i ∧ -1048575 ≤ (Ff 272 [xI x0, xI x1, xI x2, xI x3, xI x4, xI x5, xI x6]).i ∧ (Ff 272 [xI x0, xI x1, xI x2, xI x3, xI x4, xI x5, xI x6]).i ≤ 1048575))) ∧ (((false = true) ↔ (Ff 273 [xI x0, xI x1, xI x2, xI x3, xI x4, xI x5, xI x6]).b = true) ∧ True)))
  ∧
   ((¬ ((x6 < 0) ∨ ((Ff 210 [(xI x0), (xI x1), (xI x2), (xI x3), (xI x4), (xI x5)]).i ≤ x6))) →
    (
     (0 < (Ff 206 [(xI x0), (xI x1), (xI x2), (xI x3), (xI x4), (xI x5)]).i)
    ∧
     (
      (0 < (Ff 205 [(xI x0), (xI x1), (xI x2), (xI x3), (xI x4), (xI x5)]).i)
     ∧
      (
       (0 < (Ff 206 [(xI x0), (xI x1), (xI x2), (xI x3), (xI x4), (xI x5)]).i)
      ∧
       (
        (0 < (Ff 205 [(xI x0), (xI x1), (xI x2), (xI x3), (xI x4), (xI x5)]).i)
       ∧
        (
         (0 < (Ff 205 [(xI x0), (xI x1), (xI x2), (xI x3), (xI x4), (xI x5)]).i)
        ∧
         ((((x0 + (x6 % (Ff 205 [(xI x0), (xI x1), (xI x2), (xI x3), (xI x4), (xI x5)]).i)) = (Ff 270 [xI x0, xI x1, xI x2, xI x3, xI x4, xI x5, xI x6]).i ∧ -1048575 ≤ (Ff 270 [xI x0, xI x1, xI x2, xI x3, xI x4, xI x5, xI x6]).i ∧ (Ff 270 [xI x0, xI x1, xI x2, xI x3, xI x4, xI x5, xI x6]).i ≤ 1048575) ∧ (((x1 + ((x6 / (Ff 205 [(xI x0), (xI x1), (xI x2), (xI x3), (xI x4), (xI x5)]).i) % (Ff 206 [(xI x0), (xI x1), (xI x2), (xI x3), (xI x4), (xI x5)]).i)) = (Ff 271 [xI x0, xI x1, xI x2, xI x3, xI x4, xI x5, xI x6]).i ∧ -1048575 ≤ (Ff 271 [xI x0, xI x1, xI x2, xI x3, xI x4, xI x5, xI x6]).i ∧ (Ff 271 [xI x0, xI x1, xI x2, xI x3, xI x4, xI x5, xI x6]).i ≤ 1048575) ∧ ((IntKind.wrap Go.IntKind.i64 (x2 + ((x6 / (Ff 205 [(xI x0), (xI x1), (xI x2), (xI x3), (xI x4), (xI x5)]).i) / (Ff 206 [(xI x0), (xI x1), (xI x2), (xI x3), (xI x4), (xI x5)]).i))) = (Ff 272 [xI x0, xI x1, xI x2, xI x3, xI x4, xI x5, xI x6]).i ∧ -1048575 ≤ (Ff 272 [xI x0, xI x1, xI x2, xI x3, xI x4, xI x5, xI x6]).i ∧ (Ff 272 [xI x0, xI x1, xI x2, xI x3, xI x4, xI x5, xI x6]).i ≤ 1048575))) ∧ (((true = true) ↔ (Ff 273 [xI x0, xI x1, xI x2, xI x3, xI x4, xI x5, xI x6]).b = true) ∧ True)))))))))
theorem AtRL (x0 : Int) (x1 : Int) (x2 : Int) (x3 : Int) (x4 : Int) (x5 : Int) (x6 : Int) : ((walkF Tryd.prog (cf0 [cVolR, cSizeR]) Tryd.f86 3000 (shS cAtR.args 0)).ctr { ρ0 with x := fun j => [xI x0, xI x1, xI x2, xI x3, xI x4, xI x5, xI x6].getD j (xI 0) } (fun j => Ff j [xI x0, xI x1, xI x2, xI x3, xI x4, xI x5, xI x6]) cAtR.fs cAtR.res) = AtRP x0 x1 x2 x3 x4 x5 x6 := by kernel_rfl
set_option maxHeartbeats 1000000 in
theorem AtRO (x0 : Int) (x1 : Int) (x2 : Int) (x3 : Int) (x4 : Int) (x5 : Int) (x6 : Int) (h0 : -1048575 ≤ x0 ∧ x0 ≤ 1048575) (h1 : -1048575 ≤ x1 ∧ x1 ≤ 1048575) (h2 : -1048575 ≤ x2 ∧ x2 ≤ 1048575) (h3 : -1048575 ≤ x3 ∧ x3 ≤ 1048575) (h4 : -1048575 ≤ x4 ∧ x4 ≤ 1048575) (h5 : -1048575 ≤ x5 ∧ x5 ≤ 1048575) (h6 : -9223372036854775808 ≤ x6 ∧ x6 ≤ 9223372036854775807) : AtRP x0 x1 x2 x3 x4 x5 x6 := by
  unfold AtRP
  simp only [F205, F206, F210, F270, F271, F272, F273, xI_i, xB_b]
  try simp only [Int.add_zero]
  by_cases p : okB x0 x1 x2 x3 x4 x5 x6
  · have ne := okB_ne p
    have r := at_rng h0 h1 h2 h3 h4 h5 p
    simp only [szB, if_pos ne, atX, atY, atZ, if_pos p]
    have p' := p
    unfold okB at p'
    unfold inB at r
    unfold neB at ne
    refine ⟨fun h => absurd h (by omega), fun _ => ?_⟩
    have w : IntKind.i64.wrap (x2 + x6 / (x3 - x0) / (x4 - x1)) = x2 + x6 / (x3 - x0) / (x4 - x1) := wrap_fits (by simp only [kmin, kmax]; omega)
    rw [w]
    simp [p]
    omega
  · simp [p, atX, atY, atZ]
    unfold okB at p
    omega
theorem kAtR : CtrOk Tryd.prog ρ0 cAtR := by
  refine ctr_of (cf := cf0 [cVolR, cSizeR]) (cf0_ok ((keep0.cons kSizeR nSizeR).cons kVolR nVolR)) Tryd.func86 rfl 3000 fun ds hr => ?_
  match ds, hr with
  | [d0, d1, d2, d3, d4, d5, d6], hr =>
    obtain ⟨⟨⟨e0, l0, u0⟩, ⟨e1, l1, u1⟩, ⟨e2, l2, u2⟩, ⟨e3, l3, u3⟩, ⟨e4, l4, u4⟩, ⟨e5, l5, u5⟩, _⟩, ⟨⟨e6, l6, u6⟩, _⟩, _⟩ := hr
    generalize d0.i = x0 at *
    generalize d1.i = x1 at *
    generalize d2.i = x2 at *
    generalize d3.i = x3 at *
    generalize d4.i = x4 at *
    generalize d5.i = x5 at *
    generalize d6.i = x6 at *
    subst e0 e1 e2 e3 e4 e5 e6
    exact Eq.mpr (AtRL x0 x1 x2 x3 x4 x5 x6) (AtRO x0 x1 x2 x3 x4 x5 x6 ⟨l0, u0⟩ ⟨l1, u1⟩ ⟨l2, u2⟩ ⟨l3, u3⟩ ⟨l4, u4⟩ ⟨l5, u5⟩ ⟨l6, u6⟩)
theorem nAtR : ∃ fn, Tryd.prog.funcs[cAtR.f]? = some fn ∧ fn.body.isSome = true ∧ (fn.name == "runtime.NumGoroutine") = false := ⟨_, Tryd.func86, by kernel_rfl, by kernel_rfl⟩
end Vc
end Go.Proofs.YtleapeclbkclaaaDoor
