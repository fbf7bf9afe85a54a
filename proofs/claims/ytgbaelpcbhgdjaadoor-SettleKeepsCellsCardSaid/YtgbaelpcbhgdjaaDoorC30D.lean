/- Contracts of functions, each out of one walk. -/
import Derived.Test.YtgbaelpcbhgdjaaDoorC30L
import Derived.Test.YtgbaelpcbhgdjaaDoorC07R
namespace Go.Proofs.YtgbaelpcbhgdjaaDoor
namespace Vc
open Go Go.RowKit
set_option linter.unusedVariables false

/-- What is left of the contract of material.Solid. -/
def MSP (x0 : X) (x1 : Int) : Prop :=
((((x1 < 0) ∨ (x0.i ≤ x1)) →
((false = true) ↔ (Ff 800 [x0, xI x1]).b = true)) ∧
((¬ ((x1 < 0) ∨ (x0.i ≤ x1))) →
((x1 < x0.i) ∧
(((x0.r x1 1).b = true) ↔ (Ff 800 [x0, xI x1]).b = true))))
theorem MSL (x0 : X) (x1 : Int) : (ctrR (fun j => Ff j [x0, xI x1]) cMS.fs cMS.res { ρ0 with x := fun j => [x0, xI x1].getD j (xI 0) } (walkR Tryd.prog (cfG none [] [] [] sumL) Tryd.f42 400 cMS.args)) = MSP x0 x1 := by kernel_rfl
set_option maxHeartbeats 4000000 in
theorem MSO (x0 : X) (x1 : Int) (g0 : 0 ≤ x0.i ∧ x0.i ≤ 9223372036854775807 ∧ RowOk SMt x0.r x0.i.toNat) (g1 : -9223372036854775808 ≤ x1 ∧ x1 ≤ 9223372036854775807) : MSP x0 x1 := by
  unfold MSP
  refine And.intro ?_ ?_
  · intro h1
    skip -- #0
    refine iff_of_false Bool.false_ne_true fun hv => ?_
    have hv : fldX x0 x1 1 = true := hv
    rw [fld_off h1] at hv
    cases hv
  intro h2
  refine andI ?_ fun o3 => ?_
  · omega -- #1
  skip -- #2
  show _ ↔ fldX x0 x1 1 = true
  rw [fld_on h2]
theorem kMS : RCtrOk Tryd.prog ρ0 cMS := by
  refine rctr_of (cf := cfG none [] [] [] sumL) (cfG_ok keep0 keepR0 noF) Tryd.func42 rfl 400 rfl fun ds hr => ?_
  have hr := rshX_flat hr
  match ds, hr with
  | [d0, d1], hr =>
    obtain ⟨l0, ⟨e1, l1, u1⟩, _⟩ := hr
    generalize d0 = x0 at *
    generalize d1.i = x1 at *
    subst e1
    exact Eq.mpr (MSL x0 x1) (MSO x0 x1 l0 ⟨l1, u1⟩)
theorem nMS : ∃ fn, Tryd.prog.funcs[cMS.f]? = some fn ∧ fn.body.isSome = true ∧ (fn.name == "runtime.NumGoroutine") = false := ⟨_, Tryd.func42, by kernel_rfl, by kernel_rfl⟩

/-- What is left of the contract of material.Liquid. -/
def MLP (x0 : X) (x1 : Int) : Prop :=
((((x1 < 0) ∨ (x0.i ≤ x1)) →
((false = true) ↔ (Ff 801 [x0, xI x1]).b = true)) ∧
((¬ ((x1 < 0) ∨ (x0.i ≤ x1))) →
((x1 < x0.i) ∧
(((x0.r x1 2).b = true) ↔ (Ff 801 [x0, xI x1]).b = true))))
theorem MLL (x0 : X) (x1 : Int) : (ctrR (fun j => Ff j [x0, xI x1]) cML.fs cML.res { ρ0 with x := fun j => [x0, xI x1].getD j (xI 0) } (walkR Tryd.prog (cfG none [] [] [] sumL) Tryd.f43 400 cML.args)) = MLP x0 x1 := by kernel_rfl
set_option maxHeartbeats 4000000 in
theorem MLO (x0 : X) (x1 : Int) (g0 : 0 ≤ x0.i ∧ x0.i ≤ 9223372036854775807 ∧ RowOk SMt x0.r x0.i.toNat) (g1 : -9223372036854775808 ≤ x1 ∧ x1 ≤ 9223372036854775807) : MLP x0 x1 := by
  unfold MLP
  refine And.intro ?_ ?_
  · intro h1
    skip -- #0
    refine iff_of_false Bool.false_ne_true fun hv => ?_
    have hv : fldX x0 x1 2 = true := hv
    rw [fld_off h1] at hv
    cases hv
  intro h2
  refine andI ?_ fun o3 => ?_
  · omega -- #1
  skip -- #2
  show _ ↔ fldX x0 x1 2 = true
  rw [fld_on h2]
theorem kML : RCtrOk Tryd.prog ρ0 cML := by
  refine rctr_of (cf := cfG none [] [] [] sumL) (cfG_ok keep0 keepR0 noF) Tryd.func43 rfl 400 rfl fun ds hr => ?_
  have hr := rshX_flat hr
  match ds, hr with
  | [d0, d1], hr =>
    obtain ⟨l0, ⟨e1, l1, u1⟩, _⟩ := hr
    generalize d0 = x0 at *
    generalize d1.i = x1 at *
    subst e1
    exact Eq.mpr (MLL x0 x1) (MLO x0 x1 l0 ⟨l1, u1⟩)
theorem nML : ∃ fn, Tryd.prog.funcs[cML.f]? = some fn ∧ fn.body.isSome = true ∧ (fn.name == "runtime.NumGoroutine") = false := ⟨_, Tryd.func43, by kernel_rfl, by kernel_rfl⟩

/-- What is left of the contract of material.Falling. -/
def MFP (x0 : X) (x1 : Int) : Prop :=
((((x1 < 0) ∨ (x0.i ≤ x1)) →
((false = true) ↔ (Ff 802 [x0, xI x1]).b = true)) ∧
((¬ ((x1 < 0) ∨ (x0.i ≤ x1))) →
((x1 < x0.i) ∧
(((x0.r x1 3).b = true) ↔ (Ff 802 [x0, xI x1]).b = true))))
theorem MFL (x0 : X) (x1 : Int) : (ctrR (fun j => Ff j [x0, xI x1]) cMF.fs cMF.res { ρ0 with x := fun j => [x0, xI x1].getD j (xI 0) } (walkR Tryd.prog (cfG none [] [] [] sumL) Tryd.f44 400 cMF.args)) = MFP x0 x1 := by kernel_rfl
set_option maxHeartbeats 4000000 in
theorem MFO (x0 : X) (x1 : Int) (g0 : 0 ≤ x0.i ∧ x0.i ≤ 9223372036854775807 ∧ RowOk SMt x0.r x0.i.toNat) (g1 : -9223372036854775808 ≤ x1 ∧ x1 ≤ 9223372036854775807) : MFP x0 x1 := by
  unfold MFP
  refine And.intro ?_ ?_
  · intro h1
    skip -- #0
    refine iff_of_false Bool.false_ne_true fun hv => ?_
    have hv : fldX x0 x1 3 = true := hv
    rw [fld_off h1] at hv
    cases hv
  intro h2
  refine andI ?_ fun o3 => ?_
  · omega -- #1
  skip -- #2
  show _ ↔ fldX x0 x1 3 = true
  rw [fld_on h2]
theorem kMF : RCtrOk Tryd.prog ρ0 cMF := by
  refine rctr_of (cf := cfG none [] [] [] sumL) (cfG_ok keep0 keepR0 noF) Tryd.func44 rfl 400 rfl fun ds hr => ?_
  have hr := rshX_flat hr
  match ds, hr with
  | [d0, d1], hr =>
    obtain ⟨l0, ⟨e1, l1, u1⟩, _⟩ := hr
    generalize d0 = x0 at *
    generalize d1.i = x1 at *
    subst e1
    exact Eq.mpr (MFL x0 x1) (MFO x0 x1 l0 ⟨l1, u1⟩)
theorem nMF : ∃ fn, Tryd.prog.funcs[cMF.f]? = some fn ∧ fn.body.isSome = true ∧ (fn.name == "runtime.NumGoroutine") = false := ⟨_, Tryd.func44, by kernel_rfl, by kernel_rfl⟩

/-- What is left of the contract of voxelref06.Solid. -/
def MSRP (x0 : X) (x1 : Int) : Prop :=
((((x1 < 0) ∨ (x0.i ≤ x1)) →
((false = true) ↔ (Ff 800 [x0, xI x1]).b = true)) ∧
((¬ ((x1 < 0) ∨ (x0.i ≤ x1))) →
((x1 < x0.i) ∧
(((x0.r x1 1).b = true) ↔ (Ff 800 [x0, xI x1]).b = true))))
theorem MSRL (x0 : X) (x1 : Int) : (ctrR (fun j => Ff j [x0, xI x1]) cMSR.fs cMSR.res { ρ0 with x := fun j => [x0, xI x1].getD j (xI 0) } (walkR Tryd.prog (cfG none [] [] [] sumL) Tryd.f39 400 cMSR.args)) = MSRP x0 x1 := by kernel_rfl
set_option maxHeartbeats 4000000 in
theorem MSRO (x0 : X) (x1 : Int) (g0 : 0 ≤ x0.i ∧ x0.i ≤ 9223372036854775807 ∧ RowOk SMt x0.r x0.i.toNat) (g1 : -9223372036854775808 ≤ x1 ∧ x1 ≤ 9223372036854775807) : MSRP x0 x1 := by
  unfold MSRP
  refine And.intro ?_ ?_
  · intro h1
    skip -- #0
    refine iff_of_false Bool.false_ne_true fun hv => ?_
    have hv : fldX x0 x1 1 = true := hv
    rw [fld_off h1] at hv
    cases hv
  intro h2
  refine andI ?_ fun o3 => ?_
  · omega -- #1
  skip -- #2
  show _ ↔ fldX x0 x1 1 = true
  rw [fld_on h2]
theorem kMSR : RCtrOk Tryd.prog ρ0 cMSR := by
  refine rctr_of (cf := cfG none [] [] [] sumL) (cfG_ok keep0 keepR0 noF) Tryd.func39 rfl 400 rfl fun ds hr => ?_
  have hr := rshX_flat hr
  match ds, hr with
  | [d0, d1], hr =>
    obtain ⟨l0, ⟨e1, l1, u1⟩, _⟩ := hr
    generalize d0 = x0 at *
    generalize d1.i = x1 at *
    subst e1
    exact Eq.mpr (MSRL x0 x1) (MSRO x0 x1 l0 ⟨l1, u1⟩)
theorem nMSR : ∃ fn, Tryd.prog.funcs[cMSR.f]? = some fn ∧ fn.body.isSome = true ∧ (fn.name == "runtime.NumGoroutine") = false := ⟨_, Tryd.func39, by kernel_rfl, by kernel_rfl⟩

/-- What is left of the contract of settle.Free. -/
def FrP (x0 : X) (x1 : Int) : Prop :=
(let v0 : X := Ff 800 [x0, (xI x1)]; let v1 : X := Ff 801 [x0, (xI x1)]; (((¬ (v0.b = true)) ∧ (¬ (v1.b = true))) ↔ (Ff 803 [x0, xI x1]).b = true))
theorem FrL (x0 : X) (x1 : Int) : (ctrR (fun j => Ff j [x0, xI x1]) cFr.fs cFr.res { ρ0 with x := fun j => [x0, xI x1].getD j (xI 0) } (walkR Tryd.prog (cfG none [] [cMS, cML] [] sumL) Tryd.f16 400 cFr.args)) = FrP x0 x1 := by kernel_rfl
set_option maxHeartbeats 4000000 in
theorem FrO (x0 : X) (x1 : Int) (g0 : 0 ≤ x0.i ∧ x0.i ≤ 9223372036854775807 ∧ RowOk SMt x0.r x0.i.toNat) (g1 : -9223372036854775808 ≤ x1 ∧ x1 ≤ 9223372036854775807) : FrP x0 x1 := by
  unfold FrP
  intro v0
  intro v1
  exact fre_iff.symm -- #0
theorem kFr : RCtrOk Tryd.prog ρ0 cFr := by
  refine rctr_of (cf := cfG none [] [cMS, cML] [] sumL) (cfG_ok keep0 ((keepR0.cons kML nML).cons kMS nMS) noF) Tryd.func16 rfl 400 rfl fun ds hr => ?_
  have hr := rshX_flat hr
  match ds, hr with
  | [d0, d1], hr =>
    obtain ⟨l0, ⟨e1, l1, u1⟩, _⟩ := hr
    generalize d0 = x0 at *
    generalize d1.i = x1 at *
    subst e1
    exact Eq.mpr (FrL x0 x1) (FrO x0 x1 l0 ⟨l1, u1⟩)
theorem nFr : ∃ fn, Tryd.prog.funcs[cFr.f]? = some fn ∧ fn.body.isSome = true ∧ (fn.name == "runtime.NumGoroutine") = false := ⟨_, Tryd.func16, by kernel_rfl, by kernel_rfl⟩

/-- What is left of the contract of voxelref30.Free. -/
def FrRP (x0 : X) (x1 : Int) : Prop :=
((((x1 < 0) ∨ (x0.i ≤ x1)) →
((true = true) ↔ (Ff 803 [x0, xI x1]).b = true)) ∧
((¬ ((x1 < 0) ∨ (x0.i ≤ x1))) →
((x1 < x0.i) ∧
(((¬ ((x0.r x1 1).b = true)) ∧ (¬ ((x0.r x1 2).b = true))) ↔ (Ff 803 [x0, xI x1]).b = true))))
theorem FrRL (x0 : X) (x1 : Int) : (ctrR (fun j => Ff j [x0, xI x1]) cFrR.fs cFrR.res { ρ0 with x := fun j => [x0, xI x1].getD j (xI 0) } (walkR Tryd.prog (cfG none [] [] [] sumL) Tryd.f17 400 cFrR.args)) = FrRP x0 x1 := by kernel_rfl
set_option maxHeartbeats 4000000 in
theorem FrRO (x0 : X) (x1 : Int) (g0 : 0 ≤ x0.i ∧ x0.i ≤ 9223372036854775807 ∧ RowOk SMt x0.r x0.i.toNat) (g1 : -9223372036854775808 ≤ x1 ∧ x1 ≤ 9223372036854775807) : FrRP x0 x1 := by
  unfold FrRP
  refine And.intro ?_ ?_
  · intro h1
    skip -- #0
    refine iff_of_true rfl (fre_iff.2 ⟨?_, ?_⟩)
    · show ¬ fldX x0 x1 1 = true
      rw [fld_off h1]
      exact Bool.false_ne_true
    · show ¬ fldX x0 x1 2 = true
      rw [fld_off h1]
      exact Bool.false_ne_true
  intro h2
  refine andI ?_ fun o3 => ?_
  · omega -- #1
  skip -- #2
  show _ ↔ freX x0 x1 = true
  rw [fre_iff]
  unfold solX liqX
  rw [fld_on h2, fld_on h2]
theorem kFrR : RCtrOk Tryd.prog ρ0 cFrR := by
  refine rctr_of (cf := cfG none [] [] [] sumL) (cfG_ok keep0 keepR0 noF) Tryd.func17 rfl 400 rfl fun ds hr => ?_
  have hr := rshX_flat hr
  match ds, hr with
  | [d0, d1], hr =>
    obtain ⟨l0, ⟨e1, l1, u1⟩, _⟩ := hr
    generalize d0 = x0 at *
    generalize d1.i = x1 at *
    subst e1
    exact Eq.mpr (FrRL x0 x1) (FrRO x0 x1 l0 ⟨l1, u1⟩)
theorem nFrR : ∃ fn, Tryd.prog.funcs[cFrR.f]? = some fn ∧ fn.body.isSome = true ∧ (fn.name == "runtime.NumGoroutine") = false := ⟨_, Tryd.func17, by kernel_rfl, by kernel_rfl⟩

/-- What is left of the contract of voxelref06.At. -/
def MAtP (x0 : X) (x1 : Int) : Prop :=
((((x1 < 0) ∨ (x0.i ≤ x1)) →
(((Ff 830 [x0, xI x1]) = xS ⟨#[]⟩ ∧ (0 : Int) ≤ 9223372036854775807) ∧ (((false = true) ↔ (Ff 831 [x0, xI x1]).b = true) ∧ (((false = true) ↔ (Ff 832 [x0, xI x1]).b = true) ∧ (((false = true) ↔ (Ff 833 [x0, xI x1]).b = true) ∧ ((16 = (Ff 834 [x0, xI x1]).i ∧ -9223372036854775808 ≤ (Ff 834 [x0, xI x1]).i ∧ (Ff 834 [x0, xI x1]).i ≤ 9223372036854775807) ∧ ((0 = (Ff 835 [x0, xI x1]).i ∧ -9223372036854775808 ≤ (Ff 835 [x0, xI x1]).i ∧ (Ff 835 [x0, xI x1]).i ≤ 9223372036854775807) ∧ ((0 = (Ff 836 [x0, xI x1]).i ∧ -9223372036854775808 ≤ (Ff 836 [x0, xI x1]).i ∧ (Ff 836 [x0, xI x1]).i ≤ 9223372036854775807) ∧ (0 = (Ff 837 [x0, xI x1]).i ∧ -9223372036854775808 ≤ (Ff 837 [x0, xI x1]).i ∧ (Ff 837 [x0, xI x1]).i ≤ 9223372036854775807))))))))) ∧
((¬ ((x1 < 0) ∨ (x0.i ≤ x1))) →
((x1 < x0.i) ∧
((((x0.r x1 0).v = (Ff 830 [x0, xI x1]).v ∧ (x0.r x1 0).i = (Ff 830 [x0, xI x1]).i) ∧ (Ff 830 [x0, xI x1]).i ≤ 9223372036854775807) ∧ ((((x0.r x1 1).b = true) ↔ (Ff 831 [x0, xI x1]).b = true) ∧ ((((x0.r x1 2).b = true) ↔ (Ff 832 [x0, xI x1]).b = true) ∧ ((((x0.r x1 3).b = true) ↔ (Ff 833 [x0, xI x1]).b = true) ∧ (((x0.r x1 4).i = (Ff 834 [x0, xI x1]).i ∧ -9223372036854775808 ≤ (Ff 834 [x0, xI x1]).i ∧ (Ff 834 [x0, xI x1]).i ≤ 9223372036854775807) ∧ (((x0.r x1 5).i = (Ff 835 [x0, xI x1]).i ∧ -9223372036854775808 ≤ (Ff 835 [x0, xI x1]).i ∧ (Ff 835 [x0, xI x1]).i ≤ 9223372036854775807) ∧ (((x0.r x1 6).i = (Ff 836 [x0, xI x1]).i ∧ -9223372036854775808 ≤ (Ff 836 [x0, xI x1]).i ∧ (Ff 836 [x0, xI x1]).i ≤ 9223372036854775807) ∧ ((x0.r x1 7).i = (Ff 837 [x0, xI x1]).i ∧ -9223372036854775808 ≤ (Ff 837 [x0, xI x1]).i ∧ (Ff 837 [x0, xI x1]).i ≤ 9223372036854775807)))))))))))
theorem MAtL (x0 : X) (x1 : Int) : (ctrR (fun j => Ff j [x0, xI x1]) cMAt.fs cMAt.res { ρ0 with x := fun j => [x0, xI x1].getD j (xI 0) } (walkR Tryd.prog (cfG none [] [] [] sumL) Tryd.f25 400 cMAt.args)) = MAtP x0 x1 := by kernel_rfl
set_option maxHeartbeats 4000000 in
theorem MAtO (x0 : X) (x1 : Int) (g0 : 0 ≤ x0.i ∧ x0.i ≤ 9223372036854775807 ∧ RowOk SMt x0.r x0.i.toNat) (g1 : -9223372036854775808 ≤ x1 ∧ x1 ≤ 9223372036854775807) : MAtP x0 x1 := by
  unfold MAtP
  refine And.intro ?_ ?_
  · intro h1
    skip -- #0
    have n0 : ¬ (0 ≤ x1 ∧ x1 < x0.i) := by omega
    have nf : ∀ k : Int, (false = true) ↔ fldX x0 x1 k = true := fun k => by
      rw [fld_off h1]
    exact ⟨⟨if_neg n0, by decide⟩, nf 1, nf 2, nf 3, rngI (if_neg n0) (by decide), rngI (if_neg n0) (by decide), rngI (if_neg n0) (by decide), rngI (if_neg n0) (by decide)⟩
  intro h2
  refine andI ?_ fun o3 => ?_
  · omega -- #1
  skip -- #2
  have n0 : 0 ≤ x1 ∧ x1 < x0.i := by omega
  have nf : ∀ k : Int, ((x0.r x1 k).b = true) ↔ fldX x0 x1 k = true := fun k => by
    rw [fld_on h2]
  have hr := g0.2.2 x1.toNat (by omega)
  rw [Int.toNat_of_nonneg n0.1] at hr
  obtain ⟨⟨s, s1, s2, s3⟩, _, _, _, r4, r5, r6, r7, _⟩ := hr
  have e0 : Ff 830 [x0, xI x1] = ⟨(x0.r x1 0).i, false, (x0.r x1 0).v, r0⟩ := if_pos n0
  rw [e0]
  exact ⟨⟨⟨rfl, rfl⟩, by rw [← s2] at s3; exact s3⟩, nf 1, nf 2, nf 3, rngI (if_pos n0) r4, rngI (if_pos n0) r5, rngI (if_pos n0) r6, rngI (if_pos n0) r7⟩
theorem kMAt : RCtrOk Tryd.prog ρ0 cMAt := by
  refine rctr_of (cf := cfG none [] [] [] sumL) (cfG_ok keep0 keepR0 noF) Tryd.func25 rfl 400 rfl fun ds hr => ?_
  have hr := rshX_flat hr
  match ds, hr with
  | [d0, d1], hr =>
    obtain ⟨l0, ⟨e1, l1, u1⟩, _⟩ := hr
    generalize d0 = x0 at *
    generalize d1.i = x1 at *
    subst e1
    exact Eq.mpr (MAtL x0 x1) (MAtO x0 x1 l0 ⟨l1, u1⟩)
theorem nMAt : ∃ fn, Tryd.prog.funcs[cMAt.f]? = some fn ∧ fn.body.isSome = true ∧ (fn.name == "runtime.NumGoroutine") = false := ⟨_, Tryd.func25, by kernel_rfl, by kernel_rfl⟩

/-- What is left of the contract of voxelref07.Get. -/
def GetRP (x0 : Int) (x1 : Int) (x2 : Int) (x3 : Int) (x4 : Int) (x5 : Int) (x6 : X) (x7 : Int) (x8 : Int) (x9 : Int) : Prop :=
(let v0 : X := Ff 260 [(xI x0), (xI x1), (xI x2), (xI x3), (xI x4), (xI x5), (xI x7), (xI x8), (xI x9)]; (((v0.i < 0) →
(0 = (Ff 838 [xI x0, xI x1, xI x2, xI x3, xI x4, xI x5, x6, xI x7, xI x8, xI x9]).i ∧ 0 ≤ (Ff 838 [xI x0, xI x1, xI x2, xI x3, xI x4, xI x5, x6, xI x7, xI x8, xI x9]).i ∧ (Ff 838 [xI x0, xI x1, xI x2, xI x3, xI x4, xI x5, x6, xI x7, xI x8, xI x9]).i ≤ 255)) ∧
((¬ (v0.i < 0)) →
((v0.i < x6.i) ∧
((x6.r v0.i 0).i = (Ff 838 [xI x0, xI x1, xI x2, xI x3, xI x4, xI x5, x6, xI x7, xI x8, xI x9]).i ∧ 0 ≤ (Ff 838 [xI x0, xI x1, xI x2, xI x3, xI x4, xI x5, x6, xI x7, xI x8, xI x9]).i ∧ (Ff 838 [xI x0, xI x1, xI x2, xI x3, xI x4, xI x5, x6, xI x7, xI x8, xI x9]).i ≤ 255)))))
theorem GetRL (x0 : Int) (x1 : Int) (x2 : Int) (x3 : Int) (x4 : Int) (x5 : Int) (x6 : X) (x7 : Int) (x8 : Int) (x9 : Int) : (ctrR (fun j => Ff j [xI x0, xI x1, xI x2, xI x3, xI x4, xI x5, x6, xI x7, xI x8, xI x9]) cGetR.fs cGetR.res { ρ0 with x := fun j => [xI x0, xI x1, xI x2, xI x3, xI x4, xI x5, x6, xI x7, xI x8, xI x9].getD j (xI 0) } (walkR Tryd.prog (cfG none [cIndexR] [] [] sumL) Tryd.f35 400 shGet)) = GetRP x0 x1 x2 x3 x4 x5 x6 x7 x8 x9 := by kernel_rfl
set_option maxHeartbeats 4000000 in
theorem GetRO (x0 : Int) (x1 : Int) (x2 : Int) (x3 : Int) (x4 : Int) (x5 : Int) (x6 : X) (x7 : Int) (x8 : Int) (x9 : Int) (g0 : -1048575 ≤ x0 ∧ x0 ≤ 1048575) (g1 : -1048575 ≤ x1 ∧ x1 ≤ 1048575) (g2 : -1048575 ≤ x2 ∧ x2 ≤ 1048575) (g3 : -1048575 ≤ x3 ∧ x3 ≤ 1048575) (g4 : -1048575 ≤ x4 ∧ x4 ≤ 1048575) (g5 : -1048575 ≤ x5 ∧ x5 ≤ 1048575) (g6 : 0 ≤ x6.i ∧ x6.i ≤ 2097152 ∧ RowOk [.int .i64 (0) (255)] x6.r x6.i.toNat) (g7 : -1048576 ≤ x7 ∧ x7 ≤ 1048576) (g8 : -1048576 ≤ x8 ∧ x8 ≤ 1048576) (g9 : -1048576 ≤ x9 ∧ x9 ≤ 1048576) (gp : Px cGetR.pre.get! [xI x0, xI x1, xI x2, xI x3, xI x4, xI x5, x6, xI x7, xI x8, xI x9]) : GetRP x0 x1 x2 x3 x4 x5 x6 x7 x8 x9 := by
  unfold GetRP
  obtain ⟨k0, k1, k2, k3, k4⟩ := (v700 g6.1).1 gp
  intro v0
  have e0 : v0.i = (bxI x0 x1 x2 x3 x4 x5).idx (x7, x8, x9) := rfl
  refine And.intro ?_ ?_
  · intro h2
    exact rngI (getL_out (show ¬ 0 ≤ v0.i by omega)) (by decide) -- #0
  intro h3
  refine andI ?_ fun o4 => ?_
  · skip -- #1
    have h5 := (idx_ok (b := bxI x0 x1 x2 x3 x4 x5) (p := (x7, x8, x9)) (idx_has.1 (by rw [← e0]; omega))).2
    have h6 : (bxI x0 x1 x2 x3 x4 x5).vol = x6.i := k3
    omega
  skip -- #2
  have h6 : (bxI x0 x1 x2 x3 x4 x5).vol = x6.i := k3
  have hh := idx_has.1 (show 0 ≤ (bxI x0 x1 x2 x3 x4 x5).idx (x7, x8, x9) by rw [← e0]; omega)
  have h5 := (idx_ok hh).2
  refine rngI (getL_in hh h6) ?_
  have := matB_iff.1 (lxI_allA (k := v0.i) (by omega) (by omega) k4)
  omega
theorem kGetR : RCtrOk Tryd.prog ρ0 cGetR := by
  refine rctr_ofN (cf := cfG none [cIndexR] [] [] sumL) (cfG_ok (keep0.cons kIndexR nIndexR) keepR0 noF) Tryd.func35 rfl 400 rfl (sh := shGet) (by kernel_rfl) val_rsh fun ds hr hp => ?_
  have hr := rshX_flat hr
  match ds, hr, hp with
  | [d0, d1, d2, d3, d4, d5, d6, d7, d8, d9], hr, hp =>
    obtain ⟨⟨e0, l0, u0⟩, ⟨e1, l1, u1⟩, ⟨e2, l2, u2⟩, ⟨e3, l3, u3⟩, ⟨e4, l4, u4⟩, ⟨e5, l5, u5⟩, l6, ⟨e7, l7, u7⟩, ⟨e8, l8, u8⟩, ⟨e9, l9, u9⟩, _⟩ := hr
    generalize d0.i = x0 at *
    generalize d1.i = x1 at *
    generalize d2.i = x2 at *
    generalize d3.i = x3 at *
    generalize d4.i = x4 at *
    generalize d5.i = x5 at *
    generalize d6 = x6 at *
    generalize d7.i = x7 at *
    generalize d8.i = x8 at *
    generalize d9.i = x9 at *
    subst e0 e1 e2 e3 e4 e5 e7 e8 e9
    exact Eq.mpr (GetRL x0 x1 x2 x3 x4 x5 x6 x7 x8 x9) (GetRO x0 x1 x2 x3 x4 x5 x6 x7 x8 x9 ⟨l0, u0⟩ ⟨l1, u1⟩ ⟨l2, u2⟩ ⟨l3, u3⟩ ⟨l4, u4⟩ ⟨l5, u5⟩ l6 ⟨l7, u7⟩ ⟨l8, u8⟩ ⟨l9, u9⟩ hp)
theorem nGetR : ∃ fn, Tryd.prog.funcs[cGetR.f]? = some fn ∧ fn.body.isSome = true ∧ (fn.name == "runtime.NumGoroutine") = false := ⟨_, Tryd.func35, by kernel_rfl, by kernel_rfl⟩

/-- What is left of the contract of voxelref30.free. -/
def FreGP (x0 : Int) (x1 : Int) (x2 : Int) (x3 : Int) (x4 : Int) (x5 : Int) (x6 : X) (x7 : X) (x8 : Int) (x9 : Int) (x10 : Int) : Prop :=
(let v0 : X := Ff 201 [(xI x8), (xI x9), (xI x10), (xI x0), (xI x1), (xI x2), (xI x3), (xI x4), (xI x5)]; (((v0.b = true) →
 Px 710 [(xI x0), (xI x1), (xI x2), (xI x3), (xI x4), (xI x5), x6, (xI x8), (xI x9), (xI x10)]) ∧
(let v3 : X := Ff 838 [(xI x0), (xI x1), (xI x2), (xI x3), (xI x4), (xI x5), x6, (xI x8), (xI x9), (xI x10)]; let v4 : X := Ff 803 [x7, (xI v3.i)]; (((v0.b = true) ∧ (v4.b = true)) ↔ (Ff 804 [xI x0, xI x1, xI x2, xI x3, xI x4, xI x5, x6, x7, xI x8, xI x9, xI x10]).b = true))))
theorem FreGL (x0 : Int) (x1 : Int) (x2 : Int) (x3 : Int) (x4 : Int) (x5 : Int) (x6 : X) (x7 : X) (x8 : Int) (x9 : Int) (x10 : Int) : (ctrR (fun j => Ff j [xI x0, xI x1, xI x2, xI x3, xI x4, xI x5, x6, x7, xI x8, xI x9, xI x10]) cFreG.fs cFreG.res { ρ0 with x := fun j => [xI x0, xI x1, xI x2, xI x3, xI x4, xI x5, x6, x7, xI x8, xI x9, xI x10].getD j (xI 0) } (walkR Tryd.prog (cfG none [cInR] [cGetR, cFrR] [] sumL) Tryd.f40 400 shFreG)) = FreGP x0 x1 x2 x3 x4 x5 x6 x7 x8 x9 x10 := by kernel_rfl
set_option maxHeartbeats 4000000 in
theorem FreGO (x0 : Int) (x1 : Int) (x2 : Int) (x3 : Int) (x4 : Int) (x5 : Int) (x6 : X) (x7 : X) (x8 : Int) (x9 : Int) (x10 : Int) (g0 : -1048575 ≤ x0 ∧ x0 ≤ 1048575) (g1 : -1048575 ≤ x1 ∧ x1 ≤ 1048575) (g2 : -1048575 ≤ x2 ∧ x2 ≤ 1048575) (g3 : -1048575 ≤ x3 ∧ x3 ≤ 1048575) (g4 : -1048575 ≤ x4 ∧ x4 ≤ 1048575) (g5 : -1048575 ≤ x5 ∧ x5 ≤ 1048575) (g6 : 0 ≤ x6.i ∧ x6.i ≤ 2097152 ∧ RowOk [.int .i64 (0) (255)] x6.r x6.i.toNat) (g7 : 0 ≤ x7.i ∧ x7.i ≤ 9223372036854775807 ∧ RowOk SMt x7.r x7.i.toNat) (g8 : -1048576 ≤ x8 ∧ x8 ≤ 1048576) (g9 : -1048576 ≤ x9 ∧ x9 ≤ 1048576) (g10 : -1048576 ≤ x10 ∧ x10 ≤ 1048576) (gp : Px cFreG.pre.get! [xI x0, xI x1, xI x2, xI x3, xI x4, xI x5, x6, x7, xI x8, xI x9, xI x10]) : FreGP x0 x1 x2 x3 x4 x5 x6 x7 x8 x9 x10 := by
  unfold FreGP
  intro v0
  refine And.intro ?_ ?_
  · intro h2
    exact gp -- #0
  intro v3
  intro v4
  skip -- #1
  show _ ↔ ((bxI x0 x1 x2 x3 x4 x5).has (x8, x9, x10) && freX x7 (getL (bxI x0 x1 x2 x3 x4 x5) (lstX deI x6) (x8, x9, x10))) = true
  rw [Bool.and_eq_true]
  exact Iff.rfl
theorem kFreG : RCtrOk Tryd.prog ρ0 cFreG := by
  refine rctr_ofN (cf := cfG none [cInR] [cGetR, cFrR] [] sumL) (cfG_ok (keep0.cons kInR nInR) ((keepR0.cons kFrR nFrR).cons kGetR nGetR) noF) Tryd.func40 rfl 400 rfl (sh := shFreG) (by kernel_rfl) val_rsh fun ds hr hp => ?_
  have hr := rshX_flat hr
  match ds, hr, hp with
  | [d0, d1, d2, d3, d4, d5, d6, d7, d8, d9, d10], hr, hp =>
    obtain ⟨⟨e0, l0, u0⟩, ⟨e1, l1, u1⟩, ⟨e2, l2, u2⟩, ⟨e3, l3, u3⟩, ⟨e4, l4, u4⟩, ⟨e5, l5, u5⟩, l6, l7, ⟨e8, l8, u8⟩, ⟨e9, l9, u9⟩, ⟨e10, l10, u10⟩, _⟩ := hr
    generalize d0.i = x0 at *
    generalize d1.i = x1 at *
    generalize d2.i = x2 at *
    generalize d3.i = x3 at *
    generalize d4.i = x4 at *
    generalize d5.i = x5 at *
    generalize d6 = x6 at *
    generalize d7 = x7 at *
    generalize d8.i = x8 at *
    generalize d9.i = x9 at *
    generalize d10.i = x10 at *
    subst e0 e1 e2 e3 e4 e5 e8 e9 e10
    exact Eq.mpr (FreGL x0 x1 x2 x3 x4 x5 x6 x7 x8 x9 x10) (FreGO x0 x1 x2 x3 x4 x5 x6 x7 x8 x9 x10 ⟨l0, u0⟩ ⟨l1, u1⟩ ⟨l2, u2⟩ ⟨l3, u3⟩ ⟨l4, u4⟩ ⟨l5, u5⟩ l6 l7 ⟨l8, u8⟩ ⟨l9, u9⟩ ⟨l10, u10⟩ hp)
theorem nFreG : ∃ fn, Tryd.prog.funcs[cFreG.f]? = some fn ∧ fn.body.isSome = true ∧ (fn.name == "runtime.NumGoroutine") = false := ⟨_, Tryd.func40, by kernel_rfl, by kernel_rfl⟩

/-- What is left of the contract of (*settle.place).free. -/
def FrePP (x0 : Int) (x1 : Int) (x2 : Int) (x3 : Int) (x4 : Int) (x5 : Int) (x6 : X) (x7 : X) (x8 : Int) (x9 : Int) (x10 : Int) (x11 : Int) : Prop :=
(((¬ ((((((x0 ≤ x9) ∧ (x9 < x3)) ∧ (x1 ≤ x10)) ∧ (x10 < x4)) ∧ (x2 ≤ x11)) ∧ (x11 < x5))) →
((false = true) ↔ (Ff 805 [xI x0, xI x1, xI x2, xI x3, xI x4, xI x5, x6, x7, xI x8, xI x9, xI x10, xI x11]).b = true)) ∧
(((((((x0 ≤ x9) ∧ (x9 < x3)) ∧ (x1 ≤ x10)) ∧ (x10 < x4)) ∧ (x2 ≤ x11)) ∧ (x11 < x5)) →
(let v3 : X := Ff 260 [(xI x0), (xI x1), (xI x2), (xI x3), (xI x4), (xI x5), (xI x9), (xI x10), (xI x11)]; ((0 ≤ v3.i) ∧
((v3.i < x6.i) ∧
(let v6 : X := Ff 803 [x7, (xI (x6.r v3.i 0).i)]; ((v6.b = true) ↔ (Ff 805 [xI x0, xI x1, xI x2, xI x3, xI x4, xI x5, x6, x7, xI x8, xI x9, xI x10, xI x11]).b = true)))))))
theorem FrePL (x0 : Int) (x1 : Int) (x2 : Int) (x3 : Int) (x4 : Int) (x5 : Int) (x6 : X) (x7 : X) (x8 : Int) (x9 : Int) (x10 : Int) (x11 : Int) : (ctrR (fun j => Ff j [xI x0, xI x1, xI x2, xI x3, xI x4, xI x5, x6, x7, xI x8, xI x9, xI x10, xI x11]) cFreP.fs cFreP.res { ρ0 with x := fun j => [xI x0, xI x1, xI x2, xI x3, xI x4, xI x5, x6, x7, xI x8, xI x9, xI x10, xI x11].getD j (xI 0) } (walkR Tryd.prog (cfG none [cIndex] [cFr] [] sumL) Tryd.f73 600 cFreP.args)) = FrePP x0 x1 x2 x3 x4 x5 x6 x7 x8 x9 x10 x11 := by kernel_rfl
set_option maxHeartbeats 4000000 in
theorem FrePO (x0 : Int) (x1 : Int) (x2 : Int) (x3 : Int) (x4 : Int) (x5 : Int) (x6 : X) (x7 : X) (x8 : Int) (x9 : Int) (x10 : Int) (x11 : Int) (g0 : -1048575 ≤ x0 ∧ x0 ≤ 1048575) (g1 : -1048575 ≤ x1 ∧ x1 ≤ 1048575) (g2 : -1048575 ≤ x2 ∧ x2 ≤ 1048575) (g3 : -1048575 ≤ x3 ∧ x3 ≤ 1048575) (g4 : -1048575 ≤ x4 ∧ x4 ≤ 1048575) (g5 : -1048575 ≤ x5 ∧ x5 ≤ 1048575) (g6 : 0 ≤ x6.i ∧ x6.i ≤ 2097152 ∧ RowOk [.int .i64 (0) (255)] x6.r x6.i.toNat) (g7 : 0 ≤ x7.i ∧ x7.i ≤ 9223372036854775807 ∧ RowOk SMt x7.r x7.i.toNat) (g8 : 0 ≤ x8 ∧ x8 ≤ 3) (g9 : -1048576 ≤ x9 ∧ x9 ≤ 1048576) (g10 : -1048576 ≤ x10 ∧ x10 ≤ 1048576) (g11 : -1048576 ≤ x11 ∧ x11 ≤ 1048576) (gp : Px cFreP.pre.get! [xI x0, xI x1, xI x2, xI x3, xI x4, xI x5, x6, x7, xI x8, xI x9, xI x10, xI x11]) : FrePP x0 x1 x2 x3 x4 x5 x6 x7 x8 x9 x10 x11 := by
  unfold FrePP
  obtain ⟨k0, k1, k2, k3, k4⟩ := (v700 g6.1).1 gp
  have hV : (bxI x0 x1 x2 x3 x4 x5).vol = x6.i := k3
  have hd := has_def (b := bxI x0 x1 x2 x3 x4 x5) (p := (x9, x10, x11))
  have hd : (bxI x0 x1 x2 x3 x4 x5).has (x9, x10, x11) = true ↔ (x0 ≤ x9 ∧ x9 < x3) ∧ (x1 ≤ x10 ∧ x10 < x4) ∧ (x2 ≤ x11 ∧ x11 < x5) := hd
  refine And.intro ?_ ?_
  · intro h1
    skip -- #0
    refine iff_of_false Bool.false_ne_true fun hv => ?_
    have hv : ((bxI x0 x1 x2 x3 x4 x5).has (x9, x10, x11) && freX x7 (getL (bxI x0 x1 x2 x3 x4 x5) (lstX deI x6) (x9, x10, x11))) = true := hv
    rw [Bool.and_eq_true, hd] at hv
    omega
  intro h2
  have hh := hd.2 (by omega)
  have hi := idx_ok hh
  intro v3
  refine andI ?_ fun o4 => ?_
  · exact hi.1 -- #1
  refine andI ?_ fun o5 => ?_
  · skip -- #2
    have : v3.i < (bxI x0 x1 x2 x3 x4 x5).vol := hi.2
    omega
  intro v6
  skip -- #3
  show _ ↔ ((bxI x0 x1 x2 x3 x4 x5).has (x9, x10, x11) && freX x7 (getL (bxI x0 x1 x2 x3 x4 x5) (lstX deI x6) (x9, x10, x11))) = true
  rw [hh, Bool.true_and, getL_in hh hV]
  exact Iff.rfl
theorem kFreP : RCtrOk Tryd.prog ρ0 cFreP := by
  refine rctr_ofP (cf := cfG none [cIndex] [cFr] [] sumL) (cfG_ok (keep0.cons kIndex nIndex) (keepR0.cons kFr nFr) noF) Tryd.func73 rfl 600 rfl fun ds hr hp => ?_
  have hr := rshX_flat hr
  match ds, hr, hp with
  | [d0, d1, d2, d3, d4, d5, d6, d7, d8, d9, d10, d11], hr, hp =>
    obtain ⟨⟨e0, l0, u0⟩, ⟨e1, l1, u1⟩, ⟨e2, l2, u2⟩, ⟨e3, l3, u3⟩, ⟨e4, l4, u4⟩, ⟨e5, l5, u5⟩, l6, l7, ⟨e8, l8, u8⟩, ⟨e9, l9, u9⟩, ⟨e10, l10, u10⟩, ⟨e11, l11, u11⟩, _⟩ := hr
    generalize d0.i = x0 at *
    generalize d1.i = x1 at *
    generalize d2.i = x2 at *
    generalize d3.i = x3 at *
    generalize d4.i = x4 at *
    generalize d5.i = x5 at *
    generalize d6 = x6 at *
    generalize d7 = x7 at *
    generalize d8.i = x8 at *
    generalize d9.i = x9 at *
    generalize d10.i = x10 at *
    generalize d11.i = x11 at *
    subst e0 e1 e2 e3 e4 e5 e8 e9 e10 e11
    exact Eq.mpr (FrePL x0 x1 x2 x3 x4 x5 x6 x7 x8 x9 x10 x11) (FrePO x0 x1 x2 x3 x4 x5 x6 x7 x8 x9 x10 x11 ⟨l0, u0⟩ ⟨l1, u1⟩ ⟨l2, u2⟩ ⟨l3, u3⟩ ⟨l4, u4⟩ ⟨l5, u5⟩ l6 l7 ⟨l8, u8⟩ ⟨l9, u9⟩ ⟨l10, u10⟩ ⟨l11, u11⟩ hp)
theorem nFreP : ∃ fn, Tryd.prog.funcs[cFreP.f]? = some fn ∧ fn.body.isSome = true ∧ (fn.name == "runtime.NumGoroutine") = false := ⟨_, Tryd.func73, by kernel_rfl, by kernel_rfl⟩

/-- What is left of the contract of (*settle.place).soft. -/
def SofPP (x0 : Int) (x1 : Int) (x2 : Int) (x3 : Int) (x4 : Int) (x5 : Int) (x6 : X) (x7 : X) (x8 : Int) (x9 : Int) (x10 : Int) (x11 : Int) : Prop :=
(((¬ ((((((x0 ≤ x9) ∧ (x9 < x3)) ∧ (x1 ≤ x10)) ∧ (x10 < x4)) ∧ (x2 ≤ x11)) ∧ (x11 < x5))) →
((false = true) ↔ (Ff 806 [xI x0, xI x1, xI x2, xI x3, xI x4, xI x5, x6, x7, xI x8, xI x9, xI x10, xI x11]).b = true)) ∧
(((((((x0 ≤ x9) ∧ (x9 < x3)) ∧ (x1 ≤ x10)) ∧ (x10 < x4)) ∧ (x2 ≤ x11)) ∧ (x11 < x5)) →
(let v3 : X := Ff 260 [(xI x0), (xI x1), (xI x2), (xI x3), (xI x4), (xI x5), (xI x9), (xI x10), (xI x11)]; ((0 ≤ v3.i) ∧
((v3.i < x6.i) ∧
(let v6 : X := Ff 800 [x7, (xI (x6.r v3.i 0).i)]; ((¬ (v6.b = true)) ↔ (Ff 806 [xI x0, xI x1, xI x2, xI x3, xI x4, xI x5, x6, x7, xI x8, xI x9, xI x10, xI x11]).b = true)))))))
theorem SofPL (x0 : Int) (x1 : Int) (x2 : Int) (x3 : Int) (x4 : Int) (x5 : Int) (x6 : X) (x7 : X) (x8 : Int) (x9 : Int) (x10 : Int) (x11 : Int) : (ctrR (fun j => Ff j [xI x0, xI x1, xI x2, xI x3, xI x4, xI x5, x6, x7, xI x8, xI x9, xI x10, xI x11]) cSofP.fs cSofP.res { ρ0 with x := fun j => [xI x0, xI x1, xI x2, xI x3, xI x4, xI x5, x6, x7, xI x8, xI x9, xI x10, xI x11].getD j (xI 0) } (walkR Tryd.prog (cfG none [cIndex] [cMS] [] sumL) Tryd.f53 600 cSofP.args)) = SofPP x0 x1 x2 x3 x4 x5 x6 x7 x8 x9 x10 x11 := by kernel_rfl
set_option maxHeartbeats 4000000 in
theorem SofPO (x0 : Int) (x1 : Int) (x2 : Int) (x3 : Int) (x4 : Int) (x5 : Int) (x6 : X) (x7 : X) (x8 : Int) (x9 : Int) (x10 : Int) (x11 : Int) (g0 : -1048575 ≤ x0 ∧ x0 ≤ 1048575) (g1 : -1048575 ≤ x1 ∧ x1 ≤ 1048575) (g2 : -1048575 ≤ x2 ∧ x2 ≤ 1048575) (g3 : -1048575 ≤ x3 ∧ x3 ≤ 1048575) (g4 : -1048575 ≤ x4 ∧ x4 ≤ 1048575) (g5 : -1048575 ≤ x5 ∧ x5 ≤ 1048575) (g6 : 0 ≤ x6.i ∧ x6.i ≤ 2097152 ∧ RowOk [.int .i64 (0) (255)] x6.r x6.i.toNat) (g7 : 0 ≤ x7.i ∧ x7.i ≤ 9223372036854775807 ∧ RowOk SMt x7.r x7.i.toNat) (g8 : 0 ≤ x8 ∧ x8 ≤ 3) (g9 : -1048576 ≤ x9 ∧ x9 ≤ 1048576) (g10 : -1048576 ≤ x10 ∧ x10 ≤ 1048576) (g11 : -1048576 ≤ x11 ∧ x11 ≤ 1048576) (gp : Px cSofP.pre.get! [xI x0, xI x1, xI x2, xI x3, xI x4, xI x5, x6, x7, xI x8, xI x9, xI x10, xI x11]) : SofPP x0 x1 x2 x3 x4 x5 x6 x7 x8 x9 x10 x11 := by
  unfold SofPP
  obtain ⟨k0, k1, k2, k3, k4⟩ := (v700 g6.1).1 gp
  have hV : (bxI x0 x1 x2 x3 x4 x5).vol = x6.i := k3
  have hd := has_def (b := bxI x0 x1 x2 x3 x4 x5) (p := (x9, x10, x11))
  have hd : (bxI x0 x1 x2 x3 x4 x5).has (x9, x10, x11) = true ↔ (x0 ≤ x9 ∧ x9 < x3) ∧ (x1 ≤ x10 ∧ x10 < x4) ∧ (x2 ≤ x11 ∧ x11 < x5) := hd
  refine And.intro ?_ ?_
  · intro h1
    skip -- #0
    refine iff_of_false Bool.false_ne_true fun hv => ?_
    have hv : ((bxI x0 x1 x2 x3 x4 x5).has (x9, x10, x11) && !solX x7 (getL (bxI x0 x1 x2 x3 x4 x5) (lstX deI x6) (x9, x10, x11))) = true := hv
    rw [Bool.and_eq_true, hd] at hv
    omega
  intro h2
  have hh := hd.2 (by omega)
  have hi := idx_ok hh
  intro v3
  refine andI ?_ fun o4 => ?_
  · exact hi.1 -- #1
  refine andI ?_ fun o5 => ?_
  · skip -- #2
    have : v3.i < (bxI x0 x1 x2 x3 x4 x5).vol := hi.2
    omega
  intro v6
  skip -- #3
  show _ ↔ ((bxI x0 x1 x2 x3 x4 x5).has (x9, x10, x11) && !solX x7 (getL (bxI x0 x1 x2 x3 x4 x5) (lstX deI x6) (x9, x10, x11))) = true
  rw [hh, Bool.true_and, getL_in hh hV]
  rw [Bool.not_eq_true']
  exact (Bool.eq_false_iff (b := solX x7 (x6.r v3.i 0).i)).symm
theorem kSofP : RCtrOk Tryd.prog ρ0 cSofP := by
  refine rctr_ofP (cf := cfG none [cIndex] [cMS] [] sumL) (cfG_ok (keep0.cons kIndex nIndex) (keepR0.cons kMS nMS) noF) Tryd.func53 rfl 600 rfl fun ds hr hp => ?_
  have hr := rshX_flat hr
  match ds, hr, hp with
  | [d0, d1, d2, d3, d4, d5, d6, d7, d8, d9, d10, d11], hr, hp =>
    obtain ⟨⟨e0, l0, u0⟩, ⟨e1, l1, u1⟩, ⟨e2, l2, u2⟩, ⟨e3, l3, u3⟩, ⟨e4, l4, u4⟩, ⟨e5, l5, u5⟩, l6, l7, ⟨e8, l8, u8⟩, ⟨e9, l9, u9⟩, ⟨e10, l10, u10⟩, ⟨e11, l11, u11⟩, _⟩ := hr
    generalize d0.i = x0 at *
    generalize d1.i = x1 at *
    generalize d2.i = x2 at *
    generalize d3.i = x3 at *
    generalize d4.i = x4 at *
    generalize d5.i = x5 at *
    generalize d6 = x6 at *
    generalize d7 = x7 at *
    generalize d8.i = x8 at *
    generalize d9.i = x9 at *
    generalize d10.i = x10 at *
    generalize d11.i = x11 at *
    subst e0 e1 e2 e3 e4 e5 e8 e9 e10 e11
    exact Eq.mpr (SofPL x0 x1 x2 x3 x4 x5 x6 x7 x8 x9 x10 x11) (SofPO x0 x1 x2 x3 x4 x5 x6 x7 x8 x9 x10 x11 ⟨l0, u0⟩ ⟨l1, u1⟩ ⟨l2, u2⟩ ⟨l3, u3⟩ ⟨l4, u4⟩ ⟨l5, u5⟩ l6 l7 ⟨l8, u8⟩ ⟨l9, u9⟩ ⟨l10, u10⟩ ⟨l11, u11⟩ hp)
theorem nSofP : ∃ fn, Tryd.prog.funcs[cSofP.f]? = some fn ∧ fn.body.isSome = true ∧ (fn.name == "runtime.NumGoroutine") = false := ⟨_, Tryd.func53, by kernel_rfl, by kernel_rfl⟩

/-- What is left of the contract of (*settle.place).target. -/
def TgtPP (x0 : Int) (x1 : Int) (x2 : Int) (x3 : Int) (x4 : Int) (x5 : Int) (x6 : X) (x7 : X) (x8 : Int) (x9 : Int) (x10 : Int) (x11 : Int) : Prop :=
(((¬ ((((((x0 ≤ x9) ∧ (x9 < x3)) ∧ (x1 ≤ x10)) ∧ (x10 < x4)) ∧ (x2 ≤ x11)) ∧ (x11 < x5))) →
(((0 = (Ff 810 [xI x0, xI x1, xI x2, xI x3, xI x4, xI x5, x6, x7, xI x8, xI x9, xI x10, xI x11]).i ∧ -1048576 ≤ (Ff 810 [xI x0, xI x1, xI x2, xI x3, xI x4, xI x5, x6, x7, xI x8, xI x9, xI x10, xI x11]).i ∧ (Ff 810 [xI x0, xI x1, xI x2, xI x3, xI x4, xI x5, x6, x7, xI x8, xI x9, xI x10, xI x11]).i ≤ 1048576) ∧ ((0 = (Ff 811 [xI x0, xI x1, xI x2, xI x3, xI x4, xI x5, x6, x7, xI x8, xI x9, xI x10, xI x11]).i ∧ -1048576 ≤ (Ff 811 [xI x0, xI x1, xI x2, xI x3, xI x4, xI x5, x6, x7, xI x8, xI x9, xI x10, xI x11]).i ∧ (Ff 811 [xI x0, xI x1, xI x2, xI x3, xI x4, xI x5, x6, x7, xI x8, xI x9, xI x10, xI x11]).i ≤ 1048576) ∧ (0 = (Ff 812 [xI x0, xI x1, xI x2, xI x3, xI x4, xI x5, x6, x7, xI x8, xI x9, xI x10, xI x11]).i ∧ -1048576 ≤ (Ff 812 [xI x0, xI x1, xI x2, xI x3, xI x4, xI x5, x6, x7, xI x8, xI x9, xI x10, xI x11]).i ∧ (Ff 812 [xI x0, xI x1, xI x2, xI x3, xI x4, xI x5, x6, x7, xI x8, xI x9, xI x10, xI x11]).i ≤ 1048576))) ∧ (((false = true) ↔ (Ff 813 [xI x0, xI x1, xI x2, xI x3, xI x4, xI x5, x6, x7, xI x8, xI x9, xI x10, xI x11]).b = true) ∧ True))) ∧
(((((((x0 ≤ x9) ∧ (x9 < x3)) ∧ (x1 ≤ x10)) ∧ (x10 < x4)) ∧ (x2 ≤ x11)) ∧ (x11 < x5)) →
(let v3 : X := Ff 260 [(xI x0), (xI x1), (xI x2), (xI x3), (xI x4), (xI x5), (xI x9), (xI x10), (xI x11)]; ((0 ≤ v3.i) ∧
((v3.i < x6.i) ∧
(let v6 : X := Ff 802 [x7, (xI (x6.r v3.i 0).i)]; (((v6.b = true) →
(Px 710 [(xI x0), (xI x1), (xI x2), (xI x3), (xI x4), (xI x5), x6, x7, (xI x8), (xI x9), (xI x10), (xI (x11 + (-1)))] ∧
(let v10 : X := Ff 806 [(xI x0), (xI x1), (xI x2), (xI x3), (xI x4), (xI x5), x6, x7, (xI x8), (xI x9), (xI x10), (xI (x11 + (-1)))]; (((v10.b = true) →
(((x9 = (Ff 810 [xI x0, xI x1, xI x2, xI x3, xI x4, xI x5, x6, x7, xI x8, xI x9, xI x10, xI x11]).i ∧ -1048576 ≤ (Ff 810 [xI x0, xI x1, xI x2, xI x3, xI x4, xI x5, x6, x7, xI x8, xI x9, xI x10, xI x11]).i ∧ (Ff 810 [xI x0, xI x1, xI x2, xI x3, xI x4, xI x5, x6, x7, xI x8, xI x9, xI x10, xI x11]).i ≤ 1048576) ∧ ((x10 = (Ff 811 [xI x0, xI x1, xI x2, xI x3, xI x4, xI x5, x6, x7, xI x8, xI x9, xI x10, xI x11]).i ∧ -1048576 ≤ (Ff 811 [xI x0, xI x1, xI x2, xI x3, xI x4, xI x5, x6, x7, xI x8, xI x9, xI x10, xI x11]).i ∧ (Ff 811 [xI x0, xI x1, xI x2, xI x3, xI x4, xI x5, x6, x7, xI x8, xI x9, xI x10, xI x11]).i ≤ 1048576) ∧ ((x11 + (-1)) = (Ff 812 [xI x0, xI x1, xI x2, xI x3, xI x4, xI x5, x6, x7, xI x8, xI x9, xI x10, xI x11]).i ∧ -1048576 ≤ (Ff 812 [xI x0, xI x1, xI x2, xI x3, xI x4, xI x5, x6, x7, xI x8, xI x9, xI x10, xI x11]).i ∧ (Ff 812 [xI x0, xI x1, xI x2, xI x3, xI x4, xI x5, x6, x7, xI x8, xI x9, xI x10, xI x11]).i ≤ 1048576))) ∧ (((true = true) ↔ (Ff 813 [xI x0, xI x1, xI x2, xI x3, xI x4, xI x5, x6, x7, xI x8, xI x9, xI x10, xI x11]).b = true) ∧ True))) ∧
((¬ (v10.b = true)) →
(((0 = (Ff 810 [xI x0, xI x1, xI x2, xI x3, xI x4, xI x5, x6, x7, xI x8, xI x9, xI x10, xI x11]).i ∧ -1048576 ≤ (Ff 810 [xI x0, xI x1, xI x2, xI x3, xI x4, xI x5, x6, x7, xI x8, xI x9, xI x10, xI x11]).i ∧ (Ff 810 [xI x0, xI x1, xI x2, xI x3, xI x4, xI x5, x6, x7, xI x8, xI x9, xI x10, xI x11]).i ≤ 1048576) ∧ ((0 = (Ff 811 [xI x0, xI x1, xI x2, xI x3, xI x4, xI x5, x6, x7, xI x8, xI x9, xI x10, xI x11]).i ∧ -1048576 ≤ (Ff 811 [xI x0, xI x1, xI x2, xI x3, xI x4, xI x5, x6, x7, xI x8, xI x9, xI x10, xI x11]).i ∧ (Ff 811 [xI x0, xI x1, xI x2, xI x3, xI x4, xI x5, x6, x7, xI x8, xI x9, xI x10, xI x11]).i ≤ 1048576) ∧ (0 = (Ff 812 [xI x0, xI x1, xI x2, xI x3, xI x4, xI x5, x6, x7, xI x8, xI x9, xI x10, xI x11]).i ∧ -1048576 ≤ (Ff 812 [xI x0, xI x1, xI x2, xI x3, xI x4, xI x5, x6, x7, xI x8, xI x9, xI x10, xI x11]).i ∧ (Ff 812 [xI x0, xI x1, xI x2, xI x3, xI x4, xI x5, x6, x7, xI x8, xI x9, xI x10, xI x11]).i ≤ 1048576))) ∧ (((false = true) ↔ (Ff 813 [xI x0, xI x1, xI x2, xI x3, xI x4, xI x5, x6, x7, xI x8, xI x9, xI x10, xI x11]).b = true) ∧ True))))))) ∧
((¬ (v6.b = true)) →
(let v15 : X := Ff 801 [x7, (xI (x6.r v3.i 0).i)]; (((v15.b = true) →
(Px 710 [(xI x0), (xI x1), (xI x2), (xI x3), (xI x4), (xI x5), x6, x7, (xI x8), (xI x9), (xI x10), (xI (x11 + (-1)))] ∧
(let v19 : X := Ff 805 [(xI x0), (xI x1), (xI x2), (xI x3), (xI x4), (xI x5), x6, x7, (xI x8), (xI x9), (xI x10), (xI (x11 + (-1)))]; (((v19.b = true) →
(((x9 = (Ff 810 [xI x0, xI x1, xI x2, xI x3, xI x4, xI x5, x6, x7, xI x8, xI x9, xI x10, xI x11]).i ∧ -1048576 ≤ (Ff 810 [xI x0, xI x1, xI x2, xI x3, xI x4, xI x5, x6, x7, xI x8, xI x9, xI x10, xI x11]).i ∧ (Ff 810 [xI x0, xI x1, xI x2, xI x3, xI x4, xI x5, x6, x7, xI x8, xI x9, xI x10, xI x11]).i ≤ 1048576) ∧ ((x10 = (Ff 811 [xI x0, xI x1, xI x2, xI x3, xI x4, xI x5, x6, x7, xI x8, xI x9, xI x10, xI x11]).i ∧ -1048576 ≤ (Ff 811 [xI x0, xI x1, xI x2, xI x3, xI x4, xI x5, x6, x7, xI x8, xI x9, xI x10, xI x11]).i ∧ (Ff 811 [xI x0, xI x1, xI x2, xI x3, xI x4, xI x5, x6, x7, xI x8, xI x9, xI x10, xI x11]).i ≤ 1048576) ∧ ((x11 + (-1)) = (Ff 812 [xI x0, xI x1, xI x2, xI x3, xI x4, xI x5, x6, x7, xI x8, xI x9, xI x10, xI x11]).i ∧ -1048576 ≤ (Ff 812 [xI x0, xI x1, xI x2, xI x3, xI x4, xI x5, x6, x7, xI x8, xI x9, xI x10, xI x11]).i ∧ (Ff 812 [xI x0, xI x1, xI x2, xI x3, xI x4, xI x5, x6, x7, xI x8, xI x9, xI x10, xI x11]).i ≤ 1048576))) ∧ (((true = true) ↔ (Ff 813 [xI x0, xI x1, xI x2, xI x3, xI x4, xI x5, x6, x7, xI x8, xI x9, xI x10, xI x11]).b = true) ∧ True))) ∧
((¬ (v19.b = true)) →
(Px 870 [(xI x0), (xI x1), (xI x2), (xI x3), (xI x4), (xI x5), x6, x7, (xI x8), (xI x9), (xI x10), (xI x11), (xI 0)] ∧
(∀ x20 : X, (((0 ≤ x20.i) ∧ (x20.i ≤ 4)) →
(Px 870 [(xI x0), (xI x1), (xI x2), (xI x3), (xI x4), (xI x5), x6, x7, (xI x8), (xI x9), (xI x10), (xI x11), x20] →
(((x20.i < 4) →
(((((x8 + x20.i) % 4) = 0) →
(let v30 : X := Ff 805 [(xI x0), (xI x1), (xI x2), (xI x3), (xI x4), (xI x5), x6, x7, (xI x8), (xI (x9 + 1)), (xI x10), (xI x11)]; (((v30.b = true) →
 Px 710 [(xI x0), (xI x1), (xI x2), (xI x3), (xI x4), (xI x5), x6, x7, (xI x8), (xI (x9 + 1)), (xI x10), (xI (x11 + (-1)))]) ∧
(Px 710 [(xI x0), (xI x1), (xI x2), (xI x3), (xI x4), (xI x5), x6, x7, (xI x8), (xI (x9 + 1)), (xI x10), (xI x11)] ∧
(let v34 : X := Ff 805 [(xI x0), (xI x1), (xI x2), (xI x3), (xI x4), (xI x5), x6, x7, (xI x8), (xI (x9 + 1)), (xI x10), (xI (x11 + (-1)))]; ((((v30.b = true) ∧ (v34.b = true)) →
((((x9 + 1) = (Ff 810 [xI x0, xI x1, xI x2, xI x3, xI x4, xI x5, x6, x7, xI x8, xI x9, xI x10, xI x11]).i ∧ -1048576 ≤ (Ff 810 [xI x0, xI x1, xI x2, xI x3, xI x4, xI x5, x6, x7, xI x8, xI x9, xI x10, xI x11]).i ∧ (Ff 810 [xI x0, xI x1, xI x2, xI x3, xI x4, xI x5, x6, x7, xI x8, xI x9, xI x10, xI x11]).i ≤ 1048576) ∧ ((x10 = (Ff 811 [xI x0, xI x1, xI x2, xI x3, xI x4, xI x5, x6, x7, xI x8, xI x9, xI x10, xI x11]).i ∧ -1048576 ≤ (Ff 811 [xI x0, xI x1, xI x2, xI x3, xI x4, xI x5, x6, x7, xI x8, xI x9, xI x10, xI x11]).i ∧ (Ff 811 [xI x0, xI x1, xI x2, xI x3, xI x4, xI x5, x6, x7, xI x8, xI x9, xI x10, xI x11]).i ≤ 1048576) ∧ ((x11 + (-1)) = (Ff 812 [xI x0, xI x1, xI x2, xI x3, xI x4, xI x5, x6, x7, xI x8, xI x9, xI x10, xI x11]).i ∧ -1048576 ≤ (Ff 812 [xI x0, xI x1, xI x2, xI x3, xI x4, xI x5, x6, x7, xI x8, xI x9, xI x10, xI x11]).i ∧ (Ff 812 [xI x0, xI x1, xI x2, xI x3, xI x4, xI x5, x6, x7, xI x8, xI x9, xI x10, xI x11]).i ≤ 1048576))) ∧ (((true = true) ↔ (Ff 813 [xI x0, xI x1, xI x2, xI x3, xI x4, xI x5, x6, x7, xI x8, xI x9, xI x10, xI x11]).b = true) ∧ True))) ∧
((¬ ((v30.b = true) ∧ (v34.b = true))) →
(Px 870 [(xI x0), (xI x1), (xI x2), (xI x3), (xI x4), (xI x5), x6, x7, (xI x8), (xI x9), (xI x10), (xI x11), (xI (x20.i + 1))] ∧
(let v39 : X := Ff 890 [(xI x0), (xI x1), (xI x2), (xI x3), (xI x4), (xI x5), x6, x7, (xI x8), (xI x9), (xI x10), (xI x11), (xI (x20.i + 1))]; let v40 : X := Ff 890 [(xI x0), (xI x1), (xI x2), (xI x3), (xI x4), (xI x5), x6, x7, (xI x8), (xI x9), (xI x10), (xI x11), x20]; ((v39.i < v40.i) ∧
(0 < v40.i))))))))))) ∧
(((((x8 + x20.i) % 4) = 1) →
(let v44 : X := Ff 805 [(xI x0), (xI x1), (xI x2), (xI x3), (xI x4), (xI x5), x6, x7, (xI x8), (xI x9), (xI (x10 + 1)), (xI x11)]; (((v44.b = true) →
 Px 710 [(xI x0), (xI x1), (xI x2), (xI x3), (xI x4), (xI x5), x6, x7, (xI x8), (xI x9), (xI (x10 + 1)), (xI (x11 + (-1)))]) ∧
(Px 710 [(xI x0), (xI x1), (xI x2), (xI x3), (xI x4), (xI x5), x6, x7, (xI x8), (xI x9), (xI (x10 + 1)), (xI x11)] ∧
(let v48 : X := Ff 805 [(xI x0), (xI x1), (xI x2), (xI x3), (xI x4), (xI x5), x6, x7, (xI x8), (xI x9), (xI (x10 + 1)), (xI (x11 + (-1)))]; ((((v44.b = true) ∧ (v48.b = true)) →
(((x9 = (Ff 810 [xI x0, xI x1, xI x2, xI x3, xI x4, xI x5, x6, x7, xI x8, xI x9, xI x10, xI x11]).i ∧ -1048576 ≤ (Ff 810 [xI x0, xI x1, xI x2, xI x3, xI x4, xI x5, x6, x7, xI x8, xI x9, xI x10, xI x11]).i ∧ (Ff 810 [xI x0, xI x1, xI x2, xI x3, xI x4, xI x5, x6, x7, xI x8, xI x9, xI x10, xI x11]).i ≤ 1048576) ∧ (((x10 + 1) = (Ff 811 [xI x0, xI x1, xI x2, xI x3, xI x4, xI x5, x6, x7, xI x8, xI x9, xI x10, xI x11]).i ∧ -1048576 ≤ (Ff 811 [xI x0, xI x1, xI x2, xI x3, xI x4, xI x5, x6, x7, xI x8, xI x9, xI x10, xI x11]).i ∧ (Ff 811 [xI x0, xI x1, xI x2, xI x3, xI x4, xI x5, x6, x7, xI x8, xI x9, xI x10, xI x11]).i ≤ 1048576) ∧ ((x11 + (-1)) = (Ff 812 [xI x0, xI x1, xI x2, xI x3, xI x4, xI x5, x6, x7, xI x8, xI x9, xI x10, xI x11]).i ∧ -1048576 ≤ (Ff 812 [xI x0, xI x1, xI x2, xI x3, xI x4, xI x5, x6, x7, xI x8, xI x9, xI x10, xI x11]).i ∧ (Ff 812 [xI x0, xI x1, xI x2, xI x3, xI x4, xI x5, x6, x7, xI x8, xI x9, xI x10, xI x11]).i ≤ 1048576))) ∧ (((true = true) ↔ (Ff 813 [xI x0, xI x1, xI x2, xI x3, xI x4, xI x5, x6, x7, xI x8, xI x9, xI x10, xI x11]).b = true) ∧ True))) ∧
((¬ ((v44.b = true) ∧ (v48.b = true))) →
(Px 870 [(xI x0), (xI x1), (xI x2), (xI x3), (xI x4), (xI x5), x6, x7, (xI x8), (xI x9), (xI x10), (xI x11), (xI (x20.i + 1))] ∧
(let v53 : X := Ff 890 [(xI x0), (xI x1), (xI x2), (xI x3), (xI x4), (xI x5), x6, x7, (xI x8), (xI x9), (xI x10), (xI x11), (xI (x20.i + 1))]; let v54 : X := Ff 890 [(xI x0), (xI x1), (xI x2), (xI x3), (xI x4), (xI x5), x6, x7, (xI x8), (xI x9), (xI x10), (xI x11), x20]; ((v53.i < v54.i) ∧
(0 < v54.i))))))))))) ∧
(((((x8 + x20.i) % 4) = 2) →
(let v58 : X := Ff 805 [(xI x0), (xI x1), (xI x2), (xI x3), (xI x4), (xI x5), x6, x7, (xI x8), (xI (x9 + (-1))), (xI x10), (xI x11)]; (((v58.b = true) →
 Px 710 [(xI x0), (xI x1), (xI x2), (xI x3), (xI x4), (xI x5), x6, x7, (xI x8), (xI (x9 + (-1))), (xI x10), (xI (x11 + (-1)))]) ∧
(Px 710 [(xI x0), (xI x1), (xI x2), (xI x3), (xI x4), (xI x5), x6, x7, (xI x8), (xI (x9 + (-1))), (xI x10), (xI x11)] ∧
(let v62 : X := Ff 805 [(xI x0), (xI x1), (xI x2), (xI x3), (xI x4), (xI x5), x6, x7, (xI x8), (xI (x9 + (-1))), (xI x10), (xI (x11 + (-1)))]; ((((v58.b = true) ∧ (v62.b = true)) →
((((x9 + (-1)) = (Ff 810 [xI x0, xI x1, xI x2, xI x3, xI x4, xI x5, x6, x7, xI x8, xI x9, xI x10, xI x11]).i ∧ -1048576 ≤ (Ff 810 [xI x0, xI x1, xI x2, xI x3, xI x4, xI x5, x6, x7, xI x8, xI x9, xI x10, xI x11]).i ∧ (Ff 810 [xI x0, xI x1, xI x2, xI x3, xI x4, xI x5, x6, x7, xI x8, xI x9, xI x10, xI x11]).i ≤ 1048576) ∧ ((x10 = (Ff 811 [xI x0, xI x1, xI x2, xI x3, xI x4, xI x5, x6, x7, xI x8, xI x9, xI x10, xI x11]).i ∧ -1048576 ≤ (Ff 811 [xI x0, xI x1, xI x2, xI x3, xI x4, xI x5, x6, x7, xI x8, xI x9, xI x10, xI x11]).i ∧ (Ff 811 [xI x0, xI x1, xI x2, xI x3, xI x4, xI x5, x6, x7, xI x8, xI x9, xI x10, xI x11]).i ≤ 1048576) ∧ ((x11 + (-1)) = (Ff 812 [xI x0, xI x1, xI x2, xI x3, xI x4, xI x5, x6, x7, xI x8, xI x9, xI x10, xI x11]).i ∧ -1048576 ≤ (Ff 812 [xI x0, xI x1, xI x2, xI x3, xI x4, xI x5, x6, x7, xI x8, xI x9, xI x10, xI x11]).i ∧ (Ff 812 [xI x0, xI x1, xI x2, xI x3, xI x4, xI x5, x6, x7, xI x8, xI x9, xI x10, xI x11]).i ≤ 1048576))) ∧ (((true = true) ↔ (Ff 813 [xI x0, xI x1, xI x2, xI x3, xI x4, xI x5, x6, x7, xI x8, xI x9, xI x10, xI x11]).b = true) ∧ True))) ∧
((¬ ((v58.b = true) ∧ (v62.b = true))) →
(Px 870 [(xI x0), (xI x1), (xI x2), (xI x3), (xI x4), (xI x5), x6, x7, (xI x8), (xI x9), (xI x10), (xI x11), (xI (x20.i + 1))] ∧
(let v67 : X := Ff 890 [(xI x0), (xI x1), (xI x2), (xI x3), (xI x4), (xI x5), x6, x7, (xI x8), (xI x9), (xI x10), (xI x11), (xI (x20.i + 1))]; let v68 : X := Ff 890 [(xI x0), (xI x1), (xI x2), (xI x3), (xI x4), (xI x5), x6, x7, (xI x8), (xI x9), (xI x10), (xI x11), x20]; ((v67.i < v68.i) ∧
(0 < v68.i))))))))))) ∧
(((((x8 + x20.i) % 4) = 3) →
(let v72 : X := Ff 805 [(xI x0), (xI x1), (xI x2), (xI x3), (xI x4), (xI x5), x6, x7, (xI x8), (xI x9), (xI (x10 + (-1))), (xI x11)]; (((v72.b = true) →
 Px 710 [(xI x0), (xI x1), (xI x2), (xI x3), (xI x4), (xI x5), x6, x7, (xI x8), (xI x9), (xI (x10 + (-1))), (xI (x11 + (-1)))]) ∧
(Px 710 [(xI x0), (xI x1), (xI x2), (xI x3), (xI x4), (xI x5), x6, x7, (xI x8), (xI x9), (xI (x10 + (-1))), (xI x11)] ∧
(let v76 : X := Ff 805 [(xI x0), (xI x1), (xI x2), (xI x3), (xI x4), (xI x5), x6, x7, (xI x8), (xI x9), (xI (x10 + (-1))), (xI (x11 + (-1)))]; ((((v72.b = true) ∧ (v76.b = true)) →
(((x9 = (Ff 810 [xI x0, xI x1, xI x2, xI x3, xI x4, xI x5, x6, x7, xI x8, xI x9, xI x10, xI x11]).i ∧ -1048576 ≤ (Ff 810 [xI x0, xI x1, xI x2, xI x3, xI x4, xI x5, x6, x7, xI x8, xI x9, xI x10, xI x11]).i ∧ (Ff 810 [xI x0, xI x1, xI x2, xI x3, xI x4, xI x5, x6, x7, xI x8, xI x9, xI x10, xI x11]).i ≤ 1048576) ∧ (((x10 + (-1)) = (Ff 811 [xI x0, xI x1, xI x2, xI x3, xI x4, xI x5, x6, x7, xI x8, xI x9, xI x10, xI x11]).i ∧ -1048576 ≤ (Ff 811 [xI x0, xI x1, xI x2, xI x3, xI x4, xI x5, x6, x7, xI x8, xI x9, xI x10, xI x11]).i ∧ (Ff 811 [xI x0, xI x1, xI x2, xI x3, xI x4, xI x5, x6, x7, xI x8, xI x9, xI x10, xI x11]).i ≤ 1048576) ∧ ((x11 + (-1)) = (Ff 812 [xI x0, xI x1, xI x2, xI x3, xI x4, xI x5, x6, x7, xI x8, xI x9, xI x10, xI x11]).i ∧ -1048576 ≤ (Ff 812 [xI x0, xI x1, xI x2, xI x3, xI x4, xI x5, x6, x7, xI x8, xI x9, xI x10, xI x11]).i ∧ (Ff 812 [xI x0, xI x1, xI x2, xI x3, xI x4, xI x5, x6, x7, xI x8, xI x9, xI x10, xI x11]).i ≤ 1048576))) ∧ (((true = true) ↔ (Ff 813 [xI x0, xI x1, xI x2, xI x3, xI x4, xI x5, x6, x7, xI x8, xI x9, xI x10, xI x11]).b = true) ∧ True))) ∧
((¬ ((v72.b = true) ∧ (v76.b = true))) →
(Px 870 [(xI x0), (xI x1), (xI x2), (xI x3), (xI x4), (xI x5), x6, x7, (xI x8), (xI x9), (xI x10), (xI x11), (xI (x20.i + 1))] ∧
(let v81 : X := Ff 890 [(xI x0), (xI x1), (xI x2), (xI x3), (xI x4), (xI x5), x6, x7, (xI x8), (xI x9), (xI x10), (xI x11), (xI (x20.i + 1))]; let v82 : X := Ff 890 [(xI x0), (xI x1), (xI x2), (xI x3), (xI x4), (xI x5), x6, x7, (xI x8), (xI x9), (xI x10), (xI x11), x20]; ((v81.i < v82.i) ∧
(0 < v82.i))))))))))) ∧
 True))))) ∧
((¬ (x20.i < 4)) →
(((0 = (Ff 810 [xI x0, xI x1, xI x2, xI x3, xI x4, xI x5, x6, x7, xI x8, xI x9, xI x10, xI x11]).i ∧ -1048576 ≤ (Ff 810 [xI x0, xI x1, xI x2, xI x3, xI x4, xI x5, x6, x7, xI x8, xI x9, xI x10, xI x11]).i ∧ (Ff 810 [xI x0, xI x1, xI x2, xI x3, xI x4, xI x5, x6, x7, xI x8, xI x9, xI x10, xI x11]).i ≤ 1048576) ∧ ((0 = (Ff 811 [xI x0, xI x1, xI x2, xI x3, xI x4, xI x5, x6, x7, xI x8, xI x9, xI x10, xI x11]).i ∧ -1048576 ≤ (Ff 811 [xI x0, xI x1, xI x2, xI x3, xI x4, xI x5, x6, x7, xI x8, xI x9, xI x10, xI x11]).i ∧ (Ff 811 [xI x0, xI x1, xI x2, xI x3, xI x4, xI x5, x6, x7, xI x8, xI x9, xI x10, xI x11]).i ≤ 1048576) ∧ (0 = (Ff 812 [xI x0, xI x1, xI x2, xI x3, xI x4, xI x5, x6, x7, xI x8, xI x9, xI x10, xI x11]).i ∧ -1048576 ≤ (Ff 812 [xI x0, xI x1, xI x2, xI x3, xI x4, xI x5, x6, x7, xI x8, xI x9, xI x10, xI x11]).i ∧ (Ff 812 [xI x0, xI x1, xI x2, xI x3, xI x4, xI x5, x6, x7, xI x8, xI x9, xI x10, xI x11]).i ≤ 1048576))) ∧ (((false = true) ↔ (Ff 813 [xI x0, xI x1, xI x2, xI x3, xI x4, xI x5, x6, x7, xI x8, xI x9, xI x10, xI x11]).b = true) ∧ True))))))))))))) ∧
((¬ (v15.b = true)) →
(((0 = (Ff 810 [xI x0, xI x1, xI x2, xI x3, xI x4, xI x5, x6, x7, xI x8, xI x9, xI x10, xI x11]).i ∧ -1048576 ≤ (Ff 810 [xI x0, xI x1, xI x2, xI x3, xI x4, xI x5, x6, x7, xI x8, xI x9, xI x10, xI x11]).i ∧ (Ff 810 [xI x0, xI x1, xI x2, xI x3, xI x4, xI x5, x6, x7, xI x8, xI x9, xI x10, xI x11]).i ≤ 1048576) ∧ ((0 = (Ff 811 [xI x0, xI x1, xI x2, xI x3, xI x4, xI x5, x6, x7, xI x8, xI x9, xI x10, xI x11]).i ∧ -1048576 ≤ (Ff 811 [xI x0, xI x1, xI x2, xI x3, xI x4, xI x5, x6, x7, xI x8, xI x9, xI x10, xI x11]).i ∧ (Ff 811 [xI x0, xI x1, xI x2, xI x3, xI x4, xI x5, x6, x7, xI x8, xI x9, xI x10, xI x11]).i ≤ 1048576) ∧ (0 = (Ff 812 [xI x0, xI x1, xI x2, xI x3, xI x4, xI x5, x6, x7, xI x8, xI x9, xI x10, xI x11]).i ∧ -1048576 ≤ (Ff 812 [xI x0, xI x1, xI x2, xI x3, xI x4, xI x5, x6, x7, xI x8, xI x9, xI x10, xI x11]).i ∧ (Ff 812 [xI x0, xI x1, xI x2, xI x3, xI x4, xI x5, x6, x7, xI x8, xI x9, xI x10, xI x11]).i ≤ 1048576))) ∧ (((false = true) ↔ (Ff 813 [xI x0, xI x1, xI x2, xI x3, xI x4, xI x5, x6, x7, xI x8, xI x9, xI x10, xI x11]).b = true) ∧ True)))))))))))))
theorem TgtPL (x0 : Int) (x1 : Int) (x2 : Int) (x3 : Int) (x4 : Int) (x5 : Int) (x6 : X) (x7 : X) (x8 : Int) (x9 : Int) (x10 : Int) (x11 : Int) : (ctrR (fun j => Ff j [xI x0, xI x1, xI x2, xI x3, xI x4, xI x5, x6, x7, xI x8, xI x9, xI x10, xI x11]) cTgtP.fs cTgtP.res { ρ0 with x := fun j => [xI x0, xI x1, xI x2, xI x3, xI x4, xI x5, x6, x7, xI x8, xI x9, xI x10, xI x11].getD j (xI 0) } (walkR Tryd.prog (cfG none [cIndex] [cML, cMF, cFreP, cSofP] lpTgt sumL) Tryd.f31 600 cTgtP.args)) = TgtPP x0 x1 x2 x3 x4 x5 x6 x7 x8 x9 x10 x11 := by kernel_rfl
set_option maxHeartbeats 4000000 in
theorem TgtPO (x0 : Int) (x1 : Int) (x2 : Int) (x3 : Int) (x4 : Int) (x5 : Int) (x6 : X) (x7 : X) (x8 : Int) (x9 : Int) (x10 : Int) (x11 : Int) (g0 : -1048575 ≤ x0 ∧ x0 ≤ 1048575) (g1 : -1048575 ≤ x1 ∧ x1 ≤ 1048575) (g2 : -1048575 ≤ x2 ∧ x2 ≤ 1048575) (g3 : -1048575 ≤ x3 ∧ x3 ≤ 1048575) (g4 : -1048575 ≤ x4 ∧ x4 ≤ 1048575) (g5 : -1048575 ≤ x5 ∧ x5 ≤ 1048575) (g6 : 0 ≤ x6.i ∧ x6.i ≤ 2097152 ∧ RowOk [.int .i64 (0) (255)] x6.r x6.i.toNat) (g7 : 0 ≤ x7.i ∧ x7.i ≤ 9223372036854775807 ∧ RowOk SMt x7.r x7.i.toNat) (g8 : 0 ≤ x8 ∧ x8 ≤ 3) (g9 : -9223372036854775808 ≤ x9 ∧ x9 ≤ 9223372036854775807) (g10 : -9223372036854775808 ≤ x10 ∧ x10 ≤ 9223372036854775807) (g11 : -9223372036854775808 ≤ x11 ∧ x11 ≤ 9223372036854775807) (gp : Px cTgtP.pre.get! [xI x0, xI x1, xI x2, xI x3, xI x4, xI x5, x6, x7, xI x8, xI x9, xI x10, xI x11]) : TgtPP x0 x1 x2 x3 x4 x5 x6 x7 x8 x9 x10 x11 := by
  unfold TgtPP
  obtain ⟨k0, k1, k2, k3, k4⟩ := (v700 g6.1).1 gp
  have hV : (bxI x0 x1 x2 x3 x4 x5).vol = x6.i := k3
  have hd : (bxI x0 x1 x2 x3 x4 x5).has (x9, x10, x11) = true ↔ (x0 ≤ x9 ∧ x9 < x3) ∧ (x1 ≤ x10 ∧ x10 < x4) ∧ (x2 ≤ x11 ∧ x11 < x5) := has_def
  refine And.intro ?_ ?_
  · intro h1
    exact tlN (tgt_out fun h => h1 (by have h := hd.1 h; omega)) -- #0
  intro h2
  have hh := hd.2 (by omega)
  have hi := idx_ok hh
  have hg : getL (bxI x0 x1 x2 x3 x4 x5) (lstX deI x6) (x9, x10, x11) = (x6.r ((bxI x0 x1 x2 x3 x4 x5).idx (x9, x10, x11)) 0).i := getL_in hh hV
  intro v3
  refine andI ?_ fun o4 => ?_
  · exact hi.1 -- #1
  refine andI ?_ fun o5 => ?_
  · skip -- #2
    have : v3.i < (bxI x0 x1 x2 x3 x4 x5).vol := hi.2
    omega
  intro v6
  refine And.intro ?_ ?_
  · intro h8
    have hf : falX x7 (getL (bxI x0 x1 x2 x3 x4 x5) (lstX deI x6) (x9, x10, x11)) = true := by rw [hg]; exact h8
    refine andI ?_ fun o9 => ?_
    · exact gp -- #3
    intro v10
    refine And.intro ?_ ?_
    · intro h12
      exact tlS ((tgt_fall hh hf).trans (if_pos h12)) (by omega) (by omega) (by omega) -- #4
    intro h13
    exact tlN ((tgt_fall hh hf).trans (if_neg h13)) -- #5
  intro h14
  have hf : ¬ falX x7 (getL (bxI x0 x1 x2 x3 x4 x5) (lstX deI x6) (x9, x10, x11)) = true := by rw [hg]; exact h14
  intro v15
  refine And.intro ?_ ?_
  · intro h17
    have hl : liqX x7 (getL (bxI x0 x1 x2 x3 x4 x5) (lstX deI x6) (x9, x10, x11)) = true := by rw [hg]; exact h17
    refine andI ?_ fun o18 => ?_
    · exact gp -- #6
    intro v19
    refine And.intro ?_ ?_
    · intro h21
      exact tlS ((tgt_liq hh hf hl).trans (if_pos h21)) (by omega) (by omega) (by omega) -- #7
    intro h22
    refine andI ?_ fun o23 => ?_
    · exact q870_0 -- #8
    intro x20
    intro h24
    intro p25
    refine And.intro ?_ ?_
    · intro h27
      refine And.intro ?_ ?_
      · intro h29
        intro v30
        refine And.intro ?_ ?_
        · intro h32
          exact gp -- #9
        refine andI ?_ fun o33 => ?_
        · exact gp -- #10
        intro v34
        refine And.intro ?_ ?_
        · intro h36
          exact tlS (((tgt_liq hh hf hl).trans (if_neg h22)).trans (q870_e p25 h27 h29 (Bool.and_eq_true_iff.2 h36))) (by omega) (by omega) (by omega) -- #11
        intro h37
        refine andI ?_ fun o38 => ?_
        · exact q870_s p25 h27 h29 fun hc => h37 (Bool.and_eq_true_iff.1 hc) -- #12
        intro v39
        intro v40
        refine andI ?_ fun o41 => ?_
        · first | (show 4 - (x20.i + 1) < 4 - x20.i; omega) | (show 0 < 4 - x20.i; omega) -- #13
        first | (show 4 - (x20.i + 1) < 4 - x20.i; omega) | (show 0 < 4 - x20.i; omega) -- #14
      refine And.intro ?_ ?_
      · intro h43
        intro v44
        refine And.intro ?_ ?_
        · intro h46
          exact gp -- #15
        refine andI ?_ fun o47 => ?_
        · exact gp -- #16
        intro v48
        refine And.intro ?_ ?_
        · intro h50
          exact tlS (((tgt_liq hh hf hl).trans (if_neg h22)).trans (q870_e p25 h27 h43 (Bool.and_eq_true_iff.2 h50))) (by omega) (by omega) (by omega) -- #17
        intro h51
        refine andI ?_ fun o52 => ?_
        · exact q870_s p25 h27 h43 fun hc => h51 (Bool.and_eq_true_iff.1 hc) -- #18
        intro v53
        intro v54
        refine andI ?_ fun o55 => ?_
        · first | (show 4 - (x20.i + 1) < 4 - x20.i; omega) | (show 0 < 4 - x20.i; omega) -- #19
        first | (show 4 - (x20.i + 1) < 4 - x20.i; omega) | (show 0 < 4 - x20.i; omega) -- #20
      refine And.intro ?_ ?_
      · intro h57
        intro v58
        refine And.intro ?_ ?_
        · intro h60
          exact gp -- #21
        refine andI ?_ fun o61 => ?_
        · exact gp -- #22
        intro v62
        refine And.intro ?_ ?_
        · intro h64
          exact tlS (((tgt_liq hh hf hl).trans (if_neg h22)).trans (q870_e p25 h27 h57 (Bool.and_eq_true_iff.2 h64))) (by omega) (by omega) (by omega) -- #23
        intro h65
        refine andI ?_ fun o66 => ?_
        · exact q870_s p25 h27 h57 fun hc => h65 (Bool.and_eq_true_iff.1 hc) -- #24
        intro v67
        intro v68
        refine andI ?_ fun o69 => ?_
        · first | (show 4 - (x20.i + 1) < 4 - x20.i; omega) | (show 0 < 4 - x20.i; omega) -- #25
        first | (show 4 - (x20.i + 1) < 4 - x20.i; omega) | (show 0 < 4 - x20.i; omega) -- #26
      refine And.intro ?_ ?_
      · intro h71
        intro v72
        refine And.intro ?_ ?_
        · intro h74
          exact gp -- #27
        refine andI ?_ fun o75 => ?_
        · exact gp -- #28
        intro v76
        refine And.intro ?_ ?_
        · intro h78
          exact tlS (((tgt_liq hh hf hl).trans (if_neg h22)).trans (q870_e p25 h27 h71 (Bool.and_eq_true_iff.2 h78))) (by omega) (by omega) (by omega) -- #29
        intro h79
        refine andI ?_ fun o80 => ?_
        · exact q870_s p25 h27 h71 fun hc => h79 (Bool.and_eq_true_iff.1 hc) -- #30
        intro v81
        intro v82
        refine andI ?_ fun o83 => ?_
        · first | (show 4 - (x20.i + 1) < 4 - x20.i; omega) | (show 0 < 4 - x20.i; omega) -- #31
        first | (show 4 - (x20.i + 1) < 4 - x20.i; omega) | (show 0 < 4 - x20.i; omega) -- #32
      trivial -- #33
    intro h84
    exact tlN (((tgt_liq hh hf hl).trans (if_neg h22)).trans (q870_n p25 h84)) -- #34
  intro h85
  have hl : ¬ liqX x7 (getL (bxI x0 x1 x2 x3 x4 x5) (lstX deI x6) (x9, x10, x11)) = true := by rw [hg]; exact h85
  exact tlN (tgt_stay hh hf hl) -- #35
theorem kTgtP : RCtrOk Tryd.prog ρ0 cTgtP := by
  refine rctr_ofP (cf := cfG none [cIndex] [cML, cMF, cFreP, cSofP] lpTgt sumL) (cfG_ok (keep0.cons kIndex nIndex) ((((keepR0.cons kSofP nSofP).cons kFreP nFreP).cons kMF nMF).cons kML nML) noF) Tryd.func31 rfl 600 rfl fun ds hr hp => ?_
  have hr := rshX_flat hr
  match ds, hr, hp with
  | [d0, d1, d2, d3, d4, d5, d6, d7, d8, d9, d10, d11], hr, hp =>
    obtain ⟨⟨e0, l0, u0⟩, ⟨e1, l1, u1⟩, ⟨e2, l2, u2⟩, ⟨e3, l3, u3⟩, ⟨e4, l4, u4⟩, ⟨e5, l5, u5⟩, l6, l7, ⟨e8, l8, u8⟩, ⟨e9, l9, u9⟩, ⟨e10, l10, u10⟩, ⟨e11, l11, u11⟩, _⟩ := hr
    generalize d0.i = x0 at *
    generalize d1.i = x1 at *
    generalize d2.i = x2 at *
    generalize d3.i = x3 at *
    generalize d4.i = x4 at *
    generalize d5.i = x5 at *
    generalize d6 = x6 at *
    generalize d7 = x7 at *
    generalize d8.i = x8 at *
    generalize d9.i = x9 at *
    generalize d10.i = x10 at *
    generalize d11.i = x11 at *
    subst e0 e1 e2 e3 e4 e5 e8 e9 e10 e11
    exact Eq.mpr (TgtPL x0 x1 x2 x3 x4 x5 x6 x7 x8 x9 x10 x11) (TgtPO x0 x1 x2 x3 x4 x5 x6 x7 x8 x9 x10 x11 ⟨l0, u0⟩ ⟨l1, u1⟩ ⟨l2, u2⟩ ⟨l3, u3⟩ ⟨l4, u4⟩ ⟨l5, u5⟩ l6 l7 ⟨l8, u8⟩ ⟨l9, u9⟩ ⟨l10, u10⟩ ⟨l11, u11⟩ hp)
theorem nTgtP : ∃ fn, Tryd.prog.funcs[cTgtP.f]? = some fn ∧ fn.body.isSome = true ∧ (fn.name == "runtime.NumGoroutine") = false := ⟨_, Tryd.func31, by kernel_rfl, by kernel_rfl⟩

/-- What is left of the contract of settle.Target. -/
def TgtP (x0 : Int) (x1 : Int) (x2 : Int) (x3 : Int) (x4 : Int) (x5 : Int) (x6 : X) (x7 : X) (x8 : Int) (x9 : Int) (x10 : Int) (x11 : Int) : Prop :=
(Px 711 [(xI x0), (xI x1), (xI x2), (xI x3), (xI x4), (xI x5), x6, (xI x0), (xI x1), (xI x2), (xI x3), (xI x4), (xI x5), x6] ∧
(let v1 : X := Ff 701 [(xI x0), (xI x1), (xI x2), (xI x3), (xI x4), (xI x5), x6, (xI x0), (xI x1), (xI x2), (xI x3), (xI x4), (xI x5), x6]; let v2 : X := Ff 702 [(xI x0), (xI x1), (xI x2), (xI x3), (xI x4), (xI x5), x6, (xI x0), (xI x1), (xI x2), (xI x3), (xI x4), (xI x5), x6]; let v3 : X := Ff 703 [(xI x0), (xI x1), (xI x2), (xI x3), (xI x4), (xI x5), x6, (xI x0), (xI x1), (xI x2), (xI x3), (xI x4), (xI x5), x6]; let v4 : X := Ff 704 [(xI x0), (xI x1), (xI x2), (xI x3), (xI x4), (xI x5), x6, (xI x0), (xI x1), (xI x2), (xI x3), (xI x4), (xI x5), x6]; let v5 : X := Ff 705 [(xI x0), (xI x1), (xI x2), (xI x3), (xI x4), (xI x5), x6, (xI x0), (xI x1), (xI x2), (xI x3), (xI x4), (xI x5), x6]; let v6 : X := Ff 706 [(xI x0), (xI x1), (xI x2), (xI x3), (xI x4), (xI x5), x6, (xI x0), (xI x1), (xI x2), (xI x3), (xI x4), (xI x5), x6]; let v7 : X := Ff 707 [(xI x0), (xI x1), (xI x2), (xI x3), (xI x4), (xI x5), x6, (xI x0), (xI x1), (xI x2), (xI x3), (xI x4), (xI x5), x6]; (Px 710 [(xI v1.i), (xI v2.i), (xI v3.i), (xI v4.i), (xI v5.i), (xI v6.i), v7, x7, (xI (x8 % 4)), (xI x9), (xI x10), (xI x11)] ∧
(let v9 : X := Ff 810 [(xI v1.i), (xI v2.i), (xI v3.i), (xI v4.i), (xI v5.i), (xI v6.i), v7, x7, (xI (x8 % 4)), (xI x9), (xI x10), (xI x11)]; let v10 : X := Ff 811 [(xI v1.i), (xI v2.i), (xI v3.i), (xI v4.i), (xI v5.i), (xI v6.i), v7, x7, (xI (x8 % 4)), (xI x9), (xI x10), (xI x11)]; let v11 : X := Ff 812 [(xI v1.i), (xI v2.i), (xI v3.i), (xI v4.i), (xI v5.i), (xI v6.i), v7, x7, (xI (x8 % 4)), (xI x9), (xI x10), (xI x11)]; let v12 : X := Ff 813 [(xI v1.i), (xI v2.i), (xI v3.i), (xI v4.i), (xI v5.i), (xI v6.i), v7, x7, (xI (x8 % 4)), (xI x9), (xI x10), (xI x11)]; (((v9.i = (Ff 810 [xI x0, xI x1, xI x2, xI x3, xI x4, xI x5, x6, x7, xI x8, xI x9, xI x10, xI x11]).i ∧ -1048576 ≤ (Ff 810 [xI x0, xI x1, xI x2, xI x3, xI x4, xI x5, x6, x7, xI x8, xI x9, xI x10, xI x11]).i ∧ (Ff 810 [xI x0, xI x1, xI x2, xI x3, xI x4, xI x5, x6, x7, xI x8, xI x9, xI x10, xI x11]).i ≤ 1048576) ∧ ((v10.i = (Ff 811 [xI x0, xI x1, xI x2, xI x3, xI x4, xI x5, x6, x7, xI x8, xI x9, xI x10, xI x11]).i ∧ -1048576 ≤ (Ff 811 [xI x0, xI x1, xI x2, xI x3, xI x4, xI x5, x6, x7, xI x8, xI x9, xI x10, xI x11]).i ∧ (Ff 811 [xI x0, xI x1, xI x2, xI x3, xI x4, xI x5, x6, x7, xI x8, xI x9, xI x10, xI x11]).i ≤ 1048576) ∧ (v11.i = (Ff 812 [xI x0, xI x1, xI x2, xI x3, xI x4, xI x5, x6, x7, xI x8, xI x9, xI x10, xI x11]).i ∧ -1048576 ≤ (Ff 812 [xI x0, xI x1, xI x2, xI x3, xI x4, xI x5, x6, x7, xI x8, xI x9, xI x10, xI x11]).i ∧ (Ff 812 [xI x0, xI x1, xI x2, xI x3, xI x4, xI x5, x6, x7, xI x8, xI x9, xI x10, xI x11]).i ≤ 1048576))) ∧ (((v12.b = true) ↔ (Ff 813 [xI x0, xI x1, xI x2, xI x3, xI x4, xI x5, x6, x7, xI x8, xI x9, xI x10, xI x11]).b = true) ∧ True))))))
theorem TgtL (x0 : Int) (x1 : Int) (x2 : Int) (x3 : Int) (x4 : Int) (x5 : Int) (x6 : X) (x7 : X) (x8 : Int) (x9 : Int) (x10 : Int) (x11 : Int) : (ctrR (fun j => Ff j [xI x0, xI x1, xI x2, xI x3, xI x4, xI x5, x6, x7, xI x8, xI x9, xI x10, xI x11]) cTgt.fs cTgt.res { ρ0 with x := fun j => [xI x0, xI x1, xI x2, xI x3, xI x4, xI x5, x6, x7, xI x8, xI x9, xI x10, xI x11].getD j (xI 0) } (walkR Tryd.prog (cfG none [] [cPaste, cTgtP] [] sumL) Tryd.f13 600 shTgt)) = TgtP x0 x1 x2 x3 x4 x5 x6 x7 x8 x9 x10 x11 := by kernel_rfl
set_option maxHeartbeats 4000000 in
theorem TgtO (x0 : Int) (x1 : Int) (x2 : Int) (x3 : Int) (x4 : Int) (x5 : Int) (x6 : X) (x7 : X) (x8 : Int) (x9 : Int) (x10 : Int) (x11 : Int) (g0 : -1048575 ≤ x0 ∧ x0 ≤ 1048575) (g1 : -1048575 ≤ x1 ∧ x1 ≤ 1048575) (g2 : -1048575 ≤ x2 ∧ x2 ≤ 1048575) (g3 : -1048575 ≤ x3 ∧ x3 ≤ 1048575) (g4 : -1048575 ≤ x4 ∧ x4 ≤ 1048575) (g5 : -1048575 ≤ x5 ∧ x5 ≤ 1048575) (g6 : 0 ≤ x6.i ∧ x6.i ≤ 2097152 ∧ RowOk [.int .i64 (0) (255)] x6.r x6.i.toNat) (g7 : 0 ≤ x7.i ∧ x7.i ≤ 9223372036854775807 ∧ RowOk SMt x7.r x7.i.toNat) (g8 : -9223372036854775808 ≤ x8 ∧ x8 ≤ 9223372036854775807) (g9 : -9223372036854775808 ≤ x9 ∧ x9 ≤ 9223372036854775807) (g10 : -9223372036854775808 ≤ x10 ∧ x10 ≤ 9223372036854775807) (g11 : -9223372036854775808 ≤ x11 ∧ x11 ≤ 9223372036854775807) (gp : Px cTgt.pre.get! [xI x0, xI x1, xI x2, xI x3, xI x4, xI x5, x6, x7, xI x8, xI x9, xI x10, xI x11]) : TgtP x0 x1 x2 x3 x4 x5 x6 x7 x8 x9 x10 x11 := by
  unfold TgtP
  refine andI ?_ fun o0 => ?_
  · exact ⟨gp, gp⟩ -- #0
  intro v1
  intro v2
  intro v3
  intro v4
  intro v5
  intro v6
  intro v7
  have hs : lstX deI v7 = (lstX deI x6) := (lstX_rowG (enc := enI) (dec := deI) (fun _ => rfl) _).trans (pas_self ((v700 g6.1).1 gp).2.2.2.1 g6.1)
  refine andI ?_ fun o8 => ?_
  · skip -- #1
    show validG ⟨(bxI x0 x1 x2 x3 x4 x5), lstX deI v7⟩ = true
    rw [hs]
    exact gp
  intro v9
  intro v10
  intro v11
  intro v12
  skip -- #2
  have e : tgtB (bxI x0 x1 x2 x3 x4 x5) (lstX deI v7) x7 (x8 % 4) (x9, x10, x11) = tgtB (bxI x0 x1 x2 x3 x4 x5) (lstX deI x6) x7 x8 (x9, x10, x11) := by rw [hs, tgt_mod]
  refine tlE e fun q hq => ?_
  have h := (has_def (b := bxI x0 x1 x2 x3 x4 x5)).1 (tgt_has hq).2
  have h : (x0 ≤ q.1 ∧ q.1 < x3) ∧ (x1 ≤ q.2.1 ∧ q.2.1 < x4) ∧ (x2 ≤ q.2.2 ∧ q.2.2 < x5) := h
  omega
theorem kTgt : RCtrOk Tryd.prog ρ0 cTgt := by
  refine rctr_ofN (cf := cfG none [] [cPaste, cTgtP] [] sumL) (cfG_ok keep0 ((keepR0.cons kTgtP nTgtP).cons kPaste nPaste) noF) Tryd.func13 rfl 600 rfl (sh := shTgt) (by kernel_rfl) val_rsh fun ds hr hp => ?_
  have hr := rshX_flat hr
  match ds, hr, hp with
  | [d0, d1, d2, d3, d4, d5, d6, d7, d8, d9, d10, d11], hr, hp =>
    obtain ⟨⟨e0, l0, u0⟩, ⟨e1, l1, u1⟩, ⟨e2, l2, u2⟩, ⟨e3, l3, u3⟩, ⟨e4, l4, u4⟩, ⟨e5, l5, u5⟩, l6, l7, ⟨e8, l8, u8⟩, ⟨e9, l9, u9⟩, ⟨e10, l10, u10⟩, ⟨e11, l11, u11⟩, _⟩ := hr
    generalize d0.i = x0 at *
    generalize d1.i = x1 at *
    generalize d2.i = x2 at *
    generalize d3.i = x3 at *
    generalize d4.i = x4 at *
    generalize d5.i = x5 at *
    generalize d6 = x6 at *
    generalize d7 = x7 at *
    generalize d8.i = x8 at *
    generalize d9.i = x9 at *
    generalize d10.i = x10 at *
    generalize d11.i = x11 at *
    subst e0 e1 e2 e3 e4 e5 e8 e9 e10 e11
    exact Eq.mpr (TgtL x0 x1 x2 x3 x4 x5 x6 x7 x8 x9 x10 x11) (TgtO x0 x1 x2 x3 x4 x5 x6 x7 x8 x9 x10 x11 ⟨l0, u0⟩ ⟨l1, u1⟩ ⟨l2, u2⟩ ⟨l3, u3⟩ ⟨l4, u4⟩ ⟨l5, u5⟩ l6 l7 ⟨l8, u8⟩ ⟨l9, u9⟩ ⟨l10, u10⟩ ⟨l11, u11⟩ hp)
theorem nTgt : ∃ fn, Tryd.prog.funcs[cTgt.f]? = some fn ∧ fn.body.isSome = true ∧ (fn.name == "runtime.NumGoroutine") = false := ⟨_, Tryd.func13, by kernel_rfl, by kernel_rfl⟩

/-- What is left of the contract of voxelref30.Target. -/
def TgtRP (x0 : Int) (x1 : Int) (x2 : Int) (x3 : Int) (x4 : Int) (x5 : Int) (x6 : X) (x7 : X) (x8 : Int) (x9 : Int) (x10 : Int) (x11 : Int) : Prop :=
(((¬ ((((x0 ≤ x9) ∧ (x9 < x3)) ∧ ((x1 ≤ x10) ∧ (x10 < x4))) ∧ ((x2 ≤ x11) ∧ (x11 < x5)))) →
(((0 = (Ff 810 [xI x0, xI x1, xI x2, xI x3, xI x4, xI x5, x6, x7, xI x8, xI x9, xI x10, xI x11]).i ∧ -1048576 ≤ (Ff 810 [xI x0, xI x1, xI x2, xI x3, xI x4, xI x5, x6, x7, xI x8, xI x9, xI x10, xI x11]).i ∧ (Ff 810 [xI x0, xI x1, xI x2, xI x3, xI x4, xI x5, x6, x7, xI x8, xI x9, xI x10, xI x11]).i ≤ 1048576) ∧ ((0 = (Ff 811 [xI x0, xI x1, xI x2, xI x3, xI x4, xI x5, x6, x7, xI x8, xI x9, xI x10, xI x11]).i ∧ -1048576 ≤ (Ff 811 [xI x0, xI x1, xI x2, xI x3, xI x4, xI x5, x6, x7, xI x8, xI x9, xI x10, xI x11]).i ∧ (Ff 811 [xI x0, xI x1, xI x2, xI x3, xI x4, xI x5, x6, x7, xI x8, xI x9, xI x10, xI x11]).i ≤ 1048576) ∧ (0 = (Ff 812 [xI x0, xI x1, xI x2, xI x3, xI x4, xI x5, x6, x7, xI x8, xI x9, xI x10, xI x11]).i ∧ -1048576 ≤ (Ff 812 [xI x0, xI x1, xI x2, xI x3, xI x4, xI x5, x6, x7, xI x8, xI x9, xI x10, xI x11]).i ∧ (Ff 812 [xI x0, xI x1, xI x2, xI x3, xI x4, xI x5, x6, x7, xI x8, xI x9, xI x10, xI x11]).i ≤ 1048576))) ∧ (((false = true) ↔ (Ff 813 [xI x0, xI x1, xI x2, xI x3, xI x4, xI x5, x6, x7, xI x8, xI x9, xI x10, xI x11]).b = true) ∧ True))) ∧
(((((x0 ≤ x9) ∧ (x9 < x3)) ∧ ((x1 ≤ x10) ∧ (x10 < x4))) ∧ ((x2 ≤ x11) ∧ (x11 < x5))) →
(Px 710 [(xI x0), (xI x1), (xI x2), (xI x3), (xI x4), (xI x5), x6, (xI x9), (xI x10), (xI x11)] ∧
(let v4 : X := Ff 838 [(xI x0), (xI x1), (xI x2), (xI x3), (xI x4), (xI x5), x6, (xI x9), (xI x10), (xI x11)]; let v5 : X := Ff 833 [x7, (xI v4.i)]; (((v5.b = true) →
(Px 710 [(xI x0), (xI x1), (xI x2), (xI x3), (xI x4), (xI x5), x6, (xI x9), (xI x10), (xI (x11 - 1))] ∧
(let v9 : X := Ff 838 [(xI x0), (xI x1), (xI x2), (xI x3), (xI x4), (xI x5), x6, (xI x9), (xI x10), (xI (x11 - 1))]; let v10 : X := Ff 800 [x7, (xI v9.i)]; (((((((x0 ≤ x9) ∧ (x9 < x3)) ∧ ((x1 ≤ x10) ∧ (x10 < x4))) ∧ ((x2 ≤ (x11 - 1)) ∧ ((x11 - 1) < x5))) ∧ (¬ (v10.b = true))) →
(((x9 = (Ff 810 [xI x0, xI x1, xI x2, xI x3, xI x4, xI x5, x6, x7, xI x8, xI x9, xI x10, xI x11]).i ∧ -1048576 ≤ (Ff 810 [xI x0, xI x1, xI x2, xI x3, xI x4, xI x5, x6, x7, xI x8, xI x9, xI x10, xI x11]).i ∧ (Ff 810 [xI x0, xI x1, xI x2, xI x3, xI x4, xI x5, x6, x7, xI x8, xI x9, xI x10, xI x11]).i ≤ 1048576) ∧ ((x10 = (Ff 811 [xI x0, xI x1, xI x2, xI x3, xI x4, xI x5, x6, x7, xI x8, xI x9, xI x10, xI x11]).i ∧ -1048576 ≤ (Ff 811 [xI x0, xI x1, xI x2, xI x3, xI x4, xI x5, x6, x7, xI x8, xI x9, xI x10, xI x11]).i ∧ (Ff 811 [xI x0, xI x1, xI x2, xI x3, xI x4, xI x5, x6, x7, xI x8, xI x9, xI x10, xI x11]).i ≤ 1048576) ∧ ((x11 - 1) = (Ff 812 [xI x0, xI x1, xI x2, xI x3, xI x4, xI x5, x6, x7, xI x8, xI x9, xI x10, xI x11]).i ∧ -1048576 ≤ (Ff 812 [xI x0, xI x1, xI x2, xI x3, xI x4, xI x5, x6, x7, xI x8, xI x9, xI x10, xI x11]).i ∧ (Ff 812 [xI x0, xI x1, xI x2, xI x3, xI x4, xI x5, x6, x7, xI x8, xI x9, xI x10, xI x11]).i ≤ 1048576))) ∧ (((true = true) ↔ (Ff 813 [xI x0, xI x1, xI x2, xI x3, xI x4, xI x5, x6, x7, xI x8, xI x9, xI x10, xI x11]).b = true) ∧ True))) ∧
((¬ (((((x0 ≤ x9) ∧ (x9 < x3)) ∧ ((x1 ≤ x10) ∧ (x10 < x4))) ∧ ((x2 ≤ (x11 - 1)) ∧ ((x11 - 1) < x5))) ∧ (¬ (v10.b = true)))) →
(((0 = (Ff 810 [xI x0, xI x1, xI x2, xI x3, xI x4, xI x5, x6, x7, xI x8, xI x9, xI x10, xI x11]).i ∧ -1048576 ≤ (Ff 810 [xI x0, xI x1, xI x2, xI x3, xI x4, xI x5, x6, x7, xI x8, xI x9, xI x10, xI x11]).i ∧ (Ff 810 [xI x0, xI x1, xI x2, xI x3, xI x4, xI x5, x6, x7, xI x8, xI x9, xI x10, xI x11]).i ≤ 1048576) ∧ ((0 = (Ff 811 [xI x0, xI x1, xI x2, xI x3, xI x4, xI x5, x6, x7, xI x8, xI x9, xI x10, xI x11]).i ∧ -1048576 ≤ (Ff 811 [xI x0, xI x1, xI x2, xI x3, xI x4, xI x5, x6, x7, xI x8, xI x9, xI x10, xI x11]).i ∧ (Ff 811 [xI x0, xI x1, xI x2, xI x3, xI x4, xI x5, x6, x7, xI x8, xI x9, xI x10, xI x11]).i ≤ 1048576) ∧ (0 = (Ff 812 [xI x0, xI x1, xI x2, xI x3, xI x4, xI x5, x6, x7, xI x8, xI x9, xI x10, xI x11]).i ∧ -1048576 ≤ (Ff 812 [xI x0, xI x1, xI x2, xI x3, xI x4, xI x5, x6, x7, xI x8, xI x9, xI x10, xI x11]).i ∧ (Ff 812 [xI x0, xI x1, xI x2, xI x3, xI x4, xI x5, x6, x7, xI x8, xI x9, xI x10, xI x11]).i ≤ 1048576))) ∧ (((false = true) ↔ (Ff 813 [xI x0, xI x1, xI x2, xI x3, xI x4, xI x5, x6, x7, xI x8, xI x9, xI x10, xI x11]).b = true) ∧ True))))))) ∧
((¬ (v5.b = true)) →
(let v15 : X := Ff 832 [x7, (xI v4.i)]; (((¬ (v15.b = true)) →
(((0 = (Ff 810 [xI x0, xI x1, xI x2, xI x3, xI x4, xI x5, x6, x7, xI x8, xI x9, xI x10, xI x11]).i ∧ -1048576 ≤ (Ff 810 [xI x0, xI x1, xI x2, xI x3, xI x4, xI x5, x6, x7, xI x8, xI x9, xI x10, xI x11]).i ∧ (Ff 810 [xI x0, xI x1, xI x2, xI x3, xI x4, xI x5, x6, x7, xI x8, xI x9, xI x10, xI x11]).i ≤ 1048576) ∧ ((0 = (Ff 811 [xI x0, xI x1, xI x2, xI x3, xI x4, xI x5, x6, x7, xI x8, xI x9, xI x10, xI x11]).i ∧ -1048576 ≤ (Ff 811 [xI x0, xI x1, xI x2, xI x3, xI x4, xI x5, x6, x7, xI x8, xI x9, xI x10, xI x11]).i ∧ (Ff 811 [xI x0, xI x1, xI x2, xI x3, xI x4, xI x5, x6, x7, xI x8, xI x9, xI x10, xI x11]).i ≤ 1048576) ∧ (0 = (Ff 812 [xI x0, xI x1, xI x2, xI x3, xI x4, xI x5, x6, x7, xI x8, xI x9, xI x10, xI x11]).i ∧ -1048576 ≤ (Ff 812 [xI x0, xI x1, xI x2, xI x3, xI x4, xI x5, x6, x7, xI x8, xI x9, xI x10, xI x11]).i ∧ (Ff 812 [xI x0, xI x1, xI x2, xI x3, xI x4, xI x5, x6, x7, xI x8, xI x9, xI x10, xI x11]).i ≤ 1048576))) ∧ (((false = true) ↔ (Ff 813 [xI x0, xI x1, xI x2, xI x3, xI x4, xI x5, x6, x7, xI x8, xI x9, xI x10, xI x11]).b = true) ∧ True))) ∧
((v15.b = true) →
(Px 710 [(xI x0), (xI x1), (xI x2), (xI x3), (xI x4), (xI x5), x6, x7, (xI x9), (xI x10), (xI (x11 - 1))] ∧
(let v20 : X := Ff 804 [(xI x0), (xI x1), (xI x2), (xI x3), (xI x4), (xI x5), x6, x7, (xI x9), (xI x10), (xI (x11 - 1))]; (((v20.b = true) →
(((x9 = (Ff 810 [xI x0, xI x1, xI x2, xI x3, xI x4, xI x5, x6, x7, xI x8, xI x9, xI x10, xI x11]).i ∧ -1048576 ≤ (Ff 810 [xI x0, xI x1, xI x2, xI x3, xI x4, xI x5, x6, x7, xI x8, xI x9, xI x10, xI x11]).i ∧ (Ff 810 [xI x0, xI x1, xI x2, xI x3, xI x4, xI x5, x6, x7, xI x8, xI x9, xI x10, xI x11]).i ≤ 1048576) ∧ ((x10 = (Ff 811 [xI x0, xI x1, xI x2, xI x3, xI x4, xI x5, x6, x7, xI x8, xI x9, xI x10, xI x11]).i ∧ -1048576 ≤ (Ff 811 [xI x0, xI x1, xI x2, xI x3, xI x4, xI x5, x6, x7, xI x8, xI x9, xI x10, xI x11]).i ∧ (Ff 811 [xI x0, xI x1, xI x2, xI x3, xI x4, xI x5, x6, x7, xI x8, xI x9, xI x10, xI x11]).i ≤ 1048576) ∧ ((x11 - 1) = (Ff 812 [xI x0, xI x1, xI x2, xI x3, xI x4, xI x5, x6, x7, xI x8, xI x9, xI x10, xI x11]).i ∧ -1048576 ≤ (Ff 812 [xI x0, xI x1, xI x2, xI x3, xI x4, xI x5, x6, x7, xI x8, xI x9, xI x10, xI x11]).i ∧ (Ff 812 [xI x0, xI x1, xI x2, xI x3, xI x4, xI x5, x6, x7, xI x8, xI x9, xI x10, xI x11]).i ≤ 1048576))) ∧ (((true = true) ↔ (Ff 813 [xI x0, xI x1, xI x2, xI x3, xI x4, xI x5, x6, x7, xI x8, xI x9, xI x10, xI x11]).b = true) ∧ True))) ∧
((¬ (v20.b = true)) →
(Px 870 [(xI x0), (xI x1), (xI x2), (xI x3), (xI x4), (xI x5), x6, x7, (xI x8), (xI x9), (xI x10), (xI x11), (xI 0)] ∧
(∀ x20 : X, (((0 ≤ x20.i) ∧ (x20.i ≤ 4)) →
(Px 870 [(xI x0), (xI x1), (xI x2), (xI x3), (xI x4), (xI x5), x6, x7, (xI x8), (xI x9), (xI x10), (xI x11), x20] →
(((x20.i < 4) →
(Px 710 [(xI x0), (xI x1), (xI x2), (xI x3), (xI x4), (xI x5), x6, x7, (xI (bif (decide ((((((Int.tmod x8 4) + 4) % 4) + x20.i) % 4) = 0)) then (x9 + 1) else (bif (decide ((((((Int.tmod x8 4) + 4) % 4) + x20.i) % 4) = 1)) then x9 else (bif (decide ((((((Int.tmod x8 4) + 4) % 4) + x20.i) % 4) = 2)) then (x9 - 1) else x9)))), (xI (bif (decide ((((((Int.tmod x8 4) + 4) % 4) + x20.i) % 4) = 0)) then x10 else (bif (decide ((((((Int.tmod x8 4) + 4) % 4) + x20.i) % 4) = 1)) then (x10 + 1) else (bif (decide ((((((Int.tmod x8 4) + 4) % 4) + x20.i) % 4) = 2)) then x10 else (x10 - 1))))), (xI x11)] ∧
(Px 710 [(xI x0), (xI x1), (xI x2), (xI x3), (xI x4), (xI x5), x6, x7, (xI (bif (decide ((((((Int.tmod x8 4) + 4) % 4) + x20.i) % 4) = 0)) then (x9 + 1) else (bif (decide ((((((Int.tmod x8 4) + 4) % 4) + x20.i) % 4) = 1)) then x9 else (bif (decide ((((((Int.tmod x8 4) + 4) % 4) + x20.i) % 4) = 2)) then (x9 - 1) else x9)))), (xI (bif (decide ((((((Int.tmod x8 4) + 4) % 4) + x20.i) % 4) = 0)) then x10 else (bif (decide ((((((Int.tmod x8 4) + 4) % 4) + x20.i) % 4) = 1)) then (x10 + 1) else (bif (decide ((((((Int.tmod x8 4) + 4) % 4) + x20.i) % 4) = 2)) then x10 else (x10 - 1))))), (xI (x11 - 1))] ∧
(let v31 : X := Ff 804 [(xI x0), (xI x1), (xI x2), (xI x3), (xI x4), (xI x5), x6, x7, (xI (bif (decide ((((((Int.tmod x8 4) + 4) % 4) + x20.i) % 4) = 0)) then (x9 + 1) else (bif (decide ((((((Int.tmod x8 4) + 4) % 4) + x20.i) % 4) = 1)) then x9 else (bif (decide ((((((Int.tmod x8 4) + 4) % 4) + x20.i) % 4) = 2)) then (x9 - 1) else x9)))), (xI (bif (decide ((((((Int.tmod x8 4) + 4) % 4) + x20.i) % 4) = 0)) then x10 else (bif (decide ((((((Int.tmod x8 4) + 4) % 4) + x20.i) % 4) = 1)) then (x10 + 1) else (bif (decide ((((((Int.tmod x8 4) + 4) % 4) + x20.i) % 4) = 2)) then x10 else (x10 - 1))))), (xI x11)]; let v32 : X := Ff 804 [(xI x0), (xI x1), (xI x2), (xI x3), (xI x4), (xI x5), x6, x7, (xI (bif (decide ((((((Int.tmod x8 4) + 4) % 4) + x20.i) % 4) = 0)) then (x9 + 1) else (bif (decide ((((((Int.tmod x8 4) + 4) % 4) + x20.i) % 4) = 1)) then x9 else (bif (decide ((((((Int.tmod x8 4) + 4) % 4) + x20.i) % 4) = 2)) then (x9 - 1) else x9)))), (xI (bif (decide ((((((Int.tmod x8 4) + 4) % 4) + x20.i) % 4) = 0)) then x10 else (bif (decide ((((((Int.tmod x8 4) + 4) % 4) + x20.i) % 4) = 1)) then (x10 + 1) else (bif (decide ((((((Int.tmod x8 4) + 4) % 4) + x20.i) % 4) = 2)) then x10 else (x10 - 1))))), (xI (x11 - 1))]; ((((v31.b = true) ∧ (v32.b = true)) →
((((bif (decide ((((((Int.tmod x8 4) + 4) % 4) + x20.i) % 4) = 0)) then (x9 + 1) else (bif (decide ((((((Int.tmod x8 4) + 4) % 4) + x20.i) % 4) = 1)) then x9 else (bif (decide ((((((Int.tmod x8 4) + 4) % 4) + x20.i) % 4) = 2)) then (x9 - 1) else x9))) = (Ff 810 [xI x0, xI x1, xI x2, xI x3, xI x4, xI x5, x6, x7, xI x8, xI x9, xI x10, xI x11]).i ∧ -1048576 ≤ (Ff 810 [xI x0, xI x1, xI x2, xI x3, xI x4, xI x5, x6, x7, xI x8, xI x9, xI x10, xI x11]).i ∧ (Ff 810 [xI x0, xI x1, xI x2, xI x3, xI x4, xI x5, x6, x7, xI x8, xI x9, xI x10, xI x11]).i ≤ 1048576) ∧ (((bif (decide ((((((Int.tmod x8 4) + 4) % 4) + x20.i) % 4) = 0)) then x10 else (bif (decide ((((((Int.tmod x8 4) + 4) % 4) + x20.i) % 4) = 1)) then (x10 + 1) else (bif (decide ((((((Int.tmod x8 4) + 4) % 4) + x20.i) % 4) = 2)) then x10 else (x10 - 1)))) = (Ff 811 [xI x0, xI x1, xI x2, xI x3, xI x4, xI x5, x6, x7, xI x8, xI x9, xI x10, xI x11]).i ∧ -1048576 ≤ (Ff 811 [xI x0, xI x1, xI x2, xI x3, xI x4, xI x5, x6, x7, xI x8, xI x9, xI x10, xI x11]).i ∧ (Ff 811 [xI x0, xI x1, xI x2, xI x3, xI x4, xI x5, x6, x7, xI x8, xI x9, xI x10, xI x11]).i ≤ 1048576) ∧ ((x11 - 1) = (Ff 812 [xI x0, xI x1, xI x2, xI x3, xI x4, xI x5, x6, x7, xI x8, xI x9, xI x10, xI x11]).i ∧ -1048576 ≤ (Ff 812 [xI x0, xI x1, xI x2, xI x3, xI x4, xI x5, x6, x7, xI x8, xI x9, xI x10, xI x11]).i ∧ (Ff 812 [xI x0, xI x1, xI x2, xI x3, xI x4, xI x5, x6, x7, xI x8, xI x9, xI x10, xI x11]).i ≤ 1048576))) ∧ (((true = true) ↔ (Ff 813 [xI x0, xI x1, xI x2, xI x3, xI x4, xI x5, x6, x7, xI x8, xI x9, xI x10, xI x11]).b = true) ∧ True))) ∧
((¬ ((v31.b = true) ∧ (v32.b = true))) →
(Px 870 [(xI x0), (xI x1), (xI x2), (xI x3), (xI x4), (xI x5), x6, x7, (xI x8), (xI x9), (xI x10), (xI x11), (xI (x20.i + 1))] ∧
(let v37 : X := Ff 890 [(xI x0), (xI x1), (xI x2), (xI x3), (xI x4), (xI x5), x6, x7, (xI x8), (xI x9), (xI x10), (xI x11), (xI (x20.i + 1))]; let v38 : X := Ff 890 [(xI x0), (xI x1), (xI x2), (xI x3), (xI x4), (xI x5), x6, x7, (xI x8), (xI x9), (xI x10), (xI x11), x20]; ((v37.i < v38.i) ∧
(0 < v38.i)))))))))) ∧
((¬ (x20.i < 4)) →
(((0 = (Ff 810 [xI x0, xI x1, xI x2, xI x3, xI x4, xI x5, x6, x7, xI x8, xI x9, xI x10, xI x11]).i ∧ -1048576 ≤ (Ff 810 [xI x0, xI x1, xI x2, xI x3, xI x4, xI x5, x6, x7, xI x8, xI x9, xI x10, xI x11]).i ∧ (Ff 810 [xI x0, xI x1, xI x2, xI x3, xI x4, xI x5, x6, x7, xI x8, xI x9, xI x10, xI x11]).i ≤ 1048576) ∧ ((0 = (Ff 811 [xI x0, xI x1, xI x2, xI x3, xI x4, xI x5, x6, x7, xI x8, xI x9, xI x10, xI x11]).i ∧ -1048576 ≤ (Ff 811 [xI x0, xI x1, xI x2, xI x3, xI x4, xI x5, x6, x7, xI x8, xI x9, xI x10, xI x11]).i ∧ (Ff 811 [xI x0, xI x1, xI x2, xI x3, xI x4, xI x5, x6, x7, xI x8, xI x9, xI x10, xI x11]).i ≤ 1048576) ∧ (0 = (Ff 812 [xI x0, xI x1, xI x2, xI x3, xI x4, xI x5, x6, x7, xI x8, xI x9, xI x10, xI x11]).i ∧ -1048576 ≤ (Ff 812 [xI x0, xI x1, xI x2, xI x3, xI x4, xI x5, x6, x7, xI x8, xI x9, xI x10, xI x11]).i ∧ (Ff 812 [xI x0, xI x1, xI x2, xI x3, xI x4, xI x5, x6, x7, xI x8, xI x9, xI x10, xI x11]).i ≤ 1048576))) ∧ (((false = true) ↔ (Ff 813 [xI x0, xI x1, xI x2, xI x3, xI x4, xI x5, x6, x7, xI x8, xI x9, xI x10, xI x11]).b = true) ∧ True)))))))))))))))))))))
theorem TgtRL (x0 : Int) (x1 : Int) (x2 : Int) (x3 : Int) (x4 : Int) (x5 : Int) (x6 : X) (x7 : X) (x8 : Int) (x9 : Int) (x10 : Int) (x11 : Int) : (ctrR (fun j => Ff j [xI x0, xI x1, xI x2, xI x3, xI x4, xI x5, x6, x7, xI x8, xI x9, xI x10, xI x11]) cTgtR.fs cTgtR.res { ρ0 with x := fun j => [xI x0, xI x1, xI x2, xI x3, xI x4, xI x5, x6, x7, xI x8, xI x9, xI x10, xI x11].getD j (xI 0) } (walkR Tryd.prog (cfG none [] [cMSR, cGetR, cMAt, cFreG] lpTgtR sumL) Tryd.f14 600 shTgt)) = TgtRP x0 x1 x2 x3 x4 x5 x6 x7 x8 x9 x10 x11 := by kernel_rfl
set_option maxHeartbeats 4000000 in
theorem TgtRO (x0 : Int) (x1 : Int) (x2 : Int) (x3 : Int) (x4 : Int) (x5 : Int) (x6 : X) (x7 : X) (x8 : Int) (x9 : Int) (x10 : Int) (x11 : Int) (g0 : -1048575 ≤ x0 ∧ x0 ≤ 1048575) (g1 : -1048575 ≤ x1 ∧ x1 ≤ 1048575) (g2 : -1048575 ≤ x2 ∧ x2 ≤ 1048575) (g3 : -1048575 ≤ x3 ∧ x3 ≤ 1048575) (g4 : -1048575 ≤ x4 ∧ x4 ≤ 1048575) (g5 : -1048575 ≤ x5 ∧ x5 ≤ 1048575) (g6 : 0 ≤ x6.i ∧ x6.i ≤ 2097152 ∧ RowOk [.int .i64 (0) (255)] x6.r x6.i.toNat) (g7 : 0 ≤ x7.i ∧ x7.i ≤ 9223372036854775807 ∧ RowOk SMt x7.r x7.i.toNat) (g8 : -9223372036854775808 ≤ x8 ∧ x8 ≤ 9223372036854775807) (g9 : -9223372036854775808 ≤ x9 ∧ x9 ≤ 9223372036854775807) (g10 : -9223372036854775808 ≤ x10 ∧ x10 ≤ 9223372036854775807) (g11 : -9223372036854775808 ≤ x11 ∧ x11 ≤ 9223372036854775807) (gp : Px cTgtR.pre.get! [xI x0, xI x1, xI x2, xI x3, xI x4, xI x5, x6, x7, xI x8, xI x9, xI x10, xI x11]) : TgtRP x0 x1 x2 x3 x4 x5 x6 x7 x8 x9 x10 x11 := by
  unfold TgtRP
  obtain ⟨k0, k1, k2, k3, k4⟩ := (v700 g6.1).1 gp
  have hV : (bxI x0 x1 x2 x3 x4 x5).vol = x6.i := k3
  have hd : (bxI x0 x1 x2 x3 x4 x5).has (x9, x10, x11) = true ↔ (x0 ≤ x9 ∧ x9 < x3) ∧ (x1 ≤ x10 ∧ x10 < x4) ∧ (x2 ≤ x11 ∧ x11 < x5) := has_def
  refine And.intro ?_ ?_
  · intro h1
    exact tlN (tgt_out fun h => h1 (by have h := hd.1 h; omega)) -- #0
  intro h2
  have hh := hd.2 (by omega)
  have hd2 : (bxI x0 x1 x2 x3 x4 x5).has (x9, x10, x11 - 1) = true ↔ (x0 ≤ x9 ∧ x9 < x3) ∧ (x1 ≤ x10 ∧ x10 < x4) ∧ (x2 ≤ x11 - 1 ∧ x11 - 1 < x5) := has_def
  refine andI ?_ fun o3 => ?_
  · exact gp -- #1
  intro v4
  intro v5
  refine And.intro ?_ ?_
  · intro h7
    refine andI ?_ fun o8 => ?_
    · exact gp -- #2
    intro v9
    intro v10
    refine And.intro ?_ ?_
    · intro h12
      skip -- #3
      refine tlS ((tgt_fall hh h7).trans (if_pos ?_)) (by omega) (by omega) (by omega)
      show ((bxI x0 x1 x2 x3 x4 x5).has (x9, x10, x11 - 1) && !solX x7 (getL (bxI x0 x1 x2 x3 x4 x5) (lstX deI x6) (x9, x10, x11 - 1))) = true
      rw [Bool.and_eq_true, Bool.not_eq_true', hd2]
      exact ⟨by omega, Bool.eq_false_iff.2 h12.2⟩
    intro h13
    skip -- #4
    refine tlN ((tgt_fall hh h7).trans (if_neg fun hc => h13 ?_))
    have hc : ((bxI x0 x1 x2 x3 x4 x5).has (x9, x10, x11 - 1) && !solX x7 (getL (bxI x0 x1 x2 x3 x4 x5) (lstX deI x6) (x9, x10, x11 - 1))) = true := hc
    rw [Bool.and_eq_true, Bool.not_eq_true', hd2] at hc
    exact ⟨by omega, Bool.eq_false_iff.1 hc.2⟩
  intro h14
  intro v15
  refine And.intro ?_ ?_
  · intro h17
    exact tlN (tgt_stay hh h14 h17) -- #5
  intro h18
  refine andI ?_ fun o19 => ?_
  · exact gp -- #6
  intro v20
  refine And.intro ?_ ?_
  · intro h22
    exact tlS ((tgt_liq hh h14 h18).trans (if_pos h22)) (by omega) (by omega) (by omega) -- #7
  intro h23
  refine andI ?_ fun o24 => ?_
  · exact q870_0 -- #8
  intro x20
  intro h25
  intro p26
  refine And.intro ?_ ?_
  · intro h28
    have hm : (x8 + x20.i) % 4 = (((Int.tmod x8 4) + 4) % 4 + x20.i) % 4 := tmod_k.symm
    have hdr := dir_rng (d := (((Int.tmod x8 4) + 4) % 4 + x20.i) % 4) (x := x9) (y := x10) (z := x11) (by omega) (by omega) (by omega)
    refine andI ?_ fun o29 => ?_
    · exact gp -- #9
    refine andI ?_ fun o30 => ?_
    · exact gp -- #10
    intro v31
    intro v32
    have hfl : (v31.b && v32.b) = floB (bxI x0 x1 x2 x3 x4 x5) (lstX deI x6) x7 (x9, x10, x11) ((((Int.tmod x8 4) + 4) % 4 + x20.i) % 4) := by
      unfold floB
      have e1 : dirP (x9, x10, x11) ((((Int.tmod x8 4) + 4) % 4 + x20.i) % 4) = (_, _, x11) := Prod.ext dir_x.symm (Prod.ext dir_y.symm dir_z.symm)
      rw [e1]
      rfl
    refine And.intro ?_ ?_
    · intro h34
      skip -- #11
      have e1 : dirP (x9, x10, x11) ((((Int.tmod x8 4) + 4) % 4 + x20.i) % 4) = (_, _, x11) := Prod.ext dir_x.symm (Prod.ext dir_y.symm dir_z.symm)
      have e2 : tgtB (bxI x0 x1 x2 x3 x4 x5) (lstX deI x6) x7 x8 (x9, x10, x11) = some (dnP (dirP (x9, x10, x11) ((((Int.tmod x8 4) + 4) % 4 + x20.i) % 4))) := ((tgt_liq hh h14 h18).trans (if_neg h23)).trans (q870_e p26 h28 hm (hfl.symm.trans (Bool.and_eq_true_iff.2 h34)))
      rw [← dir_x, ← dir_y] at hdr
      rw [e1] at e2
      exact tlS e2 hdr.1 hdr.2 (by omega)
    intro h35
    refine andI ?_ fun o36 => ?_
    · exact q870_s p26 h28 hm fun hc => h35 (Bool.and_eq_true_iff.1 (hfl.trans hc)) -- #12
    intro v37
    intro v38
    refine andI ?_ fun o39 => ?_
    · skip -- #13
      show 4 - (x20.i + 1) < 4 - x20.i
      omega
    skip -- #14
    show 0 < 4 - x20.i
    omega
  intro h40
  exact tlN (((tgt_liq hh h14 h18).trans (if_neg h23)).trans (q870_n p26 h40)) -- #15
theorem kTgtR : RCtrOk Tryd.prog ρ0 cTgtR := by
  refine rctr_ofN (cf := cfG none [] [cMSR, cGetR, cMAt, cFreG] lpTgtR sumL) (cfG_ok keep0 ((((keepR0.cons kFreG nFreG).cons kMAt nMAt).cons kGetR nGetR).cons kMSR nMSR) noF) Tryd.func14 rfl 600 rfl (sh := shTgt) (by kernel_rfl) val_rsh fun ds hr hp => ?_
  have hr := rshX_flat hr
  match ds, hr, hp with
  | [d0, d1, d2, d3, d4, d5, d6, d7, d8, d9, d10, d11], hr, hp =>
    obtain ⟨⟨e0, l0, u0⟩, ⟨e1, l1, u1⟩, ⟨e2, l2, u2⟩, ⟨e3, l3, u3⟩, ⟨e4, l4, u4⟩, ⟨e5, l5, u5⟩, l6, l7, ⟨e8, l8, u8⟩, ⟨e9, l9, u9⟩, ⟨e10, l10, u10⟩, ⟨e11, l11, u11⟩, _⟩ := hr
    generalize d0.i = x0 at *
    generalize d1.i = x1 at *
    generalize d2.i = x2 at *
    generalize d3.i = x3 at *
    generalize d4.i = x4 at *
    generalize d5.i = x5 at *
    generalize d6 = x6 at *
    generalize d7 = x7 at *
    generalize d8.i = x8 at *
    generalize d9.i = x9 at *
    generalize d10.i = x10 at *
    generalize d11.i = x11 at *
    subst e0 e1 e2 e3 e4 e5 e8 e9 e10 e11
    exact Eq.mpr (TgtRL x0 x1 x2 x3 x4 x5 x6 x7 x8 x9 x10 x11) (TgtRO x0 x1 x2 x3 x4 x5 x6 x7 x8 x9 x10 x11 ⟨l0, u0⟩ ⟨l1, u1⟩ ⟨l2, u2⟩ ⟨l3, u3⟩ ⟨l4, u4⟩ ⟨l5, u5⟩ l6 l7 ⟨l8, u8⟩ ⟨l9, u9⟩ ⟨l10, u10⟩ ⟨l11, u11⟩ hp)
theorem nTgtR : ∃ fn, Tryd.prog.funcs[cTgtR.f]? = some fn ∧ fn.body.isSome = true ∧ (fn.name == "runtime.NumGoroutine") = false := ⟨_, Tryd.func14, by kernel_rfl, by kernel_rfl⟩
end Vc
end Go.Proofs.YtgbaelpcbhgdjaaDoor
