/- Contracts of functions, each out of one walk. -/
import Derived.Test.YtaacclebncplbaaGreatDoorC04C
import Derived.Test.YtaacclebncplbaaGreatDoorC04D
namespace Go.Proofs.YtaacclebncplbaaGreatDoor
namespace Vc
open Go Go.RowKit
set_option linter.unusedVariables false
def VolP (x0 x1 x2 x3 x4 x5 : Int) : Prop :=
 ((((Ff 205 [xI x0, xI x1, xI x2, xI x3, xI x4, xI x5]).i * (Ff 206 [xI x0, xI x1, xI x2, xI x3, xI x4, xI x5]).i) * (Ff 207 [xI x0, xI x1, xI x2, xI x3, xI x4, xI x5]).i) = (Ff 210 [xI x0, xI x1, xI x2, xI x3, xI x4, xI x5]).i ∧ 0 ≤ (Ff 210 [xI x0, xI x1, xI x2, xI x3, xI x4, xI x5]).i ∧ (Ff 210 [xI x0, xI x1, xI x2, xI x3, xI x4, xI x5]).i ≤ 9223345648600875000)
theorem VolL (x0 x1 x2 x3 x4 x5 : Int) : ((walkF Tryz.prog (cf0 [cSize]) Tryz.f81 3000 (shS cVol.args 0)).ctr { ρ0 with x := fun j => [xI x0, xI x1, xI x2, xI x3, xI x4, xI x5].getD j (xI 0) } (fun j => Ff j [xI x0, xI x1, xI x2, xI x3, xI x4, xI x5]) cVol.fs cVol.res) = VolP x0 x1 x2 x3 x4 x5 := by kernel_rfl
set_option maxHeartbeats 1000000 in
theorem VolO (x0 x1 x2 x3 x4 x5 : Int) (h0 : -1048575 ≤ x0 ∧ x0 ≤ 1048575) (h1 : -1048575 ≤ x1 ∧ x1 ≤ 1048575) (h2 : -1048575 ≤ x2 ∧ x2 ≤ 1048575) (h3 : -1048575 ≤ x3 ∧ x3 ≤ 1048575) (h4 : -1048575 ≤ x4 ∧ x4 ≤ 1048575) (h5 : -1048575 ≤ x5 ∧ x5 ≤ 1048575) : VolP x0 x1 x2 x3 x4 x5 := by
 unfold VolP
 simp only [F205, F206, F207, F210, xI_i]
 try simp only [Int.add_zero]
 have hv := vol_rng h0 h1 h2 h3 h4 h5
 refine ⟨?_, hv⟩
 exact vol_szB x0 x1 x2 x3 x4 x5
theorem kVol : CtrOk Tryz.prog ρ0 cVol := by
 refine ctr_of (cf := cf0 [cSize]) (cf0_ok (keep0.cons kSize nSize)) Tryz.func81 rfl 3000 fun ds hr => ?_
 match ds, hr with
 | [d0, d1, d2, d3, d4, d5], hr =>
  obtain ⟨⟨⟨e0, l0, u0⟩, ⟨e1, l1, u1⟩, ⟨e2, l2, u2⟩, ⟨e3, l3, u3⟩, ⟨e4, l4, u4⟩, ⟨e5, l5, u5⟩, _⟩, _⟩ := hr
  generalize d0.i = x0, d1.i = x1, d2.i = x2, d3.i = x3, d4.i = x4, d5.i = x5 at *
  subst e0 e1 e2 e3 e4 e5
  exact Eq.mpr (VolL x0 x1 x2 x3 x4 x5) (VolO x0 x1 x2 x3 x4 x5 ⟨l0, u0⟩ ⟨l1, u1⟩ ⟨l2, u2⟩ ⟨l3, u3⟩ ⟨l4, u4⟩ ⟨l5, u5⟩)
theorem nVol : Hs cVol.f := ⟨_, Tryz.func81, by kernel_rfl, by kernel_rfl⟩
def VolRP (x0 x1 x2 x3 x4 x5 : Int) : Prop :=
 ((((Ff 205 [xI x0, xI x1, xI x2, xI x3, xI x4, xI x5]).i * (Ff 206 [xI x0, xI x1, xI x2, xI x3, xI x4, xI x5]).i) * (Ff 207 [xI x0, xI x1, xI x2, xI x3, xI x4, xI x5]).i) = (Ff 210 [xI x0, xI x1, xI x2, xI x3, xI x4, xI x5]).i ∧ 0 ≤ (Ff 210 [xI x0, xI x1, xI x2, xI x3, xI x4, xI x5]).i ∧ (Ff 210 [xI x0, xI x1, xI x2, xI x3, xI x4, xI x5]).i ≤ 9223345648600875000)
theorem VolRL (x0 x1 x2 x3 x4 x5 : Int) : ((walkF Tryz.prog (cf0 [cSizeR]) Tryz.f38 3000 (shS cVolR.args 0)).ctr { ρ0 with x := fun j => [xI x0, xI x1, xI x2, xI x3, xI x4, xI x5].getD j (xI 0) } (fun j => Ff j [xI x0, xI x1, xI x2, xI x3, xI x4, xI x5]) cVolR.fs cVolR.res) = VolRP x0 x1 x2 x3 x4 x5 := by kernel_rfl
set_option maxHeartbeats 1000000 in
theorem VolRO (x0 x1 x2 x3 x4 x5 : Int) (h0 : -1048575 ≤ x0 ∧ x0 ≤ 1048575) (h1 : -1048575 ≤ x1 ∧ x1 ≤ 1048575) (h2 : -1048575 ≤ x2 ∧ x2 ≤ 1048575) (h3 : -1048575 ≤ x3 ∧ x3 ≤ 1048575) (h4 : -1048575 ≤ x4 ∧ x4 ≤ 1048575) (h5 : -1048575 ≤ x5 ∧ x5 ≤ 1048575) : VolRP x0 x1 x2 x3 x4 x5 := by
 unfold VolRP
 simp only [F205, F206, F207, F210, xI_i]
 try simp only [Int.add_zero]
 have hv := vol_rng h0 h1 h2 h3 h4 h5
 refine ⟨?_, hv⟩
 exact vol_szB x0 x1 x2 x3 x4 x5
theorem kVolR : CtrOk Tryz.prog ρ0 cVolR := by
 refine ctr_of (cf := cf0 [cSizeR]) (cf0_ok (keep0.cons kSizeR nSizeR)) Tryz.func38 rfl 3000 fun ds hr => ?_
 match ds, hr with
 | [d0, d1, d2, d3, d4, d5], hr =>
  obtain ⟨⟨⟨e0, l0, u0⟩, ⟨e1, l1, u1⟩, ⟨e2, l2, u2⟩, ⟨e3, l3, u3⟩, ⟨e4, l4, u4⟩, ⟨e5, l5, u5⟩, _⟩, _⟩ := hr
  generalize d0.i = x0, d1.i = x1, d2.i = x2, d3.i = x3, d4.i = x4, d5.i = x5 at *
  subst e0 e1 e2 e3 e4 e5
  exact Eq.mpr (VolRL x0 x1 x2 x3 x4 x5) (VolRO x0 x1 x2 x3 x4 x5 ⟨l0, u0⟩ ⟨l1, u1⟩ ⟨l2, u2⟩ ⟨l3, u3⟩ ⟨l4, u4⟩ ⟨l5, u5⟩)
theorem nVolR : Hs cVolR.f := ⟨_, Tryz.func38, by kernel_rfl, by kernel_rfl⟩
def HullRP (x0 x1 x2 x3 x4 x5 x6 x7 x8 x9 x10 x11 : Int) : Prop :=
 (
  ((((Ff 200 [xI x0, xI x1, xI x2, xI x3, xI x4, xI x5]).b = true) ∧ ((Ff 200 [xI x6, xI x7, xI x8, xI x9, xI x10, xI x11]).b = true)) →
   ((0 = (Ff 230 [xI x0, xI x1, xI x2, xI x3, xI x4, xI x5, xI x6, xI x7, xI x8, xI x9, xI x10, xI x11]).i ∧ -1048575 ≤ (Ff 230 [xI x0, xI x1, xI x2, xI x3, xI x4, xI x5, xI x6, xI x7, xI x8, xI x9, xI x10, xI x11]).i ∧ (Ff 230 [xI x0, xI x1, xI x2, xI x3, xI x4, xI x5, xI x6, xI x7, xI x8, xI x9, xI x10, xI x11]).i ≤ 1048575) ∧ ((0 = (Ff 231 [xI x0, xI x1, xI x2, xI x3, xI x4, xI x5, xI x6, xI x7, xI x8, xI x9, xI x10, xI x11]).i ∧ -1048575 ≤ (Ff 231 [xI x0, xI x1, xI x2, xI x3, xI x4, xI x5, xI x6, xI x7, xI x8, xI x9, xI x10, xI x11]).i ∧ (Ff 231 [xI x0, xI x1, xI x2, xI x3, xI x4, xI x5, xI x6, xI x7, xI x8, xI x9, xI x10, xI x11]).i ≤ 1048575) ∧ ((0 = (Ff 232 [xI x0, xI x1, xI x2, xI x3, xI x4, xI x5, xI x6, xI x7, xI x8, xI x9, xI x10, xI x11]).i ∧ -1048575 ≤ (Ff 232 [xI x0, xI x1, xI x2, xI x3, xI x4, xI x5, xI x6, xI x7, xI x8, xI x9, xI x10, xI x11]).i ∧ (Ff 232 [xI x0, xI x1, xI x2, xI x3, xI x4, xI x5, xI x6, xI x7, xI x8, xI x9, xI x10, xI x11]).i ≤ 1048575) ∧ ((0 = (Ff 233 [xI x0, xI x1, xI x2, xI x3, xI x4, xI x5, xI x6, xI x7, xI x8, xI x9, xI x10, xI x11]).i ∧ -1048575 ≤ (Ff 233 [xI x0, xI x1, xI x2, xI x3, xI x4, xI x5, xI x6, xI x7, xI x8, xI x9, xI x10, xI x11]).i ∧ (Ff 233 [xI x0, xI x1, xI x2, xI x3, xI x4, xI x5, xI x6, xI x7, xI x8, xI x9, xI x10, xI x11]).i ≤ 1048575) ∧ ((0 = (Ff 234 [xI x0, xI x1, xI x2, xI x3, xI x4, xI x5, xI x6, xI x7, xI x8, xI x9, xI x10, xI x11]).i ∧ -1048575 ≤ (Ff 234 [xI x0, xI x1, xI x2, xI x3, xI x4, xI x5, xI x6, xI x7, xI x8, xI x9, xI x10, xI x11]).i ∧ (Ff 234 [xI x0, xI x1, xI x2, xI x3, xI x4, xI x5, xI x6, xI x7, xI x8, xI x9, xI x10, xI x11]).i ≤ 1048575) ∧ (0 = (Ff 235 [xI x0, xI x1, xI x2, xI x3, xI x4, xI x5, xI x6, xI x7, xI x8, xI x9, xI x10, xI x11]).i ∧ -1048575 ≤ (Ff 235 [xI x0, xI x1, xI x2, xI x3, xI x4, xI x5, xI x6, xI x7, xI x8, xI x9, xI x10, xI x11]).i ∧ (Ff 235 [xI x0, xI x1, xI x2, xI x3, xI x4, xI x5, xI x6, xI x7, xI x8, xI x9, xI x10, xI x11]).i ≤ 1048575)))))))
 ∧
  ((¬ (((Ff 200 [xI x0, xI x1, xI x2, xI x3, xI x4, xI x5]).b = true) ∧ ((Ff 200 [xI x6, xI x7, xI x8, xI x9, xI x10, xI x11]).b = true))) →
   (
    (((Ff 200 [xI x0, xI x1, xI x2, xI x3, xI x4, xI x5]).b = true) →
     ((x6 = (Ff 230 [xI x0, xI x1, xI x2, xI x3, xI x4, xI x5, xI x6, xI x7, xI x8, xI x9, xI x10, xI x11]).i ∧ -1048575 ≤ (Ff 230 [xI x0, xI x1, xI x2, xI x3, xI x4, xI x5, xI x6, xI x7, xI x8, xI x9, xI x10, xI x11]).i ∧ (Ff 230 [xI x0, xI x1, xI x2, xI x3, xI x4, xI x5, xI x6, xI x7, xI x8, xI x9, xI x10, xI x11]).i ≤ 1048575) ∧ ((x7 = (Ff 231 [xI x0, xI x1, xI x2, xI x3, xI x4, xI x5, xI x6, xI x7, xI x8, xI x9, xI x10, xI x11]).i ∧ -1048575 ≤ (Ff 231 [xI x0, xI x1, xI x2, xI x3, xI x4, xI x5, xI x6, xI x7, xI x8, xI x9, xI x10, xI x11]).i ∧ (Ff 231 [xI x0, xI x1, xI x2, xI x3, xI x4, xI x5, xI x6, xI x7, xI x8, xI x9, xI x10, xI x11]).i ≤ 1048575) ∧ ((x8 = (Ff 232 [xI x0, xI x1, xI x2, xI x3, xI x4, xI x5, xI x6, xI x7, xI x8, xI x9, xI x10, xI x11]).i ∧ -1048575 ≤ (Ff 232 [xI x0, xI x1, xI x2, xI x3, xI x4, xI x5, xI x6, xI x7, xI x8, xI x9, xI x10, xI x11]).i ∧ (Ff 232 [xI x0, xI x1, xI x2, xI x3, xI x4, xI x5, xI x6, xI x7, xI x8, xI x9, xI x10, xI x11]).i ≤ 1048575) ∧ ((x9 = (Ff 233 [xI x0, xI x1, xI x2, xI x3, xI x4, xI x5, xI x6, xI x7, xI x8, xI x9, xI x10, xI x11]).i ∧ -1048575 ≤ (Ff 233 [xI x0, xI x1, xI x2, xI x3, xI x4, xI x5, xI x6, xI x7, xI x8, xI x9, xI x10, xI x11]).i ∧ (Ff 233 [xI x0, xI x1, xI x2, xI x3, xI x4, xI x5, xI x6, xI x7, xI x8, xI x9, xI x10, xI x11]).i ≤ 1048575) ∧ ((x10 = (Ff 234 [xI x0, xI x1, xI x2, xI x3, xI x4, xI x5, xI x6, xI x7, xI x8, xI x9, xI x10, xI x11]).i ∧ -1048575 ≤ (Ff 234 [xI x0, xI x1, xI x2, xI x3, xI x4, xI x5, xI x6, xI x7, xI x8, xI x9, xI x10, xI x11]).i ∧ (Ff 234 [xI x0, xI x1, xI x2, xI x3, xI x4, xI x5, xI x6, xI x7, xI x8, xI x9, xI x10, xI x11]).i ≤ 1048575) ∧ (x11 = (Ff 235 [xI x0, xI x1, xI x2, xI x3, xI x4, xI x5, xI x6, xI x7, xI x8, xI x9, xI x10, xI x11]).i ∧ -1048575 ≤ (Ff 235 [xI x0, xI x1, xI x2, xI x3, xI x4, xI x5, xI x6, xI x7, xI x8, xI x9, xI x10, xI x11]).i ∧ (Ff 235 [xI x0, xI x1, xI x2, xI x3, xI x4, xI x5, xI x6, xI x7, xI x8, xI x9, xI x10, xI x11]).i ≤ 1048575)))))))
   ∧
    ((¬ ((Ff 200 [xI x0, xI x1, xI x2, xI x3, xI x4, xI x5]).b = true)) →
     (
      (((Ff 200 [xI x6, xI x7, xI x8, xI x9, xI x10, xI x11]).b = true) →
       ((x0 = (Ff 230 [xI x0, xI x1, xI x2, xI x3, xI x4, xI x5, xI x6, xI x7, xI x8, xI x9, xI x10, xI x11]).i ∧ -1048575 ≤ (Ff 230 [xI x0, xI x1, xI x2, xI x3, xI x4, xI x5, xI x6, xI x7, xI x8, xI x9, xI x10, xI x11]).i ∧ (Ff 230 [xI x0, xI x1, xI x2, xI x3, xI x4, xI x5, xI x6, xI x7, xI x8, xI x9, xI x10, xI x11]).i ≤ 1048575) ∧ ((x1 = (Ff 231 [xI x0, xI x1, xI x2, xI x3, xI x4, xI x5, xI x6, xI x7, xI x8, xI x9, xI x10, xI x11]).i ∧ -1048575 ≤ (Ff 231 [xI x0, xI x1, xI x2, xI x3, xI x4, xI x5, xI x6, xI x7, xI x8, xI x9, xI x10, xI x11]).i ∧ (Ff 231 [xI x0, xI x1, xI x2, xI x3, xI x4, xI x5, xI x6, xI x7, xI x8, xI x9, xI x10, xI x11]).i ≤ 1048575) ∧ ((x2 = (Ff 232 [xI x0, xI x1, xI x2, xI x3, xI x4, xI x5, xI x6, xI x7, xI x8, xI x9, xI x10, xI x11]).i ∧ -1048575 ≤ (Ff 232 [xI x0, xI x1, xI x2, xI x3, xI x4, xI x5, xI x6, xI x7, xI x8, xI x9, xI x10, xI x11]).i ∧ (Ff 232 [xI x0, xI x1, xI x2, xI x3, xI x4, xI x5, xI x6, xI x7, xI x8, xI x9, xI x10, xI x11]).i ≤ 1048575) ∧ ((x3 = (Ff 233 [xI x0, xI x1, xI x2, xI x3, xI x4, xI x5, xI x6, xI x7, xI x8, xI x9, xI x10, xI x11]).i ∧ -1048575 ≤ (Ff 233 [xI x0, xI x1, xI x2, xI x3, xI x4, xI x5, xI x6, xI x7, xI x8, xI x9, xI x10, xI x11]).i ∧ (Ff 233 [xI x0, xI x1, xI x2, xI x3, xI x4, xI x5, xI x6, xI x7, xI x8, xI x9, xI x10, xI x11]).i ≤ 1048575) ∧ ((x4 = (Ff 234 [xI x0, xI x1, xI x2, xI x3, xI x4, xI x5, xI x6, xI x7, xI x8, xI x9, xI x10, xI x11]).i ∧ -1048575 ≤ (Ff 234 [xI x0, xI x1, xI x2, xI x3, xI x4, xI x5, xI x6, xI x7, xI x8, xI x9, xI x10, xI x11]).i ∧ (Ff 234 [xI x0, xI x1, xI x2, xI x3, xI x4, xI x5, xI x6, xI x7, xI x8, xI x9, xI x10, xI x11]).i ≤ 1048575) ∧ (x5 = (Ff 235 [xI x0, xI x1, xI x2, xI x3, xI x4, xI x5, xI x6, xI x7, xI x8, xI x9, xI x10, xI x11]).i ∧ -1048575 ≤ (Ff 235 [xI x0, xI x1, xI x2, xI x3, xI x4, xI x5, xI x6, xI x7, xI x8, xI x9, xI x10, xI x11]).i ∧ (Ff 235 [xI x0, xI x1, xI x2, xI x3, xI x4, xI x5, xI x6, xI x7, xI x8, xI x9, xI x10, xI x11]).i ≤ 1048575)))))))
     ∧
      ((¬ ((Ff 200 [xI x6, xI x7, xI x8, xI x9, xI x10, xI x11]).b = true)) →
       (((min x0 x6) = (Ff 230 [xI x0, xI x1, xI x2, xI x3, xI x4, xI x5, xI x6, xI x7, xI x8, xI x9, xI x10, xI x11]).i ∧ -1048575 ≤ (Ff 230 [xI x0, xI x1, xI x2, xI x3, xI x4, xI x5, xI x6, xI x7, xI x8, xI x9, xI x10, xI x11]).i ∧ (Ff 230 [xI x0, xI x1, xI x2, xI x3, xI x4, xI x5, xI x6, xI x7, xI x8, xI x9, xI x10, xI x11]).i ≤ 1048575) ∧ (((min x1 x7) = (Ff 231 [xI x0, xI x1, xI x2, xI x3, xI x4, xI x5, xI x6, xI x7, xI x8, xI x9, xI x10, xI x11]).i ∧ -1048575 ≤ (Ff 231 [xI x0, xI x1, xI x2, xI x3, xI x4, xI x5, xI x6, xI x7, xI x8, xI x9, xI x10, xI x11]).i ∧ (Ff 231 [xI x0, xI x1, xI x2, xI x3, xI x4, xI x5, xI x6, xI x7, xI x8, xI x9, xI x10, xI x11]).i ≤ 1048575) ∧ (((min x2 x8) = (Ff 232 [xI x0, xI x1, xI x2, xI x3, xI x4, xI x5, xI x6, xI x7, xI x8, xI x9, xI x10, xI x11]).i ∧ -1048575 ≤ (Ff 232 [xI x0, xI x1, xI x2, xI x3, xI x4, xI x5, xI x6, xI x7, xI x8, xI x9, xI x10, xI x11]).i ∧ (Ff 232 [xI x0, xI x1, xI x2, xI x3, xI x4, xI x5, xI x6, xI x7, xI x8, xI x9, xI x10, xI x11]).i ≤ 1048575) ∧ (((max x3 x9) = (Ff 233 [xI x0, xI x1, xI x2, xI x3, xI x4, xI x5, xI x6, xI x7, xI x8, xI x9, xI x10, xI x11]).i ∧ -1048575 ≤ (Ff 233 [xI x0, xI x1, xI x2, xI x3, xI x4, xI x5, xI x6, xI x7, xI x8, xI x9, xI x10, xI x11]).i ∧ (Ff 233 [xI x0, xI x1, xI x2, xI x3, xI x4, xI x5, xI x6, xI x7, xI x8, xI x9, xI x10, xI x11]).i ≤ 1048575) ∧ (((max x4 x10) = (Ff 234 [xI x0, xI x1, xI x2, xI x3, xI x4, xI x5, xI x6, xI x7, xI x8, xI x9, xI x10, xI x11]).i ∧ -1048575 ≤ (Ff 234 [xI x0, xI x1, xI x2, xI x3, xI x4, xI x5, xI x6, xI x7, xI x8, xI x9, xI x10, xI x11]).i ∧ (Ff 234 [xI x0, xI x1, xI x2, xI x3, xI x4, xI x5, xI x6, xI x7, xI x8, xI x9, xI x10, xI x11]).i ≤ 1048575) ∧ ((max x5 x11) = (Ff 235 [xI x0, xI x1, xI x2, xI x3, xI x4, xI x5, xI x6, xI x7, xI x8, xI x9, xI x10, xI x11]).i ∧ -1048575 ≤ (Ff 235 [xI x0, xI x1, xI x2, xI x3, xI x4, xI x5, xI x6, xI x7, xI x8, xI x9, xI x10, xI x11]).i ∧ (Ff 235 [xI x0, xI x1, xI x2, xI x3, xI x4, xI x5, xI x6, xI x7, xI x8, xI x9, xI x10, xI x11]).i ≤ 1048575))))))))))))
theorem HullRL (x0 x1 x2 x3 x4 x5 x6 x7 x8 x9 x10 x11 : Int) : ((walkF Tryz.prog (cf0 [cEmptyR]) Tryz.f99 3000 (shS cHullR.args 0)).ctr { ρ0 with x := fun j => [xI x0, xI x1, xI x2, xI x3, xI x4, xI x5, xI x6, xI x7, xI x8, xI x9, xI x10, xI x11].getD j (xI 0) } (fun j => Ff j [xI x0, xI x1, xI x2, xI x3, xI x4, xI x5, xI x6, xI x7, xI x8, xI x9, xI x10, xI x11]) cHullR.fs cHullR.res) = HullRP x0 x1 x2 x3 x4 x5 x6 x7 x8 x9 x10 x11 := by kernel_rfl
set_option maxHeartbeats 1000000 in
theorem HullRO (x0 x1 x2 x3 x4 x5 x6 x7 x8 x9 x10 x11 : Int) (h0 : -1048575 ≤ x0 ∧ x0 ≤ 1048575) (h1 : -1048575 ≤ x1 ∧ x1 ≤ 1048575) (h2 : -1048575 ≤ x2 ∧ x2 ≤ 1048575) (h3 : -1048575 ≤ x3 ∧ x3 ≤ 1048575) (h4 : -1048575 ≤ x4 ∧ x4 ≤ 1048575) (h5 : -1048575 ≤ x5 ∧ x5 ≤ 1048575) (h6 : -1048575 ≤ x6 ∧ x6 ≤ 1048575) (h7 : -1048575 ≤ x7 ∧ x7 ≤ 1048575) (h8 : -1048575 ≤ x8 ∧ x8 ≤ 1048575) (h9 : -1048575 ≤ x9 ∧ x9 ≤ 1048575) (h10 : -1048575 ≤ x10 ∧ x10 ≤ 1048575) (h11 : -1048575 ≤ x11 ∧ x11 ≤ 1048575) : HullRP x0 x1 x2 x3 x4 x5 x6 x7 x8 x9 x10 x11 := by
 unfold HullRP
 simp only [F200, F230, F231, F232, F233, F234, F235, xI_i, xB_b]
 try simp only [Int.add_zero]
 unfold huB
 by_cases p : neB x0 x1 x2 x3 x4 x5 <;> by_cases q : neB x6 x7 x8 x9 x10 x11 <;> simp [p, q] <;> omega
theorem kHullR : CtrOk Tryz.prog ρ0 cHullR := by
 refine ctr_of (cf := cf0 [cEmptyR]) (cf0_ok (keep0.cons kEmptyR nEmptyR)) Tryz.func99 rfl 3000 fun ds hr => ?_
 match ds, hr with
 | [d0, d1, d2, d3, d4, d5, d6, d7, d8, d9, d10, d11], hr =>
  obtain ⟨⟨⟨e0, l0, u0⟩, ⟨e1, l1, u1⟩, ⟨e2, l2, u2⟩, ⟨e3, l3, u3⟩, ⟨e4, l4, u4⟩, ⟨e5, l5, u5⟩, _⟩, ⟨⟨e6, l6, u6⟩, ⟨e7, l7, u7⟩, ⟨e8, l8, u8⟩, ⟨e9, l9, u9⟩, ⟨e10, l10, u10⟩, ⟨e11, l11, u11⟩, _⟩, _⟩ := hr
  generalize d0.i = x0, d1.i = x1, d2.i = x2, d3.i = x3, d4.i = x4, d5.i = x5, d6.i = x6, d7.i = x7, d8.i = x8, d9.i = x9, d10.i = x10, d11.i = x11 at *
  subst e0 e1 e2 e3 e4 e5 e6 e7 e8 e9 e10 e11
  exact Eq.mpr (HullRL x0 x1 x2 x3 x4 x5 x6 x7 x8 x9 x10 x11) (HullRO x0 x1 x2 x3 x4 x5 x6 x7 x8 x9 x10 x11 ⟨l0, u0⟩ ⟨l1, u1⟩ ⟨l2, u2⟩ ⟨l3, u3⟩ ⟨l4, u4⟩ ⟨l5, u5⟩ ⟨l6, u6⟩ ⟨l7, u7⟩ ⟨l8, u8⟩ ⟨l9, u9⟩ ⟨l10, u10⟩ ⟨l11, u11⟩)
theorem nHullR : Hs cHullR.f := ⟨_, Tryz.func99, by kernel_rfl, by kernel_rfl⟩
def IndexP (x0 x1 x2 x3 x4 x5 x6 x7 x8 : Int) : Prop :=
 (
  ((¬ ((Ff 201 [xI x6, xI x7, xI x8, xI x0, xI x1, xI x2, xI x3, xI x4, xI x5]).b = true)) →
   ((-1) = (Ff 260 [xI x0, xI x1, xI x2, xI x3, xI x4, xI x5, xI x6, xI x7, xI x8]).i ∧ -1 ≤ (Ff 260 [xI x0, xI x1, xI x2, xI x3, xI x4, xI x5, xI x6, xI x7, xI x8]).i ∧ (Ff 260 [xI x0, xI x1, xI x2, xI x3, xI x4, xI x5, xI x6, xI x7, xI x8]).i ≤ 9223345648600874999))
 ∧
  (((Ff 201 [xI x6, xI x7, xI x8, xI x0, xI x1, xI x2, xI x3, xI x4, xI x5]).b = true) →
   ((((((x8 + ((-1) * x2)) * (Ff 206 [xI x0, xI x1, xI x2, xI x3, xI x4, xI x5]).i) + (x7 + ((-1) * x1))) * (Ff 205 [xI x0, xI x1, xI x2, xI x3, xI x4, xI x5]).i) + (x6 + ((-1) * x0))) = (Ff 260 [xI x0, xI x1, xI x2, xI x3, xI x4, xI x5, xI x6, xI x7, xI x8]).i ∧ -1 ≤ (Ff 260 [xI x0, xI x1, xI x2, xI x3, xI x4, xI x5, xI x6, xI x7, xI x8]).i ∧ (Ff 260 [xI x0, xI x1, xI x2, xI x3, xI x4, xI x5, xI x6, xI x7, xI x8]).i ≤ 9223345648600874999)))
theorem IndexL (x0 x1 x2 x3 x4 x5 x6 x7 x8 : Int) : ((walkF Tryz.prog (cf0 [cIn, cSize]) Tryz.f86 3000 (shS cIndex.args 0)).ctr { ρ0 with x := fun j => [xI x0, xI x1, xI x2, xI x3, xI x4, xI x5, xI x6, xI x7, xI x8].getD j (xI 0) } (fun j => Ff j [xI x0, xI x1, xI x2, xI x3, xI x4, xI x5, xI x6, xI x7, xI x8]) cIndex.fs cIndex.res) = IndexP x0 x1 x2 x3 x4 x5 x6 x7 x8 := by kernel_rfl
set_option maxHeartbeats 1000000 in
theorem IndexO (x0 x1 x2 x3 x4 x5 x6 x7 x8 : Int) (h0 : -1048575 ≤ x0 ∧ x0 ≤ 1048575) (h1 : -1048575 ≤ x1 ∧ x1 ≤ 1048575) (h2 : -1048575 ≤ x2 ∧ x2 ≤ 1048575) (h3 : -1048575 ≤ x3 ∧ x3 ≤ 1048575) (h4 : -1048575 ≤ x4 ∧ x4 ≤ 1048575) (h5 : -1048575 ≤ x5 ∧ x5 ≤ 1048575) (h6 : -1048576 ≤ x6 ∧ x6 ≤ 1048576) (h7 : -1048576 ≤ x7 ∧ x7 ≤ 1048576) (h8 : -1048576 ≤ x8 ∧ x8 ≤ 1048576) : IndexP x0 x1 x2 x3 x4 x5 x6 x7 x8 := by
 unfold IndexP
 simp only [F201, F205, F206, F260, xI_i, xB_b]
 try simp only [Int.add_zero]
 by_cases p : inB x6 x7 x8 x0 x1 x2 x3 x4 x5
 ·have ne := inB_ne p
  have r := idB_rng h0 h1 h2 h3 h4 h5 p
  simp only [p, decide_true, szB, if_pos ne]
  unfold idB at r ⊢
  simp only [if_pos p] at r ⊢
  refine ⟨fun h => absurd trivial h, fun _ => ⟨?_, by omega, by omega⟩⟩
  have e1 : x8 + -1 * x2 = x8 - x2 := by omega
  have e2 : x7 + -1 * x1 = x7 - x1 := by omega
  rw [e1, e2]; omega
 ·simp [p, idB]
theorem kIndex : CtrOk Tryz.prog ρ0 cIndex := by
 refine ctr_of (cf := cf0 [cIn, cSize]) (cf0_ok ((keep0.cons kSize nSize).cons kIn nIn)) Tryz.func86 rfl 3000 fun ds hr => ?_
 match ds, hr with
 | [d0, d1, d2, d3, d4, d5, d6, d7, d8], hr =>
  obtain ⟨⟨⟨e0, l0, u0⟩, ⟨e1, l1, u1⟩, ⟨e2, l2, u2⟩, ⟨e3, l3, u3⟩, ⟨e4, l4, u4⟩, ⟨e5, l5, u5⟩, _⟩, ⟨⟨e6, l6, u6⟩, ⟨e7, l7, u7⟩, ⟨e8, l8, u8⟩, _⟩, _⟩ := hr
  generalize d0.i = x0, d1.i = x1, d2.i = x2, d3.i = x3, d4.i = x4, d5.i = x5, d6.i = x6, d7.i = x7, d8.i = x8 at *
  subst e0 e1 e2 e3 e4 e5 e6 e7 e8
  exact Eq.mpr (IndexL x0 x1 x2 x3 x4 x5 x6 x7 x8) (IndexO x0 x1 x2 x3 x4 x5 x6 x7 x8 ⟨l0, u0⟩ ⟨l1, u1⟩ ⟨l2, u2⟩ ⟨l3, u3⟩ ⟨l4, u4⟩ ⟨l5, u5⟩ ⟨l6, u6⟩ ⟨l7, u7⟩ ⟨l8, u8⟩)
theorem nIndex : Hs cIndex.f := ⟨_, Tryz.func86, by kernel_rfl, by kernel_rfl⟩
def IndexRP (x0 x1 x2 x3 x4 x5 x6 x7 x8 : Int) : Prop :=
 (
  ((¬ ((Ff 201 [xI x6, xI x7, xI x8, xI x0, xI x1, xI x2, xI x3, xI x4, xI x5]).b = true)) →
   ((-1) = (Ff 260 [xI x0, xI x1, xI x2, xI x3, xI x4, xI x5, xI x6, xI x7, xI x8]).i ∧ -1 ≤ (Ff 260 [xI x0, xI x1, xI x2, xI x3, xI x4, xI x5, xI x6, xI x7, xI x8]).i ∧ (Ff 260 [xI x0, xI x1, xI x2, xI x3, xI x4, xI x5, xI x6, xI x7, xI x8]).i ≤ 9223345648600874999))
 ∧
  (((Ff 201 [xI x6, xI x7, xI x8, xI x0, xI x1, xI x2, xI x3, xI x4, xI x5]).b = true) →
   (((x6 - x0) + ((Ff 205 [xI x0, xI x1, xI x2, xI x3, xI x4, xI x5]).i * ((x7 - x1) + ((Ff 206 [xI x0, xI x1, xI x2, xI x3, xI x4, xI x5]).i * (x8 - x2))))) = (Ff 260 [xI x0, xI x1, xI x2, xI x3, xI x4, xI x5, xI x6, xI x7, xI x8]).i ∧ -1 ≤ (Ff 260 [xI x0, xI x1, xI x2, xI x3, xI x4, xI x5, xI x6, xI x7, xI x8]).i ∧ (Ff 260 [xI x0, xI x1, xI x2, xI x3, xI x4, xI x5, xI x6, xI x7, xI x8]).i ≤ 9223345648600874999)))
theorem IndexRL (x0 x1 x2 x3 x4 x5 x6 x7 x8 : Int) : ((walkF Tryz.prog (cf0 [cInR, cSizeR]) Tryz.f70 3000 (shS cIndexR.args 0)).ctr { ρ0 with x := fun j => [xI x0, xI x1, xI x2, xI x3, xI x4, xI x5, xI x6, xI x7, xI x8].getD j (xI 0) } (fun j => Ff j [xI x0, xI x1, xI x2, xI x3, xI x4, xI x5, xI x6, xI x7, xI x8]) cIndexR.fs cIndexR.res) = IndexRP x0 x1 x2 x3 x4 x5 x6 x7 x8 := by kernel_rfl
set_option maxHeartbeats 1000000 in
theorem IndexRO (x0 x1 x2 x3 x4 x5 x6 x7 x8 : Int) (h0 : -1048575 ≤ x0 ∧ x0 ≤ 1048575) (h1 : -1048575 ≤ x1 ∧ x1 ≤ 1048575) (h2 : -1048575 ≤ x2 ∧ x2 ≤ 1048575) (h3 : -1048575 ≤ x3 ∧ x3 ≤ 1048575) (h4 : -1048575 ≤ x4 ∧ x4 ≤ 1048575) (h5 : -1048575 ≤ x5 ∧ x5 ≤ 1048575) (h6 : -1048576 ≤ x6 ∧ x6 ≤ 1048576) (h7 : -1048576 ≤ x7 ∧ x7 ≤ 1048576) (h8 : -1048576 ≤ x8 ∧ x8 ≤ 1048576) : IndexRP x0 x1 x2 x3 x4 x5 x6 x7 x8 := by
 unfold IndexRP
 simp only [F201, F205, F206, F260, xI_i, xB_b]
 try simp only [Int.add_zero]
 by_cases p : inB x6 x7 x8 x0 x1 x2 x3 x4 x5
 ·have ne := inB_ne p
  have r := idB_rng h0 h1 h2 h3 h4 h5 p
  simp only [p, decide_true, szB, if_pos ne]
  unfold idB at r ⊢
  simp only [if_pos p] at r ⊢
  refine ⟨fun h => absurd trivial h, fun _ => ⟨?_, by omega, by omega⟩⟩
  rw [Int.mul_comm (x3 - x0), Int.mul_comm (x4 - x1), Int.add_comm (x7 - x1)]; omega
 ·simp [p, idB]
theorem kIndexR : CtrOk Tryz.prog ρ0 cIndexR := by
 refine ctr_of (cf := cf0 [cInR, cSizeR]) (cf0_ok ((keep0.cons kSizeR nSizeR).cons kInR nInR)) Tryz.func70 rfl 3000 fun ds hr => ?_
 match ds, hr with
 | [d0, d1, d2, d3, d4, d5, d6, d7, d8], hr =>
  obtain ⟨⟨⟨e0, l0, u0⟩, ⟨e1, l1, u1⟩, ⟨e2, l2, u2⟩, ⟨e3, l3, u3⟩, ⟨e4, l4, u4⟩, ⟨e5, l5, u5⟩, _⟩, ⟨⟨e6, l6, u6⟩, ⟨e7, l7, u7⟩, ⟨e8, l8, u8⟩, _⟩, _⟩ := hr
  generalize d0.i = x0, d1.i = x1, d2.i = x2, d3.i = x3, d4.i = x4, d5.i = x5, d6.i = x6, d7.i = x7, d8.i = x8 at *
  subst e0 e1 e2 e3 e4 e5 e6 e7 e8
  exact Eq.mpr (IndexRL x0 x1 x2 x3 x4 x5 x6 x7 x8) (IndexRO x0 x1 x2 x3 x4 x5 x6 x7 x8 ⟨l0, u0⟩ ⟨l1, u1⟩ ⟨l2, u2⟩ ⟨l3, u3⟩ ⟨l4, u4⟩ ⟨l5, u5⟩ ⟨l6, u6⟩ ⟨l7, u7⟩ ⟨l8, u8⟩)
theorem nIndexR : Hs cIndexR.f := ⟨_, Tryz.func70, by kernel_rfl, by kernel_rfl⟩
def AtP (x0 x1 x2 x3 x4 x5 x6 : Int) : Prop :=
 (
  (((x6 < 0) ∨ ((Ff 210 [xI x0, xI x1, xI x2, xI x3, xI x4, xI x5]).i ≤ x6)) →
   (((0 = (Ff 270 [xI x0, xI x1, xI x2, xI x3, xI x4, xI x5, xI x6]).i ∧ -1048575 ≤ (Ff 270 [xI x0, xI x1, xI x2, xI x3, xI x4, xI x5, xI x6]).i ∧ (Ff 270 [xI x0, xI x1, xI x2, xI x3, xI x4, xI x5, xI x6]).i ≤ 1048575) ∧ ((0 = (Ff 271 [xI x0, xI x1, xI x2, xI x3, xI x4, xI x5, xI x6]).i ∧ -1048575 ≤ (Ff 271 [xI x0, xI x1, xI x2, xI x3, xI x4, xI x5, xI x6]).i ∧ (Ff 271 [xI x0, xI x1, xI x2, xI x3, xI x4, xI x5, xI x6]).i ≤ 1048575) ∧ (0 = (Ff 272 [xI x0, xI x1, xI x2, xI x3, xI x4, xI x5, xI x6]).i ∧ -1048575 ≤ (Ff 272 [xI x0, xI x1, xI x2, xI x3, xI x4, xI x5, xI x6]).i ∧ (Ff 272 [xI x0, xI x1, xI x2, xI x3, xI x4, xI x5, xI x6]).i ≤ 1048575))) ∧ (((false = true) ↔ (Ff 273 [xI x0, xI x1, xI x2, xI x3, xI x4, xI x5, xI x6]).b = true) ∧ True)))
 ∧
  ((¬ ((x6 < 0) ∨ ((Ff 210 [xI x0, xI x1, xI x2, xI x3, xI x4, xI x5]).i ≤ x6))) →
   (
    (0 < (Ff 205 [xI x0, xI x1, xI x2, xI x3, xI x4, xI x5]).i)
   ∧
    (
     (0 < (Ff 206 [xI x0, xI x1, xI x2, xI x3, xI x4, xI x5]).i)
    ∧
     (
      (0 < (Ff 206 [xI x0, xI x1, xI x2, xI x3, xI x4, xI x5]).i)
     ∧
      (
       (0 < (Ff 205 [xI x0, xI x1, xI x2, xI x3, xI x4, xI x5]).i)
      ∧
       ((((x0 + (x6 % (Ff 205 [xI x0, xI x1, xI x2, xI x3, xI x4, xI x5]).i)) = (Ff 270 [xI x0, xI x1, xI x2, xI x3, xI x4, xI x5, xI x6]).i ∧ -1048575 ≤ (Ff 270 [xI x0, xI x1, xI x2, xI x3, xI x4, xI x5, xI x6]).i ∧ (Ff 270 [xI x0, xI x1, xI x2, xI x3, xI x4, xI x5, xI x6]).i ≤ 1048575) ∧ (((x1 + ((x6 / (Ff 205 [xI x0, xI x1, xI x2, xI x3, xI x4, xI x5]).i) % (Ff 206 [xI x0, xI x1, xI x2, xI x3, xI x4, xI x5]).i)) = (Ff 271 [xI x0, xI x1, xI x2, xI x3, xI x4, xI x5, xI x6]).i ∧ -1048575 ≤ (Ff 271 [xI x0, xI x1, xI x2, xI x3, xI x4, xI x5, xI x6]).i ∧ (Ff 271 [xI x0, xI x1, xI x2, xI x3, xI x4, xI x5, xI x6]).i ≤ 1048575) ∧ ((IntKind.wrap Go.IntKind.i64 (x2 + ((x6 / (Ff 205 [xI x0, xI x1, xI x2, xI x3, xI x4, xI x5]).i) / (Ff 206 [xI x0, xI x1, xI x2, xI x3, xI x4, xI x5]).i))) = (Ff 272 [xI x0, xI x1, xI x2, xI x3, xI x4, xI x5, xI x6]).i ∧ -1048575 ≤ (Ff 272 [xI x0, xI x1, xI x2, xI x3, xI x4, xI x5, xI x6]).i ∧ (Ff 272 [xI x0, xI x1, xI x2, xI x3, xI x4, xI x5, xI x6]).i ≤ 1048575))) ∧ (((true = true) ↔ (Ff 273 [xI x0, xI x1, xI x2, xI x3, xI x4, xI x5, xI x6]).b = true) ∧ True))))))))
theorem AtL (x0 x1 x2 x3 x4 x5 x6 : Int) : ((walkF Tryz.prog (cf0 [cVol, cSize]) Tryz.f107 3000 (shS cAt.args 0)).ctr { ρ0 with x := fun j => [xI x0, xI x1, xI x2, xI x3, xI x4, xI x5, xI x6].getD j (xI 0) } (fun j => Ff j [xI x0, xI x1, xI x2, xI x3, xI x4, xI x5, xI x6]) cAt.fs cAt.res) = AtP x0 x1 x2 x3 x4 x5 x6 := by kernel_rfl
set_option maxHeartbeats 1000000 in
theorem AtO (x0 x1 x2 x3 x4 x5 x6 : Int) (h0 : -1048575 ≤ x0 ∧ x0 ≤ 1048575) (h1 : -1048575 ≤ x1 ∧ x1 ≤ 1048575) (h2 : -1048575 ≤ x2 ∧ x2 ≤ 1048575) (h3 : -1048575 ≤ x3 ∧ x3 ≤ 1048575) (h4 : -1048575 ≤ x4 ∧ x4 ≤ 1048575) (h5 : -1048575 ≤ x5 ∧ x5 ≤ 1048575) (h6 : -9223372036854775808 ≤ x6 ∧ x6 ≤ 9223372036854775807) : AtP x0 x1 x2 x3 x4 x5 x6 := by
 unfold AtP
 simp only [F205, F206, F210, F270, F271, F272, F273, xI_i, xB_b]
 try simp only [Int.add_zero]
 by_cases p : okB x0 x1 x2 x3 x4 x5 x6
 ·have ne := okB_ne p
  have r := at_rng h0 h1 h2 h3 h4 h5 p
  simp only [szB, if_pos ne, atX, atY, atZ, if_pos p]
  have p' := p
  unfold okB at p'
  unfold inB at r
  unfold neB at ne
  refine ⟨fun h => absurd h (by omega), fun _ => ?_⟩
  have w : IntKind.i64.wrap (x2 + x6 / (x3 - x0) / (x4 - x1)) = x2 + x6 / (x3 - x0) / (x4 - x1) := wrap_fits (by simp only [kmin, kmax]; omega)
  rw [w]
  simp [p]
  omega
 ·simp [p, atX, atY, atZ]
  unfold okB at p
  omega
theorem kAt : CtrOk Tryz.prog ρ0 cAt := by
 refine ctr_of (cf := cf0 [cVol, cSize]) (cf0_ok ((keep0.cons kSize nSize).cons kVol nVol)) Tryz.func107 rfl 3000 fun ds hr => ?_
 match ds, hr with
 | [d0, d1, d2, d3, d4, d5, d6], hr =>
  obtain ⟨⟨⟨e0, l0, u0⟩, ⟨e1, l1, u1⟩, ⟨e2, l2, u2⟩, ⟨e3, l3, u3⟩, ⟨e4, l4, u4⟩, ⟨e5, l5, u5⟩, _⟩, ⟨⟨e6, l6, u6⟩, _⟩, _⟩ := hr
  generalize d0.i = x0, d1.i = x1, d2.i = x2, d3.i = x3, d4.i = x4, d5.i = x5, d6.i = x6 at *
  subst e0 e1 e2 e3 e4 e5 e6
  exact Eq.mpr (AtL x0 x1 x2 x3 x4 x5 x6) (AtO x0 x1 x2 x3 x4 x5 x6 ⟨l0, u0⟩ ⟨l1, u1⟩ ⟨l2, u2⟩ ⟨l3, u3⟩ ⟨l4, u4⟩ ⟨l5, u5⟩ ⟨l6, u6⟩)
theorem nAt : Hs cAt.f := ⟨_, Tryz.func107, by kernel_rfl, by kernel_rfl⟩
def AtRP (x0 x1 x2 x3 x4 x5 x6 : Int) : Prop :=
 (
  (((x6 < 0) ∨ ((Ff 210 [xI x0, xI x1, xI x2, xI x3, xI x4, xI x5]).i ≤ x6)) →
   (((0 = (Ff 270 [xI x0, xI x1, xI x2, xI x3, xI x4, xI x5, xI x6]).i ∧ -1048575 ≤ (Ff 270 [xI x0, xI x1, xI x2, xI x3, xI x4, xI x5, xI x6]).i ∧ (Ff 270 [xI x0, xI x1, xI x2, xI x3, xI x4, xI x5, xI x6]).i ≤ 1048575) ∧ ((0 = (Ff 271 [xI x0, xI x1, xI x2, xI x3, xI x4, xI x5, xI x6]).i ∧ -1048575 ≤ (Ff 271 [xI x0, xI x1, xI x2, xI x3, xI x4, xI x5, xI x6]).i ∧ (Ff 271 [xI x0, xI x1, xI x2, xI x3, xI x4, xI x5, xI x6]).i ≤ 1048575) ∧ (0 = (Ff 272 [xI x0, xI x1, xI x2, xI x3, xI x4, xI x5, xI x6]).i ∧ -1048575 ≤ (Ff 272 [xI x0, xI x1, xI x2, xI x3, xI x4, xI x5, xI x6]).i ∧ (Ff 272 [xI x0, xI x1, xI x2, xI x3, xI x4, xI x5, xI x6]).i ≤ 1048575))) ∧ (((false = true) ↔ (Ff 273 [xI x0, xI x1, xI x2, xI x3, xI x4, xI x5, xI x6]).b = true) ∧ True)))
 ∧
  ((¬ ((x6 < 0) ∨ ((Ff 210 [xI x0, xI x1, xI x2, xI x3, xI x4, xI x5]).i ≤ x6))) →
   (
    (0 < (Ff 206 [xI x0, xI x1, xI x2, xI x3, xI x4, xI x5]).i)
   ∧
    (
     (0 < (Ff 205 [xI x0, xI x1, xI x2, xI x3, xI x4, xI x5]).i)
    ∧
     (
      (0 < (Ff 206 [xI x0, xI x1, xI x2, xI x3, xI x4, xI x5]).i)
     ∧
      (
       (0 < (Ff 205 [xI x0, xI x1, xI x2, xI x3, xI x4, xI x5]).i)
      ∧
       (
        (0 < (Ff 205 [xI x0, xI x1, xI x2, xI x3, xI x4, xI x5]).i)
       ∧
        ((((x0 + (x6 % (Ff 205 [xI x0, xI x1, xI x2, xI x3, xI x4, xI x5]).i)) = (Ff 270 [xI x0, xI x1, xI x2, xI x3, xI x4, xI x5, xI x6]).i ∧ -1048575 ≤ (Ff 270 [xI x0, xI x1, xI x2, xI x3, xI x4, xI x5, xI x6]).i ∧ (Ff 270 [xI x0, xI x1, xI x2, xI x3, xI x4, xI x5, xI x6]).i ≤ 1048575) ∧ (((x1 + ((x6 / (Ff 205 [xI x0, xI x1, xI x2, xI x3, xI x4, xI x5]).i) % (Ff 206 [xI x0, xI x1, xI x2, xI x3, xI x4, xI x5]).i)) = (Ff 271 [xI x0, xI x1, xI x2, xI x3, xI x4, xI x5, xI x6]).i ∧ -1048575 ≤ (Ff 271 [xI x0, xI x1, xI x2, xI x3, xI x4, xI x5, xI x6]).i ∧ (Ff 271 [xI x0, xI x1, xI x2, xI x3, xI x4, xI x5, xI x6]).i ≤ 1048575) ∧ ((IntKind.wrap Go.IntKind.i64 (x2 + ((x6 / (Ff 205 [xI x0, xI x1, xI x2, xI x3, xI x4, xI x5]).i) / (Ff 206 [xI x0, xI x1, xI x2, xI x3, xI x4, xI x5]).i))) = (Ff 272 [xI x0, xI x1, xI x2, xI x3, xI x4, xI x5, xI x6]).i ∧ -1048575 ≤ (Ff 272 [xI x0, xI x1, xI x2, xI x3, xI x4, xI x5, xI x6]).i ∧ (Ff 272 [xI x0, xI x1, xI x2, xI x3, xI x4, xI x5, xI x6]).i ≤ 1048575))) ∧ (((true = true) ↔ (Ff 273 [xI x0, xI x1, xI x2, xI x3, xI x4, xI x5, xI x6]).b = true) ∧ True)))))))))
theorem AtRL (x0 x1 x2 x3 x4 x5 x6 : Int) : ((walkF Tryz.prog (cf0 [cVolR, cSizeR]) Tryz.f56 3000 (shS cAtR.args 0)).ctr { ρ0 with x := fun j => [xI x0, xI x1, xI x2, xI x3, xI x4, xI x5, xI x6].getD j (xI 0) } (fun j => Ff j [xI x0, xI x1, xI x2, xI x3, xI x4, xI x5, xI x6]) cAtR.fs cAtR.res) = AtRP x0 x1 x2 x3 x4 x5 x6 := by kernel_rfl
set_option maxHeartbeats 1000000 in
theorem AtRO (x0 x1 x2 x3 x4 x5 x6 : Int) (h0 : -1048575 ≤ x0 ∧ x0 ≤ 1048575) (h1 : -1048575 ≤ x1 ∧ x1 ≤ 1048575) (h2 : -1048575 ≤ x2 ∧ x2 ≤ 1048575) (h3 : -1048575 ≤ x3 ∧ x3 ≤ 1048575) (h4 : -1048575 ≤ x4 ∧ x4 ≤ 1048575) (h5 : -1048575 ≤ x5 ∧ x5 ≤ 1048575) (h6 : -9223372036854775808 ≤ x6 ∧ x6 ≤ 9223372036854775807) : AtRP x0 x1 x2 x3 x4 x5 x6 := by
 unfold AtRP
 simp only [F205, F206, F210, F270, F271, F272, F273, xI_i, xB_b]
 try simp only [Int.add_zero]
 by_cases p : okB x0 x1 x2 x3 x4 x5 x6
 ·have ne := okB_ne p
  have r := at_rng h0 h1 h2 h3 h4 h5 p
  simp only [szB, if_pos ne, atX, atY, atZ, if_pos p]
  have p' := p
  unfold okB at p'
  unfold inB at r
  unfold neB at ne
  refine ⟨fun h => absurd h (by omega), fun _ => ?_⟩
  have w : IntKind.i64.wrap (x2 + x6 / (x3 - x0) / (x4 - x1)) = x2 + x6 / (x3 - x0) / (x4 - x1) := wrap_fits (by simp only [kmin, kmax]; omega)
  rw [w]
  simp [p]
  omega
 ·simp [p, atX, atY, atZ]
  unfold okB at p
  omega
theorem kAtR : CtrOk Tryz.prog ρ0 cAtR := by
 refine ctr_of (cf := cf0 [cVolR, cSizeR]) (cf0_ok ((keep0.cons kSizeR nSizeR).cons kVolR nVolR)) Tryz.func56 rfl 3000 fun ds hr => ?_
 match ds, hr with
 | [d0, d1, d2, d3, d4, d5, d6], hr =>
  obtain ⟨⟨⟨e0, l0, u0⟩, ⟨e1, l1, u1⟩, ⟨e2, l2, u2⟩, ⟨e3, l3, u3⟩, ⟨e4, l4, u4⟩, ⟨e5, l5, u5⟩, _⟩, ⟨⟨e6, l6, u6⟩, _⟩, _⟩ := hr
  generalize d0.i = x0, d1.i = x1, d2.i = x2, d3.i = x3, d4.i = x4, d5.i = x5, d6.i = x6 at *
  subst e0 e1 e2 e3 e4 e5 e6
  exact Eq.mpr (AtRL x0 x1 x2 x3 x4 x5 x6) (AtRO x0 x1 x2 x3 x4 x5 x6 ⟨l0, u0⟩ ⟨l1, u1⟩ ⟨l2, u2⟩ ⟨l3, u3⟩ ⟨l4, u4⟩ ⟨l5, u5⟩ ⟨l6, u6⟩)
theorem nAtR : Hs cAtR.f := ⟨_, Tryz.func56, by kernel_rfl, by kernel_rfl⟩
end Vc
end Go.Proofs.YtaacclebncplbaaGreatDoor
