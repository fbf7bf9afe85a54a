/- Contracts of functions, each out of one walk. -/
import Derived.Test.YtelbilnnmmbmdaaDoorC04C
import Derived.Test.YtelbilnnmmbmdaaDoorC04D
namespace Go.Proofs.YtelbilnnmmbmdaaDoor
namespace Vc
open Go Go.RowKit
set_option linter.unusedVariables false
def VolP (x0 x1 x2 x3 x4 x5 : Int) : Prop :=
 ((((Ff 205 [xI x0, xI x1, xI x2, xI x3, xI x4, xI x5]).i * (Ff 206 [xI x0, xI x1, xI x2, xI x3, xI x4, xI x5]).i) * (Ff 207 [xI x0, xI x1, xI x2, xI x3, xI x4, xI x5]).i) = (Ff 210 [xI x0, xI x1, xI x2, xI x3, xI x4, xI x5]).i ∧ 0 ≤ (Ff 210 [xI x0, xI x1, xI x2, xI x3, xI x4, xI x5]).i ∧ (Ff 210 [xI x0, xI x1, xI x2, xI x3, xI x4, xI x5]).i ≤ 9223345648600875000)
theorem VolL (x0 x1 x2 x3 x4 x5 : Int) : ((walkF Tryd.prog (cf0 [cSize]) Tryd.f67 3000 (shS cVol.args 0)).ctr { ρ0 with x := fun j => [xI x0, xI x1, xI x2, xI x3, xI x4, xI x5].getD j (xI 0) } (fun j => Ff j [xI x0, xI x1, xI x2, xI x3, xI x4, xI x5]) cVol.fs cVol.res) = VolP x0 x1 x2 x3 x4 x5 := by kernel_rfl
set_option maxHeartbeats 1000000 in
theorem VolO (x0 x1 x2 x3 x4 x5 : Int) (h0 : -1048575 ≤ x0 ∧ x0 ≤ 1048575) (h1 : -1048575 ≤ x1 ∧ x1 ≤ 1048575) (h2 : -1048575 ≤ x2 ∧ x2 ≤ 1048575) (h3 : -1048575 ≤ x3 ∧ x3 ≤ 1048575) (h4 : -1048575 ≤ x4 ∧ x4 ≤ 1048575) (h5 : -1048575 ≤ x5 ∧ x5 ≤ 1048575) : VolP x0 x1 x2 x3 x4 x5 := by
 unfold VolP
 simp only [F205, F206, F207, F210, xI_i]
 try simp only [Int.add_zero]
 have hv := vol_rng h0 h1 h2 h3 h4 h5
 refine ⟨?_, hv⟩
 exact vol_szB x0 x1 x2 x3 x4 x5
theorem kVol : CtrOk Tryd.prog ρ0 cVol := by
 refine ctr_of (cf := cf0 [cSize]) (cf0_ok (keep0.cons kSize nSize)) Tryd.func67 rfl 3000 fun ds hr => ?_
 match ds, hr with
 | [d0, d1, d2, d3, d4, d5], hr =>
  obtain ⟨⟨⟨e0, l0, u0⟩, ⟨e1, l1, u1⟩, ⟨e2, l2, u2⟩, ⟨e3, l3, u3⟩, ⟨e4, l4, u4⟩, ⟨e5, l5, u5⟩, _⟩, _⟩ := hr
  generalize d0.i = x0, d1.i = x1, d2.i = x2, d3.i = x3, d4.i = x4, d5.i = x5 at *
  subst e0 e1 e2 e3 e4 e5
  exact Eq.mpr (VolL x0 x1 x2 x3 x4 x5) (VolO x0 x1 x2 x3 x4 x5 ⟨l0, u0⟩ ⟨l1, u1⟩ ⟨l2, u2⟩ ⟨l3, u3⟩ ⟨l4, u4⟩ ⟨l5, u5⟩)
theorem nVol : Hs cVol.f := ⟨_, Tryd.func67, by kernel_rfl, by kernel_rfl⟩
def VolRP (x0 x1 x2 x3 x4 x5 : Int) : Prop :=
 ((((Ff 205 [xI x0, xI x1, xI x2, xI x3, xI x4, xI x5]).i * (Ff 206 [xI x0, xI x1, xI x2, xI x3, xI x4, xI x5]).i) * (Ff 207 [xI x0, xI x1, xI x2, xI x3, xI x4, xI x5]).i) = (Ff 210 [xI x0, xI x1, xI x2, xI x3, xI x4, xI x5]).i ∧ 0 ≤ (Ff 210 [xI x0, xI x1, xI x2, xI x3, xI x4, xI x5]).i ∧ (Ff 210 [xI x0, xI x1, xI x2, xI x3, xI x4, xI x5]).i ≤ 9223345648600875000)
theorem VolRL (x0 x1 x2 x3 x4 x5 : Int) : ((walkF Tryd.prog (cf0 [cSizeR]) Tryd.f54 3000 (shS cVolR.args 0)).ctr { ρ0 with x := fun j => [xI x0, xI x1, xI x2, xI x3, xI x4, xI x5].getD j (xI 0) } (fun j => Ff j [xI x0, xI x1, xI x2, xI x3, xI x4, xI x5]) cVolR.fs cVolR.res) = VolRP x0 x1 x2 x3 x4 x5 := by kernel_rfl
set_option maxHeartbeats 1000000 in
theorem VolRO (x0 x1 x2 x3 x4 x5 : Int) (h0 : -1048575 ≤ x0 ∧ x0 ≤ 1048575) (h1 : -1048575 ≤ x1 ∧ x1 ≤ 1048575) (h2 : -1048575 ≤ x2 ∧ x2 ≤ 1048575) (h3 : -1048575 ≤ x3 ∧ x3 ≤ 1048575) (h4 : -1048575 ≤ x4 ∧ x4 ≤ 1048575) (h5 : -1048575 ≤ x5 ∧ x5 ≤ 1048575) : VolRP x0 x1 x2 x3 x4 x5 := by
 unfold VolRP
 simp only [F205, F206, F207, F210, xI_i]
 try simp only [Int.add_zero]
 have hv := vol_rng h0 h1 h2 h3 h4 h5
 refine ⟨?_, hv⟩
 exact vol_szB x0 x1 x2 x3 x4 x5
theorem kVolR : CtrOk Tryd.prog ρ0 cVolR := by
 refine ctr_of (cf := cf0 [cSizeR]) (cf0_ok (keep0.cons kSizeR nSizeR)) Tryd.func54 rfl 3000 fun ds hr => ?_
 match ds, hr with
 | [d0, d1, d2, d3, d4, d5], hr =>
  obtain ⟨⟨⟨e0, l0, u0⟩, ⟨e1, l1, u1⟩, ⟨e2, l2, u2⟩, ⟨e3, l3, u3⟩, ⟨e4, l4, u4⟩, ⟨e5, l5, u5⟩, _⟩, _⟩ := hr
  generalize d0.i = x0, d1.i = x1, d2.i = x2, d3.i = x3, d4.i = x4, d5.i = x5 at *
  subst e0 e1 e2 e3 e4 e5
  exact Eq.mpr (VolRL x0 x1 x2 x3 x4 x5) (VolRO x0 x1 x2 x3 x4 x5 ⟨l0, u0⟩ ⟨l1, u1⟩ ⟨l2, u2⟩ ⟨l3, u3⟩ ⟨l4, u4⟩ ⟨l5, u5⟩)
theorem nVolR : Hs cVolR.f := ⟨_, Tryd.func54, by kernel_rfl, by kernel_rfl⟩
def IndexP (x0 x1 x2 x3 x4 x5 x6 x7 x8 : Int) : Prop :=
 (
  ((¬ ((Ff 201 [xI x6, xI x7, xI x8, xI x0, xI x1, xI x2, xI x3, xI x4, xI x5]).b = true)) →
   ((-1) = (Ff 260 [xI x0, xI x1, xI x2, xI x3, xI x4, xI x5, xI x6, xI x7, xI x8]).i ∧ -1 ≤ (Ff 260 [xI x0, xI x1, xI x2, xI x3, xI x4, xI x5, xI x6, xI x7, xI x8]).i ∧ (Ff 260 [xI x0, xI x1, xI x2, xI x3, xI x4, xI x5, xI x6, xI x7, xI x8]).i ≤ 9223345648600874999))
 ∧
  (((Ff 201 [xI x6, xI x7, xI x8, xI x0, xI x1, xI x2, xI x3, xI x4, xI x5]).b = true) →
   ((((((x8 + ((-1) * x2)) * (Ff 206 [xI x0, xI x1, xI x2, xI x3, xI x4, xI x5]).i) + (x7 + ((-1) * x1))) * (Ff 205 [xI x0, xI x1, xI x2, xI x3, xI x4, xI x5]).i) + (x6 + ((-1) * x0))) = (Ff 260 [xI x0, xI x1, xI x2, xI x3, xI x4, xI x5, xI x6, xI x7, xI x8]).i ∧ -1 ≤ (Ff 260 [xI x0, xI x1, xI x2, xI x3, xI x4, xI x5, xI x6, xI x7, xI x8]).i ∧ (Ff 260 [xI x0, xI x1, xI x2, xI x3, xI x4, xI x5, xI x6, xI x7, xI x8]).i ≤ 9223345648600874999)))
theorem IndexL (x0 x1 x2 x3 x4 x5 x6 x7 x8 : Int) : ((walkF Tryd.prog (cf0 [cIn, cSize]) Tryd.f51 3000 (shS cIndex.args 0)).ctr { ρ0 with x := fun j => [xI x0, xI x1, xI x2, xI x3, xI x4, xI x5, xI x6, xI x7, xI x8].getD j (xI 0) } (fun j => Ff j [xI x0, xI x1, xI x2, xI x3, xI x4, xI x5, xI x6, xI x7, xI x8]) cIndex.fs cIndex.res) = IndexP x0 x1 x2 x3 x4 x5 x6 x7 x8 := by kernel_rfl
set_option maxHeartbeats 1000000 in
theorem IndexO (x0 x1 x2 x3 x4 x5 x6 x7 x8 : Int) (h0 : -1048575 ≤ x0 ∧ x0 ≤ 1048575) (h1 : -1048575 ≤ x1 ∧ x1 ≤ 1048575) (h2 : -1048575 ≤ x2 ∧ x2 ≤ 1048575) (h3 : -1048575 ≤ x3 ∧ x3 ≤ 1048575) (h4 : -1048575 ≤ x4 ∧ x4 ≤ 1048575) (h5 : -1048575 ≤ x5 ∧ x5 ≤ 1048575) (h6 : -1048576 ≤ x6 ∧ x6 ≤ 1048576) (h7 : -1048576 ≤ x7 ∧ x7 ≤ 1048576) (h8 : -1048576 ≤ x8 ∧ x8 ≤ 1048576) : IndexP x0 x1 x2 x3 x4 x5 x6 x7 x8 := by
 unfold IndexP
 simp only [F201, F205, F206, F260, xI_i, xB_b]
 try simp only [Int.add_zero]
 by_cases p : inB x6 x7 x8 x0 x1 x2 x3 x4 x5
 ·have ne := inB_ne p
  have r := idB_rng h0 h1 h2 h3 h4 h5 p
  simp only [p, decide_true, szB, if_pos ne]
  unfold idB at r ⊢
  simp only [if_pos p] at r ⊢
  refine ⟨fun h => absurd trivial h, fun _ => ⟨?_, by omega, by omega⟩⟩
  have e1 : x8 + -1 * x2 = x8 - x2 := by omega
  have e2 : x7 + -1 * x1 = x7 - x1 := by omega
  rw [e1, e2]; omega
 ·simp [p, idB]
theorem kIndex : CtrOk Tryd.prog ρ0 cIndex := by
 refine ctr_of (cf := cf0 [cIn, cSize]) (cf0_ok ((keep0.cons kSize nSize).cons kIn nIn)) Tryd.func51 rfl 3000 fun ds hr => ?_
 match ds, hr with
 | [d0, d1, d2, d3, d4, d5, d6, d7, d8], hr =>
  obtain ⟨⟨⟨e0, l0, u0⟩, ⟨e1, l1, u1⟩, ⟨e2, l2, u2⟩, ⟨e3, l3, u3⟩, ⟨e4, l4, u4⟩, ⟨e5, l5, u5⟩, _⟩, ⟨⟨e6, l6, u6⟩, ⟨e7, l7, u7⟩, ⟨e8, l8, u8⟩, _⟩, _⟩ := hr
  generalize d0.i = x0, d1.i = x1, d2.i = x2, d3.i = x3, d4.i = x4, d5.i = x5, d6.i = x6, d7.i = x7, d8.i = x8 at *
  subst e0 e1 e2 e3 e4 e5 e6 e7 e8
  exact Eq.mpr (IndexL x0 x1 x2 x3 x4 x5 x6 x7 x8) (IndexO x0 x1 x2 x3 x4 x5 x6 x7 x8 ⟨l0, u0⟩ ⟨l1, u1⟩ ⟨l2, u2⟩ ⟨l3, u3⟩ ⟨l4, u4⟩ ⟨l5, u5⟩ ⟨l6, u6⟩ ⟨l7, u7⟩ ⟨l8, u8⟩)
theorem nIndex : Hs cIndex.f := ⟨_, Tryd.func51, by kernel_rfl, by kernel_rfl⟩
def IndexRP (x0 x1 x2 x3 x4 x5 x6 x7 x8 : Int) : Prop :=
 (
  ((¬ ((Ff 201 [xI x6, xI x7, xI x8, xI x0, xI x1, xI x2, xI x3, xI x4, xI x5]).b = true)) →
   ((-1) = (Ff 260 [xI x0, xI x1, xI x2, xI x3, xI x4, xI x5, xI x6, xI x7, xI x8]).i ∧ -1 ≤ (Ff 260 [xI x0, xI x1, xI x2, xI x3, xI x4, xI x5, xI x6, xI x7, xI x8]).i ∧ (Ff 260 [xI x0, xI x1, xI x2, xI x3, xI x4, xI x5, xI x6, xI x7, xI x8]).i ≤ 9223345648600874999))
 ∧
  (((Ff 201 [xI x6, xI x7, xI x8, xI x0, xI x1, xI x2, xI x3, xI x4, xI x5]).b = true) →
   (((x6 - x0) + ((Ff 205 [xI x0, xI x1, xI x2, xI x3, xI x4, xI x5]).i * ((x7 - x1) + ((Ff 206 [xI x0, xI x1, xI x2, xI x3, xI x4, xI x5]).i * (x8 - x2))))) = (Ff 260 [xI x0, xI x1, xI x2, xI x3, xI x4, xI x5, xI x6, xI x7, xI x8]).i ∧ -1 ≤ (Ff 260 [xI x0, xI x1, xI x2, xI x3, xI x4, xI x5, xI x6, xI x7, xI x8]).i ∧ (Ff 260 [xI x0, xI x1, xI x2, xI x3, xI x4, xI x5, xI x6, xI x7, xI x8]).i ≤ 9223345648600874999)))
theorem IndexRL (x0 x1 x2 x3 x4 x5 x6 x7 x8 : Int) : ((walkF Tryd.prog (cf0 [cInR, cSizeR]) Tryd.f29 3000 (shS cIndexR.args 0)).ctr { ρ0 with x := fun j => [xI x0, xI x1, xI x2, xI x3, xI x4, xI x5, xI x6, xI x7, xI x8].getD j (xI 0) } (fun j => Ff j [xI x0, xI x1, xI x2, xI x3, xI x4, xI x5, xI x6, xI x7, xI x8]) cIndexR.fs cIndexR.res) = IndexRP x0 x1 x2 x3 x4 x5 x6 x7 x8 := by kernel_rfl
set_option maxHeartbeats 1000000 in
theorem IndexRO (x0 x1 x2 x3 x4 x5 x6 x7 x8 : Int) (h0 : -1048575 ≤ x0 ∧ x0 ≤ 1048575) (h1 : -1048575 ≤ x1 ∧ x1 ≤ 1048575) (h2 : -1048575 ≤ x2 ∧ x2 ≤ 1048575) (h3 : -1048575 ≤ x3 ∧ x3 ≤ 1048575) (h4 : -1048575 ≤ x4 ∧ x4 ≤ 1048575) (h5 : -1048575 ≤ x5 ∧ x5 ≤ 1048575) (h6 : -1048576 ≤ x6 ∧ x6 ≤ 1048576) (h7 : -1048576 ≤ x7 ∧ x7 ≤ 1048576) (h8 : -1048576 ≤ x8 ∧ x8 ≤ 1048576) : IndexRP x0 x1 x2 x3 x4 x5 x6 x7 x8 := by
 unfold IndexRP
 simp only [F201, F205, F206, F260, xI_i, xB_b]
 try simp only [Int.add_zero]
 by_cases p : inB x6 x7 x8 x0 x1 x2 x3 x4 x5
 ·have ne := inB_ne p
  have r := idB_rng h0 h1 h2 h3 h4 h5 p
  simp only [p, decide_true, szB, if_pos ne]
  unfold idB at r ⊢
  simp only [if_pos p] at r ⊢
  refine ⟨fun h => absurd trivial h, fun _ => ⟨?_, by omega, by omega⟩⟩
  rw [Int.mul_comm (x3 - x0), Int.mul_comm (x4 - x1), Int.add_comm (x7 - x1)]; omega
 ·simp [p, idB]
theorem kIndexR : CtrOk Tryd.prog ρ0 cIndexR := by
 refine ctr_of (cf := cf0 [cInR, cSizeR]) (cf0_ok ((keep0.cons kSizeR nSizeR).cons kInR nInR)) Tryd.func29 rfl 3000 fun ds hr => ?_
 match ds, hr with
 | [d0, d1, d2, d3, d4, d5, d6, d7, d8], hr =>
  obtain ⟨⟨⟨e0, l0, u0⟩, ⟨e1, l1, u1⟩, ⟨e2, l2, u2⟩, ⟨e3, l3, u3⟩, ⟨e4, l4, u4⟩, ⟨e5, l5, u5⟩, _⟩, ⟨⟨e6, l6, u6⟩, ⟨e7, l7, u7⟩, ⟨e8, l8, u8⟩, _⟩, _⟩ := hr
  generalize d0.i = x0, d1.i = x1, d2.i = x2, d3.i = x3, d4.i = x4, d5.i = x5, d6.i = x6, d7.i = x7, d8.i = x8 at *
  subst e0 e1 e2 e3 e4 e5 e6 e7 e8
  exact Eq.mpr (IndexRL x0 x1 x2 x3 x4 x5 x6 x7 x8) (IndexRO x0 x1 x2 x3 x4 x5 x6 x7 x8 ⟨l0, u0⟩ ⟨l1, u1⟩ ⟨l2, u2⟩ ⟨l3, u3⟩ ⟨l4, u4⟩ ⟨l5, u5⟩ ⟨l6, u6⟩ ⟨l7, u7⟩ ⟨l8, u8⟩)
theorem nIndexR : Hs cIndexR.f := ⟨_, Tryd.func29, by kernel_rfl, by kernel_rfl⟩
def AtP (x0 x1 x2 x3 x4 x5 x6 : Int) : Prop :=
 (
  (((x6 < 0) ∨ ((Ff 210 [xI x0, xI x1, xI x2, xI x3, xI x4, xI x5]).i ≤ x6)) →
   (((0 = (Ff 270 [xI x0, xI x1, xI x2, xI x3, xI x4, xI x5, xI x6]).i ∧ -1048575 ≤ (Ff 270 [xI x0, xI x1, xI x2, xI x3, xI x4, xI x5, xI x6]).i ∧ (Ff 270 [xI x0, xI x1, xI x2, xI x3, xI x4, xI x5, xI x6]).i ≤ 1048575) ∧ ((0 = (Ff 271 [xI x0, xI x1, xI x2, xI x3, xI x4, xI x5, xI x6]).i ∧ -1048575 ≤ (Ff 271 [xI x0, xI x1, xI x2, xI x3, xI x4, xI x5, xI x6]).i ∧ (Ff 271 [xI x0, xI x1, xI x2, xI x3, xI x4, xI x5, xI x6]).i ≤ 1048575) ∧ (0 = (Ff 272 [xI x0, xI x1, xI x2, xI x3, xI x4, xI x5, xI x6]).i ∧ -1048575 ≤ (Ff 272 [xI x0, xI x1, xI x2, xI x3, xI x4, xI x5, xI x6]).i ∧ (Ff 272 [xI x0, xI x1, xI x2, xI x3, xI x4, xI x5, xI x6]).i ≤ 1048575))) ∧ (((false = true) ↔ (Ff 273 [xI x0, xI x1, xI x2, xI x3, xI x4, xI x5, xI x6]).b = true) ∧ True)))
 ∧
  ((¬ ((x6 < 0) ∨ ((Ff 210 [xI x0, xI x1, xI x2, xI x3, xI x4, xI x5]).i ≤ x6))) →
   (
    (0 < (Ff 205 [xI x0, xI x1, xI x2, xI x3, xI x4, xI x5]).i)
   ∧
    (
     (0 < (Ff 206 [xI x0, xI x1, xI x2, xI x3, xI x4, xI x5]).i)
    ∧
     (
      (0 < (Ff 206 [xI x0, xI x1, xI x2, xI x3, xI x4, xI x5]).i)
     ∧
      (
       (0 < (Ff 205 [xI x0, xI x1, xI x2, xI x3, xI x4, xI x5]).i)
      ∧
       ((((x0 + (x6 % (Ff 205 [xI x0, xI x1, xI x2, xI x3, xI x4, xI x5]).i)) = (Ff 270 [xI x0, xI x1, xI x2, xI x3, xI x4, xI x5, xI x6]).i ∧ -1048575 ≤ (Ff 270 [xI x0, xI x1, xI x2, xI x3, xI x4, xI x5, xI x6]).i ∧ (Ff 270 [xI x0, xI x1, xI x2, xI x3, xI x4, xI x5, xI x6]).i ≤ 1048575) ∧ (((x1 + ((x6 / (Ff 205 [xI x0, xI x1, xI x2, xI x3, xI x4, xI x5]).i) % (Ff 206 [xI x0, xI x1, xI x2, xI x3, xI x4, xI x5]).i)) = (Ff 271 [xI x0, xI x1, xI x2, xI x3, xI x4, xI x5, xI x6]).i ∧ -1048575 ≤ (Ff 271 [xI x0, xI x1, xI x2, xI x3, xI x4, xI x5, xI x6]).i ∧ (Ff 271 [xI x0, xI x1, xI x2, xI x3, xI x4, xI x5, xI x6]).i ≤ 1048575) ∧ ((IntKind.wrap Go.IntKind.i64 (x2 + ((x6 / (Ff 205 [xI x0, xI x1, xI x2, xI x3, xI x4, xI x5]).i) / (Ff 206 [xI x0, xI x1, xI x2, xI x3, xI x4, xI x5]).i))) = (Ff 272 [xI x0, xI x1, xI x2, xI x3, xI x4, xI x5, xI x6]).i ∧ -1048575 ≤ (Ff 272 [xI x0, xI x1, xI x2, xI x3, xI x4, xI x5, xI x6]).i ∧ (Ff 272 [xI x0, xI x1, xI x2, xI x3, xI x4, xI x5, xI x6]).i ≤ 1048575))) ∧ (((true = true) ↔ (Ff 273 [xI x0, xI x1, xI x2, xI x3, xI x4, xI x5, xI x6]).b = true) ∧ True))))))))
theorem AtL (x0 x1 x2 x3 x4 x5 x6 : Int) : ((walkF Tryd.prog (cf0 [cVol, cSize]) Tryd.f62 3000 (shS cAt.args 0)).ctr { ρ0 with x := fun j => [xI x0, xI x1, xI x2, xI x3, xI x4, xI x5, xI x6].getD j (xI 0) } (fun j => Ff j [xI x0, xI x1, xI x2, xI x3, xI x4, xI x5, xI x6]) cAt.fs cAt.res) = AtP x0 x1 x2 x3 x4 x5 x6 := by kernel_rfl
set_option maxHeartbeats 1000000 in
theorem AtO (x0 x1 x2 x3 x4 x5 x6 : Int) (h0 : -1048575 ≤ x0 ∧ x0 ≤ 1048575) (h1 : -1048575 ≤ x1 ∧ x1 ≤ 1048575) (h2 : -1048575 ≤ x2 ∧ x2 ≤ 1048575) (h3 : -1048575 ≤ x3 ∧ x3 ≤ 1048575) (h4 : -1048575 ≤ x4 ∧ x4 ≤ 1048575) (h5 : -1048575 ≤ x5 ∧ x5 ≤ 1048575) (h6 : -9223372036854775808 ≤ x6 ∧ x6 ≤ 9223372036854775807) : AtP x0 x1 x2 x3 x4 x5 x6 := by
 unfold AtP
 simp only [F205, F206, F210, F270, F271, F272, F273, xI_i, xB_b]
 try simp only [Int.add_zero]
 by_cases p : okB x0 x1 x2 x3 x4 x5 x6
 ·have ne := okB_ne p
  have r := at_rng h0 h1 h2 h3 h4 h5 p
  simp only [szB, if_pos ne, atX, atY, atZ, if_pos p]
  have p' := p
  unfold okB at p'
  unfold inB at r
  unfold neB at ne
  refine ⟨fun h => absurd h (by omega), fun _ => ?_⟩
  have w : IntKind.i64.wrap (x2 + x6 / (x3 - x0) / (x4 - x1)) = x2 + x6 / (x3 - x0) / (x4 - x1) := wrap_fits (by simp only [kmin, kmax]; omega)
  rw [w]
  simp [p]
  omega
 ·simp [p, atX, atY, atZ]
  unfold okB at p
  omega
theorem kAt : CtrOk Tryd.prog ρ0 cAt := by
 refine ctr_of (cf := cf0 [cVol, cSize]) (cf0_ok ((keep0.cons kSize nSize).cons kVol nVol)) Tryd.func62 rfl 3000 fun ds hr => ?_
 match ds, hr with
 | [d0, d1, d2, d3, d4, d5, d6], hr =>
  obtain ⟨⟨⟨e0, l0, u0⟩, ⟨e1, l1, u1⟩, ⟨e2, l2, u2⟩, ⟨e3, l3, u3⟩, ⟨e4, l4, u4⟩, ⟨e5, l5, u5⟩, _⟩, ⟨⟨e6, l6, u6⟩, _⟩, _⟩ := hr
  generalize d0.i = x0, d1.i = x1, d2.i = x2, d3.i = x3, d4.i = x4, d5.i = x5, d6.i = x6 at *
  subst e0 e1 e2 e3 e4 e5 e6
  exact Eq.mpr (AtL x0 x1 x2 x3 x4 x5 x6) (AtO x0 x1 x2 x3 x4 x5 x6 ⟨l0, u0⟩ ⟨l1, u1⟩ ⟨l2, u2⟩ ⟨l3, u3⟩ ⟨l4, u4⟩ ⟨l5, u5⟩ ⟨l6, u6⟩)
theorem nAt : Hs cAt.f := ⟨_, Tryd.func62, by kernel_rfl, by kernel_rfl⟩
def AtRP (x0 x1 x2 x3 x4 x5 x6 : Int) : Prop :=
 (
  (((x6 < 0) ∨ ((Ff 210 [xI x0, xI x1, xI x2, xI x3, xI x4, xI x5]).i ≤ x6)) →
   (((0 = (Ff 270 [xI x0, xI x1, xI x2, xI x3, xI x4, xI x5, xI x6]).i ∧ -1048575 ≤ (Ff 270 [xI x0, xI x1, xI x2, xI x3, xI x4, xI x5, xI x6]).i ∧ (Ff 270 [xI x0, xI x1, xI x2, xI x3, xI x4, xI x5, xI x6]).i ≤ 1048575) ∧ ((0 = (Ff 271 [xI x0, xI x1, xI x2, xI x3, xI x4, xI x5, xI x6]).i ∧ -1048575 ≤ (Ff 271 [xI x0, xI x1, xI x2, xI x3, xI x4, xI x5, xI x6]).i ∧ (Ff 271 [xI x0, xI x1, xI x2, xI x3, xI x4, xI x5, xI x6]).i ≤ 1048575) ∧ (0 = (Ff 272 [xI x0, xI x1, xI x2, xI x3, xI x4, xI x5, xI x6]).i ∧ -1048575 ≤ (Ff 272 [xI x0, xI x1, xI x2, xI x3, xI x4, xI x5, xI x6]).i ∧ (Ff 272 [xI x0, xI x1, xI x2, xI x3, xI x4, xI x5, xI x6]).i ≤ 1048575))) ∧ (((false = true) ↔ (Ff 273 [xI x0, xI x1, xI x2, xI x3, xI x4, xI x5, xI x6]).b = true) ∧ True)))
 ∧
  ((¬ ((x6 < 0) ∨ ((Ff 210 [xI x0, xI x1, xI x2, xI x3, xI x4, xI x5]).i ≤ x6))) →
   (
    (0 < (Ff 206 [xI x0, xI x1, xI x2, xI x3, xI x4, xI x5]).i)
   ∧
    (
     (0 < (Ff 205 [xI x0, xI x1, xI x2, xI x3, xI x4, xI x5]).i)
    ∧
     (
      (0 < (Ff 206 [xI x0, xI x1, xI x2, xI x3, xI x4, xI x5]).i)
     ∧
      (
       (0 < (Ff 205 [xI x0, xI x1, xI x2, xI x3, xI x4, xI x5]).i)
      ∧
       (
        (0 < (Ff 205 [xI x0, xI x1, xI x2, xI x3, xI x4, xI x5]).i)
       ∧
        ((((x0 + (x6 % (Ff 205 [xI x0, xI x1, xI x2, xI x3, xI x4, xI x5]).i)) = (Ff 270 [xI x0, xI x1, xI x2, xI x3, xI x4, xI x5, xI x6]).i ∧ -1048575 ≤ (Ff 270 [xI x0, xI x1, xI x2, xI x3, xI x4, xI x5, xI x6]).i ∧ (Ff 270 [xI x0, xI x1, xI x2, xI x3, xI x4, xI x5, xI x6]).i ≤ 1048575) ∧ (((x1 + ((x6 / (Ff 205 [xI x0, xI x1, xI x2, xI x3, xI x4, xI x5]).i) % (Ff 206 [xI x0, xI x1, xI x2, xI x3, xI x4, xI x5]).i)) = (Ff 271 [xI x0, xI x1, xI x2, xI x3, xI x4, xI x5, xI x6]).i ∧ -1048575 ≤ (Ff 271 [xI x0, xI x1, xI x2, xI x3, xI x4, xI x5, xI x6]).i ∧ (Ff 271 [xI x0, xI x1, xI x2, xI x3, xI x4, xI x5, xI x6]).i ≤ 1048575) ∧ ((IntKind.wrap Go.IntKind.i64 (x2 + ((x6 / (Ff 205 [xI x0, xI x1, xI x2, xI x3, xI x4, xI x5]).i) / (Ff 206 [xI x0, xI x1, xI x2, xI x3, xI x4, xI x5]).i))) = (Ff 272 [xI x0, xI x1, xI x2, xI x3, xI x4, xI x5, xI x6]).i ∧ -1048575 ≤ (Ff 272 [xI x0, xI x1, xI x2, xI x3, xI x4, xI x5, xI x6]).i ∧ (Ff 272 [xI x0, xI x1, xI x2, xI x3, xI x4, xI x5, xI x6]).i ≤ 1048575))) ∧ (((true = true) ↔ (Ff 273 [xI x0, xI x1, xI x2, xI x3, xI x4, xI x5, xI x6]).b = true) ∧ True)))))))))
theorem AtRL (x0 x1 x2 x3 x4 x5 x6 : Int) : ((walkF Tryd.prog (cf0 [cVolR, cSizeR]) Tryd.f28 3000 (shS cAtR.args 0)).ctr { ρ0 with x := fun j => [xI x0, xI x1, xI x2, xI x3, xI x4, xI x5, xI x6].getD j (xI 0) } (fun j => Ff j [xI x0, xI x1, xI x2, xI x3, xI x4, xI x5, xI x6]) cAtR.fs cAtR.res) = AtRP x0 x1 x2 x3 x4 x5 x6 := by kernel_rfl
set_option maxHeartbeats 1000000 in
theorem AtRO (x0 x1 x2 x3 x4 x5 x6 : Int) (h0 : -1048575 ≤ x0 ∧ x0 ≤ 1048575) (h1 : -1048575 ≤ x1 ∧ x1 ≤ 1048575) (h2 : -1048575 ≤ x2 ∧ x2 ≤ 1048575) (h3 : -1048575 ≤ x3 ∧ x3 ≤ 1048575) (h4 : -1048575 ≤ x4 ∧ x4 ≤ 1048575) (h5 : -1048575 ≤ x5 ∧ x5 ≤ 1048575) (h6 : -9223372036854775808 ≤ x6 ∧ x6 ≤ 9223372036854775807) : AtRP x0 x1 x2 x3 x4 x5 x6 := by
 unfold AtRP
 simp only [F205, F206, F210, F270, F271, F272, F273, xI_i, xB_b]
 try simp only [Int.add_zero]
 by_cases p : okB x0 x1 x2 x3 x4 x5 x6
 ·have ne := okB_ne p
  have r := at_rng h0 h1 h2 h3 h4 h5 p
  simp only [szB, if_pos ne, atX, atY, atZ, if_pos p]
  have p' := p
  unfold okB at p'
  unfold inB at r
  unfold neB at ne
  refine ⟨fun h => absurd h (by omega), fun _ => ?_⟩
  have w : IntKind.i64.wrap (x2 + x6 / (x3 - x0) / (x4 - x1)) = x2 + x6 / (x3 - x0) / (x4 - x1) := wrap_fits (by simp only [kmin, kmax]; omega)
  rw [w]
  simp [p]
  omega
 ·simp [p, atX, atY, atZ]
  unfold okB at p
  omega
theorem kAtR : CtrOk Tryd.prog ρ0 cAtR := by
 refine ctr_of (cf := cf0 [cVolR, cSizeR]) (cf0_ok ((keep0.cons kSizeR nSizeR).cons kVolR nVolR)) Tryd.func28 rfl 3000 fun ds hr => ?_
 match ds, hr with
 | [d0, d1, d2, d3, d4, d5, d6], hr =>
  obtain ⟨⟨⟨e0, l0, u0⟩, ⟨e1, l1, u1⟩, ⟨e2, l2, u2⟩, ⟨e3, l3, u3⟩, ⟨e4, l4, u4⟩, ⟨e5, l5, u5⟩, _⟩, ⟨⟨e6, l6, u6⟩, _⟩, _⟩ := hr
  generalize d0.i = x0, d1.i = x1, d2.i = x2, d3.i = x3, d4.i = x4, d5.i = x5, d6.i = x6 at *
  subst e0 e1 e2 e3 e4 e5 e6
  exact Eq.mpr (AtRL x0 x1 x2 x3 x4 x5 x6) (AtRO x0 x1 x2 x3 x4 x5 x6 ⟨l0, u0⟩ ⟨l1, u1⟩ ⟨l2, u2⟩ ⟨l3, u3⟩ ⟨l4, u4⟩ ⟨l5, u5⟩ ⟨l6, u6⟩)
theorem nAtR : Hs cAtR.f := ⟨_, Tryd.func28, by kernel_rfl, by kernel_rfl⟩
end Vc
end Go.Proofs.YtelbilnnmmbmdaaDoor
