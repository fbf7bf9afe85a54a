/- Contracts of functions, each out of one walk. -/
import Derived.Test.YtaacclebncplbaaGreatDoorC07M
import Derived.Test.YtaacclebncplbaaGreatDoorC07R
import Derived.Test.YtaacclebncplbaaGreatDoorC04D
import Derived.Test.YtaacclebncplbaaGreatDoorC04E
namespace Go.Proofs.YtaacclebncplbaaGreatDoor
namespace Vc
open Go Go.RowKit
set_option linter.unusedVariables false
def GetP (x0 x1 x2 x3 x4 x5 : Int) (x6 : X) (x7 x8 x9 : Int) : Prop :=
 let A := [xI x0, xI x1, xI x2, xI x3, xI x4, xI x5, x6, xI x7, xI x8, xI x9]; (let v0 := Ff 260 [xI x0, xI x1, xI x2, xI x3, xI x4, xI x5, xI x7, xI x8, xI x9]; (((0 ≤ v0.i) →
((v0.i < x6.i) ∧
(rI ((x6.r v0.i 0).i) (Ff 908 A).i 0 255))) ∧
((¬ (0 ≤ v0.i)) →
(rI 0 (Ff 908 A).i 0 255))))
theorem GetL (x0 x1 x2 x3 x4 x5 : Int) (x6 : X) (x7 x8 x9 : Int) : (ctrR (fun j => Ff j [xI x0, xI x1, xI x2, xI x3, xI x4, xI x5, x6, xI x7, xI x8, xI x9]) cGet.fs cGet.res { ρ0 with x := fun j => [xI x0, xI x1, xI x2, xI x3, xI x4, xI x5, x6, xI x7, xI x8, xI x9].getD j (xI 0) } (walkR Tryz.prog (cfG none [cIndex] [] [] sumL) Tryz.f53 400 shGet)) = GetP x0 x1 x2 x3 x4 x5 x6 x7 x8 x9 := by kernel_rfl
set_option maxHeartbeats 4000000 in
theorem GetO (x0 x1 x2 x3 x4 x5 : Int) (x6 : X) (x7 x8 x9 : Int) (g0 : -1048575 ≤ x0 ∧ x0 ≤ 1048575) (g1 : -1048575 ≤ x1 ∧ x1 ≤ 1048575) (g2 : -1048575 ≤ x2 ∧ x2 ≤ 1048575) (g3 : -1048575 ≤ x3 ∧ x3 ≤ 1048575) (g4 : -1048575 ≤ x4 ∧ x4 ≤ 1048575) (g5 : -1048575 ≤ x5 ∧ x5 ≤ 1048575) (g6 : 0 ≤ x6.i ∧ x6.i ≤ 2097152 ∧ RowOk [.int .i64 (0) (255)] x6.r x6.i.toNat) (g7 : -1048576 ≤ x7 ∧ x7 ≤ 1048576) (g8 : -1048576 ≤ x8 ∧ x8 ≤ 1048576) (g9 : -1048576 ≤ x9 ∧ x9 ≤ 1048576) (gp : Px cGet.pre.get! [xI x0, xI x1, xI x2, xI x3, xI x4, xI x5, x6, xI x7, xI x8, xI x9]) : GetP x0 x1 x2 x3 x4 x5 x6 x7 x8 x9 := by
 unfold GetP
 intro A
 obtain ⟨k0, k1, k2, k3, k4⟩ := (v700 g6.1).1 gp
 intro v0
 have e0 : v0.i = (bxI x0 x1 x2 x3 x4 x5).idx (x7, x8, x9) := rfl
 refine And.intro ?_ ?_
 ·intro h2
  refine andI ?_ fun o3 => ?_
  ·have h5 := (idx_ok (b := bxI x0 x1 x2 x3 x4 x5) (p := (x7, x8, x9)) (idx_has.1 (by rw [← e0]; omega))).2
   have h6 : (bxI x0 x1 x2 x3 x4 x5).vol = x6.i := k3
   omega
  have h6 : (bxI x0 x1 x2 x3 x4 x5).vol = x6.i := k3
  have hh := idx_has.1 (show 0 ≤ (bxI x0 x1 x2 x3 x4 x5).idx (x7, x8, x9) by rw [← e0]; omega)
  have h5 := (idx_ok hh).2
  refine rngI (getL_in hh h6) ?_
  have := matB_iff.1 (lxI_allA (k := v0.i) (by omega) (by omega) k4)
  omega
 intro h4
 exact rngI (getL_out (show ¬ 0 ≤ v0.i by omega)) (by decide)
theorem kGet : RCtrOk Tryz.prog ρ0 cGet := by
 refine rctr_ofN (cf := cfG none [cIndex] [] [] sumL) (cfG_ok (keep0.cons kIndex nIndex) keepR0 noF) Tryz.func53 rfl 400 rfl (sh := shGet) (by kernel_rfl) val_rsh fun ds hr hp => ?_
 have hr := rshX_flat hr
 match ds, hr, hp with
 | [d0, d1, d2, d3, d4, d5, d6, d7, d8, d9], hr, hp =>
  obtain ⟨⟨e0, l0, u0⟩, ⟨e1, l1, u1⟩, ⟨e2, l2, u2⟩, ⟨e3, l3, u3⟩, ⟨e4, l4, u4⟩, ⟨e5, l5, u5⟩, l6, ⟨e7, l7, u7⟩, ⟨e8, l8, u8⟩, ⟨e9, l9, u9⟩, _⟩ := hr
  generalize d0.i = x0, d1.i = x1, d2.i = x2, d3.i = x3, d4.i = x4, d5.i = x5, d6 = x6, d7.i = x7, d8.i = x8, d9.i = x9 at *
  subst e0 e1 e2 e3 e4 e5 e7 e8 e9
  exact Eq.mpr (GetL x0 x1 x2 x3 x4 x5 x6 x7 x8 x9) (GetO x0 x1 x2 x3 x4 x5 x6 x7 x8 x9 ⟨l0, u0⟩ ⟨l1, u1⟩ ⟨l2, u2⟩ ⟨l3, u3⟩ ⟨l4, u4⟩ ⟨l5, u5⟩ l6 ⟨l7, u7⟩ ⟨l8, u8⟩ ⟨l9, u9⟩ hp)
theorem nGet : Hs cGet.f := ⟨_, Tryz.func53, by kernel_rfl, by kernel_rfl⟩
def GetRP (x0 x1 x2 x3 x4 x5 : Int) (x6 : X) (x7 x8 x9 : Int) : Prop :=
 let A := [xI x0, xI x1, xI x2, xI x3, xI x4, xI x5, x6, xI x7, xI x8, xI x9]; (let v0 := Ff 260 [xI x0, xI x1, xI x2, xI x3, xI x4, xI x5, xI x7, xI x8, xI x9]; (((v0.i < 0) →
(rI 0 (Ff 908 A).i 0 255)) ∧
((¬ (v0.i < 0)) →
((v0.i < x6.i) ∧
(rI ((x6.r v0.i 0).i) (Ff 908 A).i 0 255)))))
theorem GetRL (x0 x1 x2 x3 x4 x5 : Int) (x6 : X) (x7 x8 x9 : Int) : (ctrR (fun j => Ff j [xI x0, xI x1, xI x2, xI x3, xI x4, xI x5, x6, xI x7, xI x8, xI x9]) cGetR.fs cGetR.res { ρ0 with x := fun j => [xI x0, xI x1, xI x2, xI x3, xI x4, xI x5, x6, xI x7, xI x8, xI x9].getD j (xI 0) } (walkR Tryz.prog (cfG none [cIndexR] [] [] sumL) Tryz.f59 400 shGet)) = GetRP x0 x1 x2 x3 x4 x5 x6 x7 x8 x9 := by kernel_rfl
set_option maxHeartbeats 4000000 in
theorem GetRO (x0 x1 x2 x3 x4 x5 : Int) (x6 : X) (x7 x8 x9 : Int) (g0 : -1048575 ≤ x0 ∧ x0 ≤ 1048575) (g1 : -1048575 ≤ x1 ∧ x1 ≤ 1048575) (g2 : -1048575 ≤ x2 ∧ x2 ≤ 1048575) (g3 : -1048575 ≤ x3 ∧ x3 ≤ 1048575) (g4 : -1048575 ≤ x4 ∧ x4 ≤ 1048575) (g5 : -1048575 ≤ x5 ∧ x5 ≤ 1048575) (g6 : 0 ≤ x6.i ∧ x6.i ≤ 2097152 ∧ RowOk [.int .i64 (0) (255)] x6.r x6.i.toNat) (g7 : -1048576 ≤ x7 ∧ x7 ≤ 1048576) (g8 : -1048576 ≤ x8 ∧ x8 ≤ 1048576) (g9 : -1048576 ≤ x9 ∧ x9 ≤ 1048576) (gp : Px cGetR.pre.get! [xI x0, xI x1, xI x2, xI x3, xI x4, xI x5, x6, xI x7, xI x8, xI x9]) : GetRP x0 x1 x2 x3 x4 x5 x6 x7 x8 x9 := by
 unfold GetRP
 intro A
 obtain ⟨k0, k1, k2, k3, k4⟩ := (v700 g6.1).1 gp
 intro v0
 have e0 : v0.i = (bxI x0 x1 x2 x3 x4 x5).idx (x7, x8, x9) := rfl
 refine And.intro ?_ ?_
 ·intro h2
  exact rngI (getL_out (show ¬ 0 ≤ v0.i by omega)) (by decide)
 intro h3
 refine andI ?_ fun o4 => ?_
 ·have h5 := (idx_ok (b := bxI x0 x1 x2 x3 x4 x5) (p := (x7, x8, x9)) (idx_has.1 (by rw [← e0]; omega))).2
  have h6 : (bxI x0 x1 x2 x3 x4 x5).vol = x6.i := k3
  omega
 have h6 : (bxI x0 x1 x2 x3 x4 x5).vol = x6.i := k3
 have hh := idx_has.1 (show 0 ≤ (bxI x0 x1 x2 x3 x4 x5).idx (x7, x8, x9) by rw [← e0]; omega)
 have h5 := (idx_ok hh).2
 refine rngI (getL_in hh h6) ?_
 have := matB_iff.1 (lxI_allA (k := v0.i) (by omega) (by omega) k4)
 omega
theorem kGetR : RCtrOk Tryz.prog ρ0 cGetR := by
 refine rctr_ofN (cf := cfG none [cIndexR] [] [] sumL) (cfG_ok (keep0.cons kIndexR nIndexR) keepR0 noF) Tryz.func59 rfl 400 rfl (sh := shGet) (by kernel_rfl) val_rsh fun ds hr hp => ?_
 have hr := rshX_flat hr
 match ds, hr, hp with
 | [d0, d1, d2, d3, d4, d5, d6, d7, d8, d9], hr, hp =>
  obtain ⟨⟨e0, l0, u0⟩, ⟨e1, l1, u1⟩, ⟨e2, l2, u2⟩, ⟨e3, l3, u3⟩, ⟨e4, l4, u4⟩, ⟨e5, l5, u5⟩, l6, ⟨e7, l7, u7⟩, ⟨e8, l8, u8⟩, ⟨e9, l9, u9⟩, _⟩ := hr
  generalize d0.i = x0, d1.i = x1, d2.i = x2, d3.i = x3, d4.i = x4, d5.i = x5, d6 = x6, d7.i = x7, d8.i = x8, d9.i = x9 at *
  subst e0 e1 e2 e3 e4 e5 e7 e8 e9
  exact Eq.mpr (GetRL x0 x1 x2 x3 x4 x5 x6 x7 x8 x9) (GetRO x0 x1 x2 x3 x4 x5 x6 x7 x8 x9 ⟨l0, u0⟩ ⟨l1, u1⟩ ⟨l2, u2⟩ ⟨l3, u3⟩ ⟨l4, u4⟩ ⟨l5, u5⟩ l6 ⟨l7, u7⟩ ⟨l8, u8⟩ ⟨l9, u9⟩ hp)
theorem nGetR : Hs cGetR.f := ⟨_, Tryz.func59, by kernel_rfl, by kernel_rfl⟩
def NewRP (x0 x1 x2 x3 x4 x5 x6 : Int) : Prop :=
 let A := [xI x0, xI x1, xI x2, xI x3, xI x4, xI x5, xI x6]; (((((¬ (((((-1048575) ≤ x0) ∧ (x0 ≤ 1048575)) ∧ (((-1048575) ≤ x1) ∧ (x1 ≤ 1048575))) ∧ (((-1048575) ≤ x2) ∧ (x2 ≤ 1048575)))) ∨ (¬ (((((-1048575) ≤ x3) ∧ (x3 ≤ 1048575)) ∧ (((-1048575) ≤ x4) ∧ (x4 ≤ 1048575))) ∧ (((-1048575) ≤ x5) ∧ (x5 ≤ 1048575))))) ∨ (¬ ((0 ≤ x6) ∧ (x6 < 256)))) →
(((rI 0 (Ff 900 A).i (-1048575) 1048575) ∧ ((rI 0 (Ff 901 A).i (-1048575) 1048575) ∧ ((rI 0 (Ff 902 A).i (-1048575) 1048575) ∧ ((rI 0 (Ff 903 A).i (-1048575) 1048575) ∧ ((rI 0 (Ff 904 A).i (-1048575) 1048575) ∧ ((rI 0 (Ff 905 A).i (-1048575) 1048575) ∧ ((Ff 906 A).i = 0 ∧ 0 ≤ (1000000000 : Int)))))))) ∧ ((rI 1 (Ff 907 A).i 0 2) ∧ True))) ∧
((¬ (((¬ (((((-1048575) ≤ x0) ∧ (x0 ≤ 1048575)) ∧ (((-1048575) ≤ x1) ∧ (x1 ≤ 1048575))) ∧ (((-1048575) ≤ x2) ∧ (x2 ≤ 1048575)))) ∨ (¬ (((((-1048575) ≤ x3) ∧ (x3 ≤ 1048575)) ∧ (((-1048575) ≤ x4) ∧ (x4 ≤ 1048575))) ∧ (((-1048575) ≤ x5) ∧ (x5 ≤ 1048575))))) ∨ (¬ ((0 ≤ x6) ∧ (x6 < 256))))) →
(let v3 := Ff 210 [xI x0, xI x1, xI x2, xI x3, xI x4, xI x5]; (((v3.i = 0) →
(((rI 0 (Ff 900 A).i (-1048575) 1048575) ∧ ((rI 0 (Ff 901 A).i (-1048575) 1048575) ∧ ((rI 0 (Ff 902 A).i (-1048575) 1048575) ∧ ((rI 0 (Ff 903 A).i (-1048575) 1048575) ∧ ((rI 0 (Ff 904 A).i (-1048575) 1048575) ∧ ((rI 0 (Ff 905 A).i (-1048575) 1048575) ∧ ((Ff 906 A).i = 0 ∧ 0 ≤ (1000000000 : Int)))))))) ∧ ((rI 0 (Ff 907 A).i 0 2) ∧ True))) ∧
((¬ (v3.i = 0)) →
(((2097152 < v3.i) →
(((rI 0 (Ff 900 A).i (-1048575) 1048575) ∧ ((rI 0 (Ff 901 A).i (-1048575) 1048575) ∧ ((rI 0 (Ff 902 A).i (-1048575) 1048575) ∧ ((rI 0 (Ff 903 A).i (-1048575) 1048575) ∧ ((rI 0 (Ff 904 A).i (-1048575) 1048575) ∧ ((rI 0 (Ff 905 A).i (-1048575) 1048575) ∧ ((Ff 906 A).i = 0 ∧ 0 ≤ (1000000000 : Int)))))))) ∧ ((rI 2 (Ff 907 A).i 0 2) ∧ True))) ∧
((¬ (2097152 < v3.i)) →
(Px 972 (A ++ [xI 0, (mkX (rwTab 1 []) 0)]) ∧
(∀ x20 : X, (∀ x21 : X, (((0 ≤ x20.i) ∧ (x20.i ≤ 2097152)) →
((0 ≤ x21.i ∧ x21.i ≤ 2097152 ∧ RowOk [.int .i64 (-9223372036854775808) (9223372036854775807)] x21.r (x21.i).toNat) →
(Px 972 (A ++ [x20, x21]) →
(((x20.i < v3.i) →
(((x21.i + 1) ≤ 2097152) ∧
(Px 972 (A ++ [(xI (x20.i + 1)), (mkX (rwCat x21.r x21.i (rwTab 1 [xI x6])) (x21.i + 1))]) ∧
(((Ff 971 (A ++ [(xI (x20.i + 1)), (mkX (rwCat x21.r x21.i (rwTab 1 [xI x6])) (x21.i + 1))])).i < (Ff 971 (A ++ [x20, x21])).i) ∧
(0 < (Ff 971 (A ++ [x20, x21])).i))))) ∧
((¬ (x20.i < v3.i)) →
(((rI x0 (Ff 900 A).i (-1048575) 1048575) ∧ ((rI x1 (Ff 901 A).i (-1048575) 1048575) ∧ ((rI x2 (Ff 902 A).i (-1048575) 1048575) ∧ ((rI x3 (Ff 903 A).i (-1048575) 1048575) ∧ ((rI x4 (Ff 904 A).i (-1048575) 1048575) ∧ ((rI x5 (Ff 905 A).i (-1048575) 1048575) ∧ (rowEq [.int .i64 (-9223372036854775808) (9223372036854775807)] (Ff 906 A) x21.r x21.i 1000000000))))))) ∧ ((rI 0 (Ff 907 A).i 0 2) ∧ True)))))))))))))))))
theorem NewRL (x0 x1 x2 x3 x4 x5 x6 : Int) : (ctrR (fun j => Ff j [xI x0, xI x1, xI x2, xI x3, xI x4, xI x5, xI x6]) cNewR.fs cNewR.res { ρ0 with x := fun j => [xI x0, xI x1, xI x2, xI x3, xI x4, xI x5, xI x6].getD j (xI 0) } (walkR Tryz.prog (cfG none [cVolR] [] lpNewR sumL) Tryz.f27 400 cNewR.args)) = NewRP x0 x1 x2 x3 x4 x5 x6 := by kernel_rfl
set_option maxHeartbeats 4000000 in
theorem NewRO (x0 x1 x2 x3 x4 x5 x6 : Int) (g0 : -9223372036854775808 ≤ x0 ∧ x0 ≤ 9223372036854775807) (g1 : -9223372036854775808 ≤ x1 ∧ x1 ≤ 9223372036854775807) (g2 : -9223372036854775808 ≤ x2 ∧ x2 ≤ 9223372036854775807) (g3 : -9223372036854775808 ≤ x3 ∧ x3 ≤ 9223372036854775807) (g4 : -9223372036854775808 ≤ x4 ∧ x4 ≤ 9223372036854775807) (g5 : -9223372036854775808 ≤ x5 ∧ x5 ≤ 9223372036854775807) (g6 : -9223372036854775808 ≤ x6 ∧ x6 ≤ 9223372036854775807) : NewRP x0 x1 x2 x3 x4 x5 x6 := by
 unfold NewRP
 intro A
 refine And.intro ?_ ?_
 ·intro h1
  refine new_no (k := 1) (new_e1 fun h => ?_) (by omega) (by omega)
  have h8 := in20_iff.1 h.1
  have h9 : 0 ≤ x6 ∧ x6 < 256 := matB_iff.1 h.2
  omega
 intro h2
 have hr : (bxI x0 x1 x2 x3 x4 x5).in20 = true ∧ matB x6 = true := ⟨in20_iff.2 (by omega), matB_iff.2 (by omega)⟩
 intro v3
 have e3 : v3.i = (bxI x0 x1 x2 x3 x4 x5).vol := rfl
 refine And.intro ?_ ?_
 ·intro h5
  exact new_no (new_e0 hr (by omega)) (.inr h5) (by omega)
 intro h6
 refine And.intro ?_ ?_
 ·intro h8
  exact new_no (new_e2 hr h8) (by omega) (by omega)
 intro h9
 have hE : newE (bxI x0 x1 x2 x3 x4 x5) x6 = 0 := new_e0 hr h9
 have hv : 0 ≤ v3.i := vol_nn (b := bxI x0 x1 x2 x3 x4 x5)
 refine andI ?_ fun o10 => ?_
 ·exact ⟨Int.le_refl _, rfl, hv, fun i hi => absurd hi (by show ¬ (i : Int) < 0; omega)⟩
 intro x20 x21 h11 r12 p13
 obtain ⟨q0, q1, q2, q3⟩ := p13
 have q1 : x21.i = x20.i := q1
 refine And.intro ?_ ?_
 ·intro h15
  refine andI ?_ fun o16 => ?_
  ·omega
  refine andI ?_ fun o17 => ?_
  ·refine ⟨show 0 ≤ x20.i + 1 by omega, show x21.i + 1 = x20.i + 1 by omega, show x20.i + 1 ≤ v3.i by omega, fun i hi => ?_⟩
   have hi : (i : Int) < x20.i + 1 := hi
   show (if (i : Int) < x21.i then x21.r i 0 else rwTab 1 [xI x6] ((i : Int) - x21.i) 0).i = x6
   by_cases hc : (i : Int) < x21.i
   ·rw [if_pos hc]
    exact q3 i (by omega)
   ·rw [if_neg hc, show (i : Int) - x21.i = 0 by omega]
    rfl
  refine andI ?_ fun o18 => ?_
  ·show v3.i + 1 - (x20.i + 1) < v3.i + 1 - x20.i
   omega
  show 0 < v3.i + 1 - x20.i
  omega
 intro h19
 have q2 : x20.i ≤ v3.i := q2
 exact new_yes hE (by omega) hr.1 (by omega) r12.1 (by omega) fun i hi => q3 i (by omega)
theorem kNewR : RCtrOk Tryz.prog ρ0 cNewR := by
 refine rctr_of (cf := cfG none [cVolR] [] lpNewR sumL) (cfG_ok (keep0.cons kVolR nVolR) keepR0 noF) Tryz.func27 rfl 400 rfl fun ds hr => ?_
 have hr := rshX_flat hr
 match ds, hr with
 | [d0, d1, d2, d3, d4, d5, d6], hr =>
  obtain ⟨⟨e0, l0, u0⟩, ⟨e1, l1, u1⟩, ⟨e2, l2, u2⟩, ⟨e3, l3, u3⟩, ⟨e4, l4, u4⟩, ⟨e5, l5, u5⟩, ⟨e6, l6, u6⟩, _⟩ := hr
  generalize d0.i = x0, d1.i = x1, d2.i = x2, d3.i = x3, d4.i = x4, d5.i = x5, d6.i = x6 at *
  subst e0 e1 e2 e3 e4 e5 e6
  exact Eq.mpr (NewRL x0 x1 x2 x3 x4 x5 x6) (NewRO x0 x1 x2 x3 x4 x5 x6 ⟨l0, u0⟩ ⟨l1, u1⟩ ⟨l2, u2⟩ ⟨l3, u3⟩ ⟨l4, u4⟩ ⟨l5, u5⟩ ⟨l6, u6⟩)
theorem nNewR : Hs cNewR.f := ⟨_, Tryz.func27, by kernel_rfl, by kernel_rfl⟩
def ShfP (x0 x1 x2 x3 x4 x5 : Int) (x6 : X) (x7 x8 x9 : Int) : Prop :=
 let A := [xI x0, xI x1, xI x2, xI x3, xI x4, xI x5, x6, xI x7, xI x8, xI x9]; (((x6.i = 0) →
(((0 < x6.i) →
((rI (x0 + x7) (Ff 930 A).i (-2097151) 2097151) ∧ ((rI (x1 + x8) (Ff 931 A).i (-2097151) 2097151) ∧ ((rI (x2 + x9) (Ff 932 A).i (-2097151) 2097151) ∧ ((rI (x3 + x7) (Ff 933 A).i (-2097151) 2097151) ∧ ((rI (x4 + x8) (Ff 934 A).i (-2097151) 2097151) ∧ ((rI (x5 + x9) (Ff 935 A).i (-2097151) 2097151) ∧ ((Ff 936 A).i = 0 ∧ 0 ≤ (2097152 : Int))))))))) ∧
((¬ (0 < x6.i)) →
((rI x0 (Ff 930 A).i (-2097151) 2097151) ∧ ((rI x1 (Ff 931 A).i (-2097151) 2097151) ∧ ((rI x2 (Ff 932 A).i (-2097151) 2097151) ∧ ((rI x3 (Ff 933 A).i (-2097151) 2097151) ∧ ((rI x4 (Ff 934 A).i (-2097151) 2097151) ∧ ((rI x5 (Ff 935 A).i (-2097151) 2097151) ∧ ((Ff 936 A).i = 0 ∧ 0 ≤ (2097152 : Int))))))))))) ∧
(((0 < x6.i) →
((rI (x0 + x7) (Ff 930 A).i (-2097151) 2097151) ∧ ((rI (x1 + x8) (Ff 931 A).i (-2097151) 2097151) ∧ ((rI (x2 + x9) (Ff 932 A).i (-2097151) 2097151) ∧ ((rI (x3 + x7) (Ff 933 A).i (-2097151) 2097151) ∧ ((rI (x4 + x8) (Ff 934 A).i (-2097151) 2097151) ∧ ((rI (x5 + x9) (Ff 935 A).i (-2097151) 2097151) ∧ (rowEq [.int .i64 (0) (255)] (Ff 936 A) x6.r x6.i 2097152)))))))) ∧
((¬ (0 < x6.i)) →
((rI x0 (Ff 930 A).i (-2097151) 2097151) ∧ ((rI x1 (Ff 931 A).i (-2097151) 2097151) ∧ ((rI x2 (Ff 932 A).i (-2097151) 2097151) ∧ ((rI x3 (Ff 933 A).i (-2097151) 2097151) ∧ ((rI x4 (Ff 934 A).i (-2097151) 2097151) ∧ ((rI x5 (Ff 935 A).i (-2097151) 2097151) ∧ (rowEq [.int .i64 (0) (255)] (Ff 936 A) x6.r x6.i 2097152))))))))))
theorem ShfL (x0 x1 x2 x3 x4 x5 : Int) (x6 : X) (x7 x8 x9 : Int) : (ctrR (fun j => Ff j [xI x0, xI x1, xI x2, xI x3, xI x4, xI x5, x6, xI x7, xI x8, xI x9]) cShf.fs cShf.res { ρ0 with x := fun j => [xI x0, xI x1, xI x2, xI x3, xI x4, xI x5, x6, xI x7, xI x8, xI x9].getD j (xI 0) } (walkR Tryz.prog (cfG none [] [] [] sumL) Tryz.f89 400 shShf)) = ShfP x0 x1 x2 x3 x4 x5 x6 x7 x8 x9 := by kernel_rfl
set_option maxHeartbeats 4000000 in
theorem ShfO (x0 x1 x2 x3 x4 x5 : Int) (x6 : X) (x7 x8 x9 : Int) (g0 : -1048575 ≤ x0 ∧ x0 ≤ 1048575) (g1 : -1048575 ≤ x1 ∧ x1 ≤ 1048575) (g2 : -1048575 ≤ x2 ∧ x2 ≤ 1048575) (g3 : -1048575 ≤ x3 ∧ x3 ≤ 1048575) (g4 : -1048575 ≤ x4 ∧ x4 ≤ 1048575) (g5 : -1048575 ≤ x5 ∧ x5 ≤ 1048575) (g6 : 0 ≤ x6.i ∧ x6.i ≤ 2097152 ∧ RowOk [.int .i64 (0) (255)] x6.r x6.i.toNat) (g7 : -1048576 ≤ x7 ∧ x7 ≤ 1048576) (g8 : -1048576 ≤ x8 ∧ x8 ≤ 1048576) (g9 : -1048576 ≤ x9 ∧ x9 ≤ 1048576) (gp : Px cShf.pre.get! [xI x0, xI x1, xI x2, xI x3, xI x4, xI x5, x6, xI x7, xI x8, xI x9]) : ShfP x0 x1 x2 x3 x4 x5 x6 x7 x8 x9 := by
 unfold ShfP
 intro A
 obtain ⟨k0, k1, k2, k3, k4⟩ := (v700 g6.1).1 gp
 have hr : rowEq [.int .i64 (0) (255)] (rowG enI (lstX deI x6)) x6.r x6.i 2097152 := rowEq_of eqEl_int g6.1 g6.2.1 rfl
 have hl : ((lstX deI x6).length : Int) = x6.i := by rw [lstX_len]; omega
 refine And.intro ?_ ?_
 ·intro h1
  refine And.intro ?_ ?_
  ·intro h3
   exact absurd h3 (by omega)
  intro h4
  have e : shfB (bxI x0 x1 x2 x3 x4 x5) (lstX deI x6) (x7, x8, x9) = bxI x0 x1 x2 x3 x4 x5 := if_pos (by omega)
  refine ⟨rngI (c := x0) (congrArg Bx.a e) ?_, rngI (c := x1) (congrArg Bx.b e) ?_, rngI (c := x2) (congrArg Bx.c e) ?_, rngI (c := x3) (congrArg Bx.d e) ?_, rngI (c := x4) (congrArg Bx.e e) ?_, rngI (c := x5) (congrArg Bx.f e) ?_, ?_⟩
  ·omega
  ·omega
  ·omega
  ·omega
  ·omega
  ·omega
  exact ⟨hl.trans (by omega), by decide⟩
 refine And.intro ?_ ?_
 ·intro h6
  have e : shfB (bxI x0 x1 x2 x3 x4 x5) (lstX deI x6) (x7, x8, x9) = ⟨x0 + x7, x1 + x8, x2 + x9, x3 + x7, x4 + x8, x5 + x9⟩ := if_neg (by omega)
  refine ⟨rngI (c := x0 + x7) (congrArg Bx.a e) ?_, rngI (c := x1 + x8) (congrArg Bx.b e) ?_, rngI (c := x2 + x9) (congrArg Bx.c e) ?_, rngI (c := x3 + x7) (congrArg Bx.d e) ?_, rngI (c := x4 + x8) (congrArg Bx.e e) ?_, rngI (c := x5 + x9) (congrArg Bx.f e) ?_, hr⟩
  all_goals omega
 intro h7
 have e : shfB (bxI x0 x1 x2 x3 x4 x5) (lstX deI x6) (x7, x8, x9) = bxI x0 x1 x2 x3 x4 x5 := if_pos (by omega)
 refine ⟨rngI (c := x0) (congrArg Bx.a e) ?_, rngI (c := x1) (congrArg Bx.b e) ?_, rngI (c := x2) (congrArg Bx.c e) ?_, rngI (c := x3) (congrArg Bx.d e) ?_, rngI (c := x4) (congrArg Bx.e e) ?_, rngI (c := x5) (congrArg Bx.f e) ?_, hr⟩
 all_goals omega
theorem kShf : RCtrOk Tryz.prog ρ0 cShf := by
 refine rctr_ofN (cf := cfG none [] [] [] sumL) (cfG_ok keep0 keepR0 noF) Tryz.func89 rfl 400 rfl (sh := shShf) (by kernel_rfl) val_rsh fun ds hr hp => ?_
 have hr := rshX_flat hr
 match ds, hr, hp with
 | [d0, d1, d2, d3, d4, d5, d6, d7, d8, d9], hr, hp =>
  obtain ⟨⟨e0, l0, u0⟩, ⟨e1, l1, u1⟩, ⟨e2, l2, u2⟩, ⟨e3, l3, u3⟩, ⟨e4, l4, u4⟩, ⟨e5, l5, u5⟩, l6, ⟨e7, l7, u7⟩, ⟨e8, l8, u8⟩, ⟨e9, l9, u9⟩, _⟩ := hr
  generalize d0.i = x0, d1.i = x1, d2.i = x2, d3.i = x3, d4.i = x4, d5.i = x5, d6 = x6, d7.i = x7, d8.i = x8, d9.i = x9 at *
  subst e0 e1 e2 e3 e4 e5 e7 e8 e9
  exact Eq.mpr (ShfL x0 x1 x2 x3 x4 x5 x6 x7 x8 x9) (ShfO x0 x1 x2 x3 x4 x5 x6 x7 x8 x9 ⟨l0, u0⟩ ⟨l1, u1⟩ ⟨l2, u2⟩ ⟨l3, u3⟩ ⟨l4, u4⟩ ⟨l5, u5⟩ l6 ⟨l7, u7⟩ ⟨l8, u8⟩ ⟨l9, u9⟩ hp)
theorem nShf : Hs cShf.f := ⟨_, Tryz.func89, by kernel_rfl, by kernel_rfl⟩
end Vc
end Go.Proofs.YtaacclebncplbaaGreatDoor
