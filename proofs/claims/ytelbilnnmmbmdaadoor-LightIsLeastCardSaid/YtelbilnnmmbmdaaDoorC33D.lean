/- Contracts of functions, each out of one walk. -/
import Derived.Test.YtelbilnnmmbmdaaDoorC33L
import Derived.Test.YtelbilnnmmbmdaaDoorC07N
import Derived.Test.YtelbilnnmmbmdaaDoorC04D
import Derived.Test.YtelbilnnmmbmdaaDoorC04E
namespace Go.Proofs.YtelbilnnmmbmdaaDoor
namespace Vc
open Go Go.RowKit
set_option linter.unusedVariables false
def GetRP (x0 x1 x2 x3 x4 x5 : Int) (x6 : X) (x7 x8 x9 : Int) : Prop :=
 let A := [xI x0, xI x1, xI x2, xI x3, xI x4, xI x5, x6, xI x7, xI x8, xI x9]; (let v0 := Ff 260 [xI x0, xI x1, xI x2, xI x3, xI x4, xI x5, xI x7, xI x8, xI x9]; (((v0.i < 0) →
(rI 0 (Ff 838 A).i 0 255)) ∧
((¬ (v0.i < 0)) →
((v0.i < x6.i) ∧
(rI ((x6.r v0.i 0).i) (Ff 838 A).i 0 255)))))
theorem GetRL (x0 x1 x2 x3 x4 x5 : Int) (x6 : X) (x7 x8 x9 : Int) : (ctrR (fun j => Ff j [xI x0, xI x1, xI x2, xI x3, xI x4, xI x5, x6, xI x7, xI x8, xI x9]) cGetR.fs cGetR.res { ρ0 with x := fun j => [xI x0, xI x1, xI x2, xI x3, xI x4, xI x5, x6, xI x7, xI x8, xI x9].getD j (xI 0) } (walkR Tryd.prog (cfG none [cIndexR] [] [] sumL) Tryd.f30 400 shGet)) = GetRP x0 x1 x2 x3 x4 x5 x6 x7 x8 x9 := by kernel_rfl
set_option maxHeartbeats 4000000 in
theorem GetRO (x0 x1 x2 x3 x4 x5 : Int) (x6 : X) (x7 x8 x9 : Int) (g0 : -1048575 ≤ x0 ∧ x0 ≤ 1048575) (g1 : -1048575 ≤ x1 ∧ x1 ≤ 1048575) (g2 : -1048575 ≤ x2 ∧ x2 ≤ 1048575) (g3 : -1048575 ≤ x3 ∧ x3 ≤ 1048575) (g4 : -1048575 ≤ x4 ∧ x4 ≤ 1048575) (g5 : -1048575 ≤ x5 ∧ x5 ≤ 1048575) (g6 : 0 ≤ x6.i ∧ x6.i ≤ 2097152 ∧ RowOk [.int .i64 (0) (255)] x6.r x6.i.toNat) (g7 : -1048576 ≤ x7 ∧ x7 ≤ 1048576) (g8 : -1048576 ≤ x8 ∧ x8 ≤ 1048576) (g9 : -1048576 ≤ x9 ∧ x9 ≤ 1048576) (gp : Px cGetR.pre.get! [xI x0, xI x1, xI x2, xI x3, xI x4, xI x5, x6, xI x7, xI x8, xI x9]) : GetRP x0 x1 x2 x3 x4 x5 x6 x7 x8 x9 := by
 unfold GetRP
 intro A
 obtain ⟨k0, k1, k2, k3, k4⟩ := (v700 g6.1).1 gp
 intro v0
 have e0 : v0.i = (bxI x0 x1 x2 x3 x4 x5).idx (x7, x8, x9) := rfl
 refine And.intro ?_ ?_
 ·intro h2
  exact rngI (getL_out (show ¬ 0 ≤ v0.i by omega)) (by decide)
 intro h3
 refine andI ?_ fun o4 => ?_
 ·have h5 := (idx_ok (b := bxI x0 x1 x2 x3 x4 x5) (p := (x7, x8, x9)) (idx_has.1 (by rw [← e0]; omega))).2
  have h6 : (bxI x0 x1 x2 x3 x4 x5).vol = x6.i := k3
  omega
 have h6 : (bxI x0 x1 x2 x3 x4 x5).vol = x6.i := k3
 have hh := idx_has.1 (show 0 ≤ (bxI x0 x1 x2 x3 x4 x5).idx (x7, x8, x9) by rw [← e0]; omega)
 have h5 := (idx_ok hh).2
 refine rngI (getL_in hh h6) ?_
 have := matB_iff.1 (lxI_allA (k := v0.i) (by omega) (by omega) k4)
 omega
theorem kGetR : RCtrOk Tryd.prog ρ0 cGetR := by
 refine rctr_ofN (cf := cfG none [cIndexR] [] [] sumL) (cfG_ok (keep0.cons kIndexR nIndexR) keepR0 noF) Tryd.func30 rfl 400 rfl (sh := shGet) (by kernel_rfl) val_rsh fun ds hr hp => ?_
 have hr := rshX_flat hr
 match ds, hr, hp with
 | [d0, d1, d2, d3, d4, d5, d6, d7, d8, d9], hr, hp =>
  obtain ⟨⟨e0, l0, u0⟩, ⟨e1, l1, u1⟩, ⟨e2, l2, u2⟩, ⟨e3, l3, u3⟩, ⟨e4, l4, u4⟩, ⟨e5, l5, u5⟩, l6, ⟨e7, l7, u7⟩, ⟨e8, l8, u8⟩, ⟨e9, l9, u9⟩, _⟩ := hr
  generalize d0.i = x0, d1.i = x1, d2.i = x2, d3.i = x3, d4.i = x4, d5.i = x5, d6 = x6, d7.i = x7, d8.i = x8, d9.i = x9 at *
  subst e0 e1 e2 e3 e4 e5 e7 e8 e9
  exact Eq.mpr (GetRL x0 x1 x2 x3 x4 x5 x6 x7 x8 x9) (GetRO x0 x1 x2 x3 x4 x5 x6 x7 x8 x9 ⟨l0, u0⟩ ⟨l1, u1⟩ ⟨l2, u2⟩ ⟨l3, u3⟩ ⟨l4, u4⟩ ⟨l5, u5⟩ l6 ⟨l7, u7⟩ ⟨l8, u8⟩ ⟨l9, u9⟩ hp)
theorem nGetR : Hs cGetR.f := ⟨_, Tryd.func30, by kernel_rfl, by kernel_rfl⟩
end Vc
end Go.Proofs.YtelbilnnmmbmdaaDoor
