/- Contracts of functions, each out of one walk. -/
import Derived.Test.YtaacclebncplbaaGreatDoorC20W
import Derived.Test.YtaacclebncplbaaGreatDoorC07I
import Derived.Test.YtaacclebncplbaaGreatDoorC07P
namespace Go.Proofs.YtaacclebncplbaaGreatDoor
namespace Vc
open Go Go.RowKit
set_option linter.unusedVariables false
def PpRP (x0 x1 x2 x3 x4 x5 : Int) (x6 : X) : Prop :=
 let A := [xI x0, xI x1, xI x2, xI x3, xI x4, xI x5, x6]; (Px 710 (A ++ [(xI (x0 * (-1))), (xI (x1 * (-1))), (xI (x2 * (-1)))]) ∧
(let v1 := Ff 930 (A ++ [(xI (x0 * (-1))), (xI (x1 * (-1))), (xI (x2 * (-1)))]); let v2 := Ff 931 (A ++ [(xI (x0 * (-1))), (xI (x1 * (-1))), (xI (x2 * (-1)))]); let v3 := Ff 932 (A ++ [(xI (x0 * (-1))), (xI (x1 * (-1))), (xI (x2 * (-1)))]); let v4 := Ff 933 (A ++ [(xI (x0 * (-1))), (xI (x1 * (-1))), (xI (x2 * (-1)))]); let v5 := Ff 934 (A ++ [(xI (x0 * (-1))), (xI (x1 * (-1))), (xI (x2 * (-1)))]); let v6 := Ff 935 (A ++ [(xI (x0 * (-1))), (xI (x1 * (-1))), (xI (x2 * (-1)))]); let v7 := Ff 936 (A ++ [(xI (x0 * (-1))), (xI (x1 * (-1))), (xI (x2 * (-1)))]); ((rI v1.i (Ff 1103 A).i (-2097151) 2097151) ∧ ((rI v2.i (Ff 1104 A).i (-2097151) 2097151) ∧ ((rI v3.i (Ff 1105 A).i (-2097151) 2097151) ∧ ((rI v4.i (Ff 1106 A).i (-2097151) 2097151) ∧ ((rI v5.i (Ff 1107 A).i (-2097151) 2097151) ∧ ((rI v6.i (Ff 1108 A).i (-2097151) 2097151) ∧ (rowEq SMat (Ff 1109 A) v7.r v7.i 2097152)))))))))
theorem PpRL (x0 x1 x2 x3 x4 x5 : Int) (x6 : X) : (ctrR (fun j => Ff j [xI x0, xI x1, xI x2, xI x3, xI x4, xI x5, x6]) cPpR.fs cPpR.res { ρ0 with x := fun j => [xI x0, xI x1, xI x2, xI x3, xI x4, xI x5, x6].getD j (xI 0) } (walkR Tryz.prog (cfG none [] [cShfR] [] sumC) Tryz.f31 400 shG)) = PpRP x0 x1 x2 x3 x4 x5 x6 := by kernel_rfl
set_option maxHeartbeats 4000000 in
theorem PpRO (x0 x1 x2 x3 x4 x5 : Int) (x6 : X) (g0 : -1048575 ≤ x0 ∧ x0 ≤ 1048575) (g1 : -1048575 ≤ x1 ∧ x1 ≤ 1048575) (g2 : -1048575 ≤ x2 ∧ x2 ≤ 1048575) (g3 : -1048575 ≤ x3 ∧ x3 ≤ 1048575) (g4 : -1048575 ≤ x4 ∧ x4 ≤ 1048575) (g5 : -1048575 ≤ x5 ∧ x5 ≤ 1048575) (g6 : 0 ≤ x6.i ∧ x6.i ≤ 2097152 ∧ RowOk SMat x6.r x6.i.toNat) (gp : Px cPpR.pre.get! [xI x0, xI x1, xI x2, xI x3, xI x4, xI x5, x6]) : PpRP x0 x1 x2 x3 x4 x5 x6 := by
 unfold PpRP
 intro A
 have gv : validG ⟨(bxI x0 x1 x2 x3 x4 x5), lstX deI x6⟩ = true := gp
 have R := pp_rng (cs := lstX deI x6) (in20_nB (val_in gv))
 refine andI ?_ fun o0 => ?_
 ·exact gp
 intro v1 v2 v3 v4 v5 v6 v7
 have hl : v7.i = ((lstX deI x6).length : Int) := rfl
 have hl2 := lstX_len deI x6
 exact ⟨⟨rfl, R.1.1⟩, ⟨rfl, R.1.2.1⟩, ⟨rfl, R.1.2.2⟩, ⟨rfl, R.2.1⟩, ⟨rfl, R.2.2.1⟩, ⟨rfl, R.2.2.2⟩, rowEq_of eqEl_int (by omega) (by omega) lst_rowI⟩
theorem kPpR : RCtrOk Tryz.prog ρ0 cPpR := by
 refine rctr_ofN (cf := cfG none [] [cShfR] [] sumC) (cfG_ok keep0 (keepR0.cons kShfR nShfR) noF) Tryz.func31 rfl 400 rfl (sh := shG) (by kernel_rfl) val_rsh fun ds hr hp => ?_
 have hr := rshX_flat hr
 match ds, hr, hp with
 | [d0, d1, d2, d3, d4, d5, d6], hr, hp =>
  obtain ⟨⟨e0, l0, u0⟩, ⟨e1, l1, u1⟩, ⟨e2, l2, u2⟩, ⟨e3, l3, u3⟩, ⟨e4, l4, u4⟩, ⟨e5, l5, u5⟩, l6, _⟩ := hr
  generalize d0.i = x0, d1.i = x1, d2.i = x2, d3.i = x3, d4.i = x4, d5.i = x5, d6 = x6 at *
  subst e0 e1 e2 e3 e4 e5
  exact Eq.mpr (PpRL x0 x1 x2 x3 x4 x5 x6) (PpRO x0 x1 x2 x3 x4 x5 x6 ⟨l0, u0⟩ ⟨l1, u1⟩ ⟨l2, u2⟩ ⟨l3, u3⟩ ⟨l4, u4⟩ ⟨l5, u5⟩ l6 hp)
theorem nPpR : Hs cPpR.f := ⟨_, Tryz.func31, by kernel_rfl, by kernel_rfl⟩
def PtP (x0 x1 x2 : Int) : Prop :=
((rI x0 (Ff 1090 [xI x0, xI x1, xI x2]).i (-9223372036854775808) 9223372036854775807) ∧ ((rI x1 (Ff 1091 [xI x0, xI x1, xI x2]).i (-9223372036854775808) 9223372036854775807) ∧ (rI x2 (Ff 1092 [xI x0, xI x1, xI x2]).i (-9223372036854775808) 9223372036854775807)))
theorem PtL (x0 x1 x2 : Int) : (ctrR (fun j => Ff j [xI x0, xI x1, xI x2]) cPt.fs cPt.res { ρ0 with x := fun j => [xI x0, xI x1, xI x2].getD j (xI 0) } (walkR Tryz.prog (cfG none [] [] [] sumC) Tryz.f26 400 cPt.args)) = PtP x0 x1 x2 := by kernel_rfl
set_option maxHeartbeats 4000000 in
theorem PtO (x0 x1 x2 : Int) (g0 : -9223372036854775808 ≤ x0 ∧ x0 ≤ 9223372036854775807) (g1 : -9223372036854775808 ≤ x1 ∧ x1 ≤ 9223372036854775807) (g2 : -9223372036854775808 ≤ x2 ∧ x2 ≤ 9223372036854775807) : PtP x0 x1 x2 := by
 unfold PtP
 exact ⟨⟨rfl, g0⟩, ⟨rfl, g1⟩, ⟨rfl, g2⟩⟩
theorem kPt : RCtrOk Tryz.prog ρ0 cPt := by
 refine rctr_of (cf := cfG none [] [] [] sumC) (cfG_ok keep0 keepR0 noF) Tryz.func26 rfl 400 rfl fun ds hr => ?_
 have hr := rshX_flat hr
 match ds, hr with
 | [d0, d1, d2], hr =>
  obtain ⟨⟨e0, l0, u0⟩, ⟨e1, l1, u1⟩, ⟨e2, l2, u2⟩, _⟩ := hr
  generalize d0.i = x0, d1.i = x1, d2.i = x2 at *
  subst e0 e1 e2
  exact Eq.mpr (PtL x0 x1 x2) (PtO x0 x1 x2 ⟨l0, u0⟩ ⟨l1, u1⟩ ⟨l2, u2⟩)
theorem nPt : Hs cPt.f := ⟨_, Tryz.func26, by kernel_rfl, by kernel_rfl⟩
def AddRP (x0 x1 x2 x3 x4 x5 : Int) : Prop :=
 let A := [xI x0, xI x1, xI x2, xI x3, xI x4, xI x5]; ((rI (x0 + x3) (Ff 1114 A).i (-200000) 200000) ∧ ((rI (x1 + x4) (Ff 1115 A).i (-200000) 200000) ∧ (rI (x2 + x5) (Ff 1116 A).i (-200000) 200000)))
theorem AddRL (x0 x1 x2 x3 x4 x5 : Int) : (ctrR (fun j => Ff j [xI x0, xI x1, xI x2, xI x3, xI x4, xI x5]) cAddR.fs cAddR.res { ρ0 with x := fun j => [xI x0, xI x1, xI x2, xI x3, xI x4, xI x5].getD j (xI 0) } (walkR Tryz.prog (cfG none [] [] [] sumC) Tryz.f28 400 cAddR.args)) = AddRP x0 x1 x2 x3 x4 x5 := by kernel_rfl
set_option maxHeartbeats 4000000 in
theorem AddRO (x0 x1 x2 x3 x4 x5 : Int) (g0 : -100000 ≤ x0 ∧ x0 ≤ 100000) (g1 : -100000 ≤ x1 ∧ x1 ≤ 100000) (g2 : -100000 ≤ x2 ∧ x2 ≤ 100000) (g3 : -100000 ≤ x3 ∧ x3 ≤ 100000) (g4 : -100000 ≤ x4 ∧ x4 ≤ 100000) (g5 : -100000 ≤ x5 ∧ x5 ≤ 100000) : AddRP x0 x1 x2 x3 x4 x5 := by
 unfold AddRP
 intro A
 exact ⟨⟨rfl, show -200000 ≤ x0 + x3 ∧ x0 + x3 ≤ 200000 by omega⟩, ⟨rfl, show -200000 ≤ x1 + x4 ∧ x1 + x4 ≤ 200000 by omega⟩, ⟨rfl, show -200000 ≤ x2 + x5 ∧ x2 + x5 ≤ 200000 by omega⟩⟩
theorem kAddR : RCtrOk Tryz.prog ρ0 cAddR := by
 refine rctr_of (cf := cfG none [] [] [] sumC) (cfG_ok keep0 keepR0 noF) Tryz.func28 rfl 400 rfl fun ds hr => ?_
 have hr := rshX_flat hr
 match ds, hr with
 | [d0, d1, d2, d3, d4, d5], hr =>
  obtain ⟨⟨e0, l0, u0⟩, ⟨e1, l1, u1⟩, ⟨e2, l2, u2⟩, ⟨e3, l3, u3⟩, ⟨e4, l4, u4⟩, ⟨e5, l5, u5⟩, _⟩ := hr
  generalize d0.i = x0, d1.i = x1, d2.i = x2, d3.i = x3, d4.i = x4, d5.i = x5 at *
  subst e0 e1 e2 e3 e4 e5
  exact Eq.mpr (AddRL x0 x1 x2 x3 x4 x5) (AddRO x0 x1 x2 x3 x4 x5 ⟨l0, u0⟩ ⟨l1, u1⟩ ⟨l2, u2⟩ ⟨l3, u3⟩ ⟨l4, u4⟩ ⟨l5, u5⟩)
theorem nAddR : Hs cAddR.f := ⟨_, Tryz.func28, by kernel_rfl, by kernel_rfl⟩
end Vc
end Go.Proofs.YtaacclebncplbaaGreatDoor
