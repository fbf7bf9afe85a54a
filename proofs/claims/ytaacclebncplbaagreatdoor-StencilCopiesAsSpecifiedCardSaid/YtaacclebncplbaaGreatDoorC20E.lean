/- Contracts of functions, each out of one walk. -/
import Derived.Test.YtaacclebncplbaaGreatDoorC20W
import Derived.Test.YtaacclebncplbaaGreatDoorC20A
import Derived.Test.YtaacclebncplbaaGreatDoorC07I
import Derived.Test.YtaacclebncplbaaGreatDoorC07P
import Derived.Test.YtaacclebncplbaaGreatDoorC07S
import Derived.Test.YtaacclebncplbaaGreatDoorC04D
import Derived.Test.YtaacclebncplbaaGreatDoorC04E
import Derived.Test.YtaacclebncplbaaGreatDoorC04L
import Derived.Test.YtaacclebncplbaaGreatDoorC04V
namespace Go.Proofs.YtaacclebncplbaaGreatDoor
namespace Vc
open Go Go.RowKit
set_option linter.unusedVariables false
def CpyRP (x0 x1 x2 x3 x4 x5 : Int) (x6 : X) (x7 x8 x9 x10 x11 x12 x13 x14 x15 x16 : Int) : Prop :=
 let A := [xI x0, xI x1, xI x2, xI x3, xI x4, xI x5, x6, xI x7, xI x8, xI x9, xI x10, xI x11, xI x12, xI x13, xI x14, xI x15, xI x16]; (((¬ ((0 ≤ x13) ∧ (x13 < 48))) →
(((Ff 1030 A).i = 0 ∧ 0 ≤ (2097152 : Int)) ∧ ((rI 1 (Ff 1031 A).i 0 2) ∧ True))) ∧
(((0 ≤ x13) ∧ (x13 < 48)) →
(let v3 := Ff 210 [xI x7, xI x8, xI x9, xI x10, xI x11, xI x12]; (((2097152 < v3.i) →
(((Ff 1030 A).i = 0 ∧ 0 ≤ (2097152 : Int)) ∧ ((rI 2 (Ff 1031 A).i 0 2) ∧ True))) ∧
((¬ (2097152 < v3.i)) →
(Px 1098 [xI x0, xI x1, xI x2, xI x3, xI x4, xI x5, x6, xI x0, xI x1, xI x2, xI x3, xI x4, xI x5, x6, xI x7, xI x8, xI x9, xI x10, xI x11, xI x12, xI x13, xI x14, xI x15, xI x16, xI 0, xI x0, xI x1, xI x2, xI x3, xI x4, xI x5, x6] ∧
(∀ x40 : X, (∀ x41 : X, (∀ x42 : X, (∀ x43 : X, (∀ x44 : X, (∀ x45 : X, (∀ x46 : X, (∀ x47 : X, (((0 ≤ x40.i) ∧ (x40.i ≤ 9000000000000)) →
((((-1048575) ≤ x41.i) ∧ (x41.i ≤ 1048575)) →
((((-1048575) ≤ x42.i) ∧ (x42.i ≤ 1048575)) →
((((-1048575) ≤ x43.i) ∧ (x43.i ≤ 1048575)) →
((((-1048575) ≤ x44.i) ∧ (x44.i ≤ 1048575)) →
((((-1048575) ≤ x45.i) ∧ (x45.i ≤ 1048575)) →
((((-1048575) ≤ x46.i) ∧ (x46.i ≤ 1048575)) →
((0 ≤ x47.i ∧ x47.i ≤ 2097152 ∧ RowOk SMat x47.r (x47.i).toNat) →
(Px 1098 [xI x0, xI x1, xI x2, xI x3, xI x4, xI x5, x6, xI x0, xI x1, xI x2, xI x3, xI x4, xI x5, x6, xI x7, xI x8, xI x9, xI x10, xI x11, xI x12, xI x13, xI x14, xI x15, xI x16, x40, x41, x42, x43, x44, x45, x46, x47] →
(((x40.i < v3.i) →
(let v19 := Ff 270 [xI x7, xI x8, xI x9, xI x10, xI x11, xI x12, xI x40.i]; let v20 := Ff 271 [xI x7, xI x8, xI x9, xI x10, xI x11, xI x12, xI x40.i]; let v21 := Ff 272 [xI x7, xI x8, xI x9, xI x10, xI x11, xI x12, xI x40.i]; (Px 1081 [xI x7, xI x8, xI x9, xI x10, xI x11, xI x12, xI x13, xI x14, xI x15, xI x16, xI v19.i, xI v20.i, xI v21.i] ∧
(let v23 := Ff 1010 [xI x7, xI x8, xI x9, xI x10, xI x11, xI x12, xI x13, xI x14, xI x15, xI x16, xI v19.i, xI v20.i, xI v21.i]; let v24 := Ff 1011 [xI x7, xI x8, xI x9, xI x10, xI x11, xI x12, xI x13, xI x14, xI x15, xI x16, xI v19.i, xI v20.i, xI v21.i]; let v25 := Ff 1012 [xI x7, xI x8, xI x9, xI x10, xI x11, xI x12, xI x13, xI x14, xI x15, xI x16, xI v19.i, xI v20.i, xI v21.i]; let v26 := Ff 908 [xI x0, xI x1, xI x2, xI x3, xI x4, xI x5, x6, xI v19.i, xI v20.i, xI v21.i]; (Px 710 [xI x41.i, xI x42.i, xI x43.i, xI x44.i, xI x45.i, xI x46.i, x47, xI v23.i, xI v24.i, xI v25.i, xI v26.i] ∧
(Px 710 [xI x0, xI x1, xI x2, xI x3, xI x4, xI x5, x6, xI v19.i, xI v20.i, xI v21.i] ∧
(((x40.i + 1) ≤ 9000000000000) ∧
(let v30 := Ff 701 [xI x41.i, xI x42.i, xI x43.i, xI x44.i, xI x45.i, xI x46.i, x47, xI v23.i, xI v24.i, xI v25.i, xI v26.i]; let v31 := Ff 702 [xI x41.i, xI x42.i, xI x43.i, xI x44.i, xI x45.i, xI x46.i, x47, xI v23.i, xI v24.i, xI v25.i, xI v26.i]; let v32 := Ff 703 [xI x41.i, xI x42.i, xI x43.i, xI x44.i, xI x45.i, xI x46.i, x47, xI v23.i, xI v24.i, xI v25.i, xI v26.i]; let v33 := Ff 704 [xI x41.i, xI x42.i, xI x43.i, xI x44.i, xI x45.i, xI x46.i, x47, xI v23.i, xI v24.i, xI v25.i, xI v26.i]; let v34 := Ff 705 [xI x41.i, xI x42.i, xI x43.i, xI x44.i, xI x45.i, xI x46.i, x47, xI v23.i, xI v24.i, xI v25.i, xI v26.i]; let v35 := Ff 706 [xI x41.i, xI x42.i, xI x43.i, xI x44.i, xI x45.i, xI x46.i, x47, xI v23.i, xI v24.i, xI v25.i, xI v26.i]; let v36 := Ff 707 [xI x41.i, xI x42.i, xI x43.i, xI x44.i, xI x45.i, xI x46.i, x47, xI v23.i, xI v24.i, xI v25.i, xI v26.i]; (Px 1098 [xI x0, xI x1, xI x2, xI x3, xI x4, xI x5, x6, xI x0, xI x1, xI x2, xI x3, xI x4, xI x5, x6, xI x7, xI x8, xI x9, xI x10, xI x11, xI x12, xI x13, xI x14, xI x15, xI x16, (xI (x40.i + 1)), xI v30.i, xI v31.i, xI v32.i, xI v33.i, xI v34.i, xI v35.i, v36] ∧
(((Ff 1098 [xI x0, xI x1, xI x2, xI x3, xI x4, xI x5, x6, xI x0, xI x1, xI x2, xI x3, xI x4, xI x5, x6, xI x7, xI x8, xI x9, xI x10, xI x11, xI x12, xI x13, xI x14, xI x15, xI x16, (xI (x40.i + 1)), xI v30.i, xI v31.i, xI v32.i, xI v33.i, xI v34.i, xI v35.i, v36]).i < (Ff 1098 [xI x0, xI x1, xI x2, xI x3, xI x4, xI x5, x6, xI x0, xI x1, xI x2, xI x3, xI x4, xI x5, x6, xI x7, xI x8, xI x9, xI x10, xI x11, xI x12, xI x13, xI x14, xI x15, xI x16, x40, x41, x42, x43, x44, x45, x46, x47]).i) ∧
(0 < (Ff 1098 [xI x0, xI x1, xI x2, xI x3, xI x4, xI x5, x6, xI x0, xI x1, xI x2, xI x3, xI x4, xI x5, x6, xI x7, xI x8, xI x9, xI x10, xI x11, xI x12, xI x13, xI x14, xI x15, xI x16, x40, x41, x42, x43, x44, x45, x46, x47]).i))))))))))) ∧
((¬ (x40.i < v3.i)) →
(Px 711 [xI x0, xI x1, xI x2, xI x3, xI x4, xI x5, x6, xI x41.i, xI x42.i, xI x43.i, xI x44.i, xI x45.i, xI x46.i, x47] ∧
(let v41 := Ff 950 [xI x0, xI x1, xI x2, xI x3, xI x4, xI x5, x6, xI x41.i, xI x42.i, xI x43.i, xI x44.i, xI x45.i, xI x46.i, x47]; ((rowEq SCc (Ff 1030 A) v41.r v41.i 2097152) ∧ ((rI 0 (Ff 1031 A).i 0 2) ∧ True)))))))))))))))))))))))))))))
theorem CpyRL (x0 x1 x2 x3 x4 x5 : Int) (x6 : X) (x7 x8 x9 x10 x11 x12 x13 x14 x15 x16 : Int) : (ctrR (fun j => Ff j [xI x0, xI x1, xI x2, xI x3, xI x4, xI x5, x6, xI x7, xI x8, xI x9, xI x10, xI x11, xI x12, xI x13, xI x14, xI x15, xI x16]) cCpyR.fs cCpyR.res { ρ0 with x := fun j => [xI x0, xI x1, xI x2, xI x3, xI x4, xI x5, x6, xI x7, xI x8, xI x9, xI x10, xI x11, xI x12, xI x13, xI x14, xI x15, xI x16].getD j (xI 0) } (walkR Tryz.prog (cfG none [cVolR, cAtR] [cPlcR, cGetR, cSetR, cDifR] lpCpyR sumC) Tryz.f11 600 shCpy)) = CpyRP x0 x1 x2 x3 x4 x5 x6 x7 x8 x9 x10 x11 x12 x13 x14 x15 x16 := by kernel_rfl
set_option maxHeartbeats 4000000 in
theorem CpyRO (x0 x1 x2 x3 x4 x5 : Int) (x6 : X) (x7 x8 x9 x10 x11 x12 x13 x14 x15 x16 : Int) (g0 : -1048575 ≤ x0 ∧ x0 ≤ 1048575) (g1 : -1048575 ≤ x1 ∧ x1 ≤ 1048575) (g2 : -1048575 ≤ x2 ∧ x2 ≤ 1048575) (g3 : -1048575 ≤ x3 ∧ x3 ≤ 1048575) (g4 : -1048575 ≤ x4 ∧ x4 ≤ 1048575) (g5 : -1048575 ≤ x5 ∧ x5 ≤ 1048575) (g6 : 0 ≤ x6.i ∧ x6.i ≤ 2097152 ∧ RowOk SMat x6.r x6.i.toNat) (g7 : -10000 ≤ x7 ∧ x7 ≤ 10000) (g8 : -10000 ≤ x8 ∧ x8 ≤ 10000) (g9 : -10000 ≤ x9 ∧ x9 ≤ 10000) (g10 : -10000 ≤ x10 ∧ x10 ≤ 10000) (g11 : -10000 ≤ x11 ∧ x11 ≤ 10000) (g12 : -10000 ≤ x12 ∧ x12 ≤ 10000) (g13 : -9223372036854775808 ≤ x13 ∧ x13 ≤ 9223372036854775807) (g14 : -10000 ≤ x14 ∧ x14 ≤ 10000) (g15 : -10000 ≤ x15 ∧ x15 ≤ 10000) (g16 : -10000 ≤ x16 ∧ x16 ≤ 10000) (gp : Px cCpyR.pre.get! [xI x0, xI x1, xI x2, xI x3, xI x4, xI x5, x6, xI x7, xI x8, xI x9, xI x10, xI x11, xI x12, xI x13, xI x14, xI x15, xI x16]) : CpyRP x0 x1 x2 x3 x4 x5 x6 x7 x8 x9 x10 x11 x12 x13 x14 x15 x16 := by
 unfold CpyRP
 intro A
 have gv : validG ⟨(bxI x0 x1 x2 x3 x4 x5), lstX deI x6⟩ = true := gp.1
 have gw := gv
 have gN := gp.2.1
 have gP := gp.2.2
 have hv : (bxI x0 x1 x2 x3 x4 x5).vol = (lstX deI x6).length := val_len gv
 have hV := vol_10 (b := (bxI x7 x8 x9 x10 x11 x12)) gN
 refine And.intro ?_ ?_
 ·intro h1
  have e : cpE (bxI x7 x8 x9 x10 x11 x12) x13 = 1 := if_neg h1
  refine ⟨⟨?_, by decide⟩, rngI e (by decide), trivial⟩
  show ((cpL (bxI x0 x1 x2 x3 x4 x5) (lstX deI x6) (bxI x0 x1 x2 x3 x4 x5) (lstX deI x6) (bxI x7 x8 x9 x10 x11 x12) x13 (x14, x15, x16)).length : Int) = 0
  unfold cpL
  rw [e]
  rfl
 intro h2 v3
 have ev : v3.i = (bxI x7 x8 x9 x10 x11 x12).vol := rfl
 refine And.intro ?_ ?_
 ·intro h5
  have e : cpE (bxI x7 x8 x9 x10 x11 x12) x13 = 2 := (if_pos h2).trans (if_pos h5)
  refine ⟨⟨?_, by decide⟩, rngI e (by decide), trivial⟩
  show ((cpL (bxI x0 x1 x2 x3 x4 x5) (lstX deI x6) (bxI x0 x1 x2 x3 x4 x5) (lstX deI x6) (bxI x7 x8 x9 x10 x11 x12) x13 (x14, x15, x16)).length : Int) = 0
  unfold cpL
  rw [e]
  rfl
 intro h6
 refine andI ?_ fun o7 => ?_
 ·exact ⟨⟨Int.le_refl _, vol_nn⟩, ⟨rfl, rfl, rfl, rfl, rfl, rfl⟩, rfl⟩
 intro x40 x41 x42 x43 x44 x45 x46 x47 h8 h9 h10 h11 h12 h13 h14 r15 p16
 obtain ⟨⟨i0, i1⟩, ⟨c0, c1, c2, c3, c4, c5⟩, i2⟩ := p16
 have eb : (⟨x41.i, x42.i, x43.i, x44.i, x45.i, x46.i⟩ : Bx) = (bxI x0 x1 x2 x3 x4 x5) := bx_ext c0 c1 c2 c3 c4 c5
 have i2 : lstX deI x47 = wtN (bxI x0 x1 x2 x3 x4 x5) (lstX deI x6) (bxI x0 x1 x2 x3 x4 x5) (lstX deI x6) (bxI x7 x8 x9 x10 x11 x12) x13 (x14, x15, x16) x40.i.toNat := i2
 have gx : validG ⟨(⟨x41.i, x42.i, x43.i, x44.i, x45.i, x46.i⟩ : Bx), lstX deI x47⟩ = true := by
  rw [eb, i2]
  exact wt_val gv (val_mat gw) _
 have i1 : x40.i ≤ (bxI x7 x8 x9 x10 x11 x12).vol := i1
 refine And.intro ?_ ?_
 ·intro h18 v19 v20 v21
  refine andI ?_ fun o22 => ?_
  ·exact ⟨nB_mono gN (by decide), nP_mono gP (by decide)⟩
  intro v23 v24 v25 v26
  refine andI ?_ fun o27 => ?_
  ·exact gx
  refine andI ?_ fun o28 => ?_
  ·exact gw
  refine andI ?_ fun o29 => ?_
  ·omega
  intro v30 v31 v32 v33 v34 v35 v36
  have er : lstX deI v36 = wtN (bxI x0 x1 x2 x3 x4 x5) (lstX deI x6) (bxI x0 x1 x2 x3 x4 x5) (lstX deI x6) (bxI x7 x8 x9 x10 x11 x12) x13 (x14, x15, x16) (x40.i + 1).toNat := by
   refine lst_rowI.trans ?_
   show setL (⟨x41.i, x42.i, x43.i, x44.i, x45.i, x46.i⟩ : Bx) (lstX deI x47) (pl2 (bxI x7 x8 x9 x10 x11 x12) x13 (x14, x15, x16) ((bxI x7 x8 x9 x10 x11 x12).at x40.i)).1 (getL (bxI x0 x1 x2 x3 x4 x5) (lstX deI x6) ((bxI x7 x8 x9 x10 x11 x12).at x40.i)) = _
   rw [eb, i2, toS7 h8.1]
   show _ = setL (bxI x0 x1 x2 x3 x4 x5) (wtN (bxI x0 x1 x2 x3 x4 x5) (lstX deI x6) (bxI x0 x1 x2 x3 x4 x5) (lstX deI x6) (bxI x7 x8 x9 x10 x11 x12) x13 (x14, x15, x16) x40.i.toNat) (pl2 (bxI x7 x8 x9 x10 x11 x12) x13 (x14, x15, x16) ((bxI x7 x8 x9 x10 x11 x12).at (x40.i.toNat : Nat))).1 (getL (bxI x0 x1 x2 x3 x4 x5) (lstX deI x6) ((bxI x7 x8 x9 x10 x11 x12).at (x40.i.toNat : Nat)))
   rw [Int.toNat_of_nonneg h8.1]
  refine andI ?_ fun o37 => ?_
  ·exact ⟨⟨show 0 ≤ x40.i + 1 by omega, show x40.i + 1 ≤ (bxI x7 x8 x9 x10 x11 x12).vol by omega⟩, ⟨c0, c1, c2, c3, c4, c5⟩, er⟩
  refine andI ?_ fun o38 => ?_
  ·show (bxI x7 x8 x9 x10 x11 x12).vol + 1 - (x40.i + 1) < (bxI x7 x8 x9 x10 x11 x12).vol + 1 - x40.i
   omega
  show 0 < (bxI x7 x8 x9 x10 x11 x12).vol + 1 - x40.i
  omega
 intro h39
 refine andI ?_ fun o40 => ?_
 ·exact ⟨gv, gx⟩
 intro v41
 have hc : cpE (bxI x7 x8 x9 x10 x11 x12) x13 = 0 := (if_pos h2).trans (if_neg h6)
 have ed : difL (bxI x0 x1 x2 x3 x4 x5) (lstX deI x6) (⟨x41.i, x42.i, x43.i, x44.i, x45.i, x46.i⟩ : Bx) (lstX deI x47) = cpL (bxI x0 x1 x2 x3 x4 x5) (lstX deI x6) (bxI x0 x1 x2 x3 x4 x5) (lstX deI x6) (bxI x7 x8 x9 x10 x11 x12) x13 (x14, x15, x16) := by
  rw [eb, i2, dif_wt hv h2 (by omega)]
  exact (if_pos hc).symm
 have hle := List.length_filterMap_le (difP (bxI x0 x1 x2 x3 x4 x5) (lstX deI x6) (⟨x41.i, x42.i, x43.i, x44.i, x45.i, x46.i⟩ : Bx) (lstX deI x47)) (List.range (lstX deI x6).length)
 have hle : (difL (bxI x0 x1 x2 x3 x4 x5) (lstX deI x6) (⟨x41.i, x42.i, x43.i, x44.i, x45.i, x46.i⟩ : Bx) (lstX deI x47)).length ≤ (List.range (lstX deI x6).length).length := hle
 rw [List.length_range, lstX_len] at hle
 have hi : v41.i = ((difL (bxI x0 x1 x2 x3 x4 x5) (lstX deI x6) (⟨x41.i, x42.i, x43.i, x44.i, x45.i, x46.i⟩ : Bx) (lstX deI x47)).length : Int) := rfl
 exact ⟨rowEq_of eqEl_C (by omega) (by omega) (lst_rowC.trans ed), rngI hc (by decide), trivial⟩
theorem kCpyR : RCtrOk Tryz.prog ρ0 cCpyR := by
 refine rctr_ofN (cf := cfG none [cVolR, cAtR] [cPlcR, cGetR, cSetR, cDifR] lpCpyR sumC) (cfG_ok ((keep0.cons kAtR nAtR).cons kVolR nVolR) ((((keepR0.cons kDifR nDifR).cons kSetR nSetR).cons kGetR nGetR).cons kPlcR nPlcR) noF) Tryz.func11 rfl 600 rfl (sh := shCpy) (by kernel_rfl) cpy_rsh fun ds hr hp => ?_
 have hr := rshX_flat hr
 match ds, hr, hp with
 | [d0, d1, d2, d3, d4, d5, d6, d7, d8, d9, d10, d11, d12, d13, d14, d15, d16], hr, hp =>
  obtain ⟨⟨e0, l0, u0⟩, ⟨e1, l1, u1⟩, ⟨e2, l2, u2⟩, ⟨e3, l3, u3⟩, ⟨e4, l4, u4⟩, ⟨e5, l5, u5⟩, l6, ⟨e7, l7, u7⟩, ⟨e8, l8, u8⟩, ⟨e9, l9, u9⟩, ⟨e10, l10, u10⟩, ⟨e11, l11, u11⟩, ⟨e12, l12, u12⟩, ⟨e13, l13, u13⟩, ⟨e14, l14, u14⟩, ⟨e15, l15, u15⟩, ⟨e16, l16, u16⟩, _⟩ := hr
  generalize d0.i = x0, d1.i = x1, d2.i = x2, d3.i = x3, d4.i = x4, d5.i = x5, d6 = x6, d7.i = x7, d8.i = x8, d9.i = x9, d10.i = x10, d11.i = x11, d12.i = x12, d13.i = x13, d14.i = x14, d15.i = x15, d16.i = x16 at *
  subst e0 e1 e2 e3 e4 e5 e7 e8 e9 e10 e11 e12 e13 e14 e15 e16
  exact Eq.mpr (CpyRL x0 x1 x2 x3 x4 x5 x6 x7 x8 x9 x10 x11 x12 x13 x14 x15 x16) (CpyRO x0 x1 x2 x3 x4 x5 x6 x7 x8 x9 x10 x11 x12 x13 x14 x15 x16 ⟨l0, u0⟩ ⟨l1, u1⟩ ⟨l2, u2⟩ ⟨l3, u3⟩ ⟨l4, u4⟩ ⟨l5, u5⟩ l6 ⟨l7, u7⟩ ⟨l8, u8⟩ ⟨l9, u9⟩ ⟨l10, u10⟩ ⟨l11, u11⟩ ⟨l12, u12⟩ ⟨l13, u13⟩ ⟨l14, u14⟩ ⟨l15, u15⟩ ⟨l16, u16⟩ hp)
theorem nCpyR : Hs cCpyR.f := ⟨_, Tryz.func11, by kernel_rfl, by kernel_rfl⟩
def StmRP (x0 x1 x2 x3 x4 x5 : Int) (x6 : X) (x7 x8 x9 x10 x11 x12 : Int) (x13 : X) (x14 x15 x16 x17 : Int) : Prop :=
 let A := [xI x0, xI x1, xI x2, xI x3, xI x4, xI x5, x6, xI x7, xI x8, xI x9, xI x10, xI x11, xI x12, x13, xI x14, xI x15, xI x16, xI x17]; (((¬ ((0 ≤ x14) ∧ (x14 < 48))) →
(((Ff 1032 A).i = 0 ∧ 0 ≤ (2097152 : Int)) ∧ ((rI 1 (Ff 1033 A).i 0 2) ∧ True))) ∧
(((0 ≤ x14) ∧ (x14 < 48)) →
(Px 1098 [xI x0, xI x1, xI x2, xI x3, xI x4, xI x5, x6, xI x7, xI x8, xI x9, xI x10, xI x11, xI x12, x13, xI x7, xI x8, xI x9, xI x10, xI x11, xI x12, xI x14, xI x15, xI x16, xI x17, xI 0, xI x0, xI x1, xI x2, xI x3, xI x4, xI x5, x6] ∧
(∀ x40 : X, (∀ x41 : X, (∀ x42 : X, (∀ x43 : X, (∀ x44 : X, (∀ x45 : X, (∀ x46 : X, (∀ x47 : X, (((0 ≤ x40.i) ∧ (x40.i ≤ 9000000000000)) →
((((-1048575) ≤ x41.i) ∧ (x41.i ≤ 1048575)) →
((((-1048575) ≤ x42.i) ∧ (x42.i ≤ 1048575)) →
((((-1048575) ≤ x43.i) ∧ (x43.i ≤ 1048575)) →
((((-1048575) ≤ x44.i) ∧ (x44.i ≤ 1048575)) →
((((-1048575) ≤ x45.i) ∧ (x45.i ≤ 1048575)) →
((((-1048575) ≤ x46.i) ∧ (x46.i ≤ 1048575)) →
((0 ≤ x47.i ∧ x47.i ≤ 2097152 ∧ RowOk SMat x47.r (x47.i).toNat) →
(Px 1098 [xI x0, xI x1, xI x2, xI x3, xI x4, xI x5, x6, xI x7, xI x8, xI x9, xI x10, xI x11, xI x12, x13, xI x7, xI x8, xI x9, xI x10, xI x11, xI x12, xI x14, xI x15, xI x16, xI x17, x40, x41, x42, x43, x44, x45, x46, x47] →
(let v13 := Ff 210 [xI x7, xI x8, xI x9, xI x10, xI x11, xI x12]; (((x40.i < v13.i) →
(let v16 := Ff 270 [xI x7, xI x8, xI x9, xI x10, xI x11, xI x12, xI x40.i]; let v17 := Ff 271 [xI x7, xI x8, xI x9, xI x10, xI x11, xI x12, xI x40.i]; let v18 := Ff 272 [xI x7, xI x8, xI x9, xI x10, xI x11, xI x12, xI x40.i]; (Px 1081 [xI x7, xI x8, xI x9, xI x10, xI x11, xI x12, xI x14, xI x15, xI x16, xI x17, xI v16.i, xI v17.i, xI v18.i] ∧
(let v20 := Ff 1010 [xI x7, xI x8, xI x9, xI x10, xI x11, xI x12, xI x14, xI x15, xI x16, xI x17, xI v16.i, xI v17.i, xI v18.i]; let v21 := Ff 1011 [xI x7, xI x8, xI x9, xI x10, xI x11, xI x12, xI x14, xI x15, xI x16, xI x17, xI v16.i, xI v17.i, xI v18.i]; let v22 := Ff 1012 [xI x7, xI x8, xI x9, xI x10, xI x11, xI x12, xI x14, xI x15, xI x16, xI x17, xI v16.i, xI v17.i, xI v18.i]; let v23 := Ff 908 [xI x7, xI x8, xI x9, xI x10, xI x11, xI x12, x13, xI v16.i, xI v17.i, xI v18.i]; (Px 710 [xI x41.i, xI x42.i, xI x43.i, xI x44.i, xI x45.i, xI x46.i, x47, xI v20.i, xI v21.i, xI v22.i, xI v23.i] ∧
(Px 710 [xI x7, xI x8, xI x9, xI x10, xI x11, xI x12, x13, xI v16.i, xI v17.i, xI v18.i] ∧
(((x40.i + 1) ≤ 9000000000000) ∧
(let v27 := Ff 701 [xI x41.i, xI x42.i, xI x43.i, xI x44.i, xI x45.i, xI x46.i, x47, xI v20.i, xI v21.i, xI v22.i, xI v23.i]; let v28 := Ff 702 [xI x41.i, xI x42.i, xI x43.i, xI x44.i, xI x45.i, xI x46.i, x47, xI v20.i, xI v21.i, xI v22.i, xI v23.i]; let v29 := Ff 703 [xI x41.i, xI x42.i, xI x43.i, xI x44.i, xI x45.i, xI x46.i, x47, xI v20.i, xI v21.i, xI v22.i, xI v23.i]; let v30 := Ff 704 [xI x41.i, xI x42.i, xI x43.i, xI x44.i, xI x45.i, xI x46.i, x47, xI v20.i, xI v21.i, xI v22.i, xI v23.i]; let v31 := Ff 705 [xI x41.i, xI x42.i, xI x43.i, xI x44.i, xI x45.i, xI x46.i, x47, xI v20.i, xI v21.i, xI v22.i, xI v23.i]; let v32 := Ff 706 [xI x41.i, xI x42.i, xI x43.i, xI x44.i, xI x45.i, xI x46.i, x47, xI v20.i, xI v21.i, xI v22.i, xI v23.i]; let v33 := Ff 707 [xI x41.i, xI x42.i, xI x43.i, xI x44.i, xI x45.i, xI x46.i, x47, xI v20.i, xI v21.i, xI v22.i, xI v23.i]; (Px 1098 [xI x0, xI x1, xI x2, xI x3, xI x4, xI x5, x6, xI x7, xI x8, xI x9, xI x10, xI x11, xI x12, x13, xI x7, xI x8, xI x9, xI x10, xI x11, xI x12, xI x14, xI x15, xI x16, xI x17, (xI (x40.i + 1)), xI v27.i, xI v28.i, xI v29.i, xI v30.i, xI v31.i, xI v32.i, v33] ∧
(((Ff 1098 [xI x0, xI x1, xI x2, xI x3, xI x4, xI x5, x6, xI x7, xI x8, xI x9, xI x10, xI x11, xI x12, x13, xI x7, xI x8, xI x9, xI x10, xI x11, xI x12, xI x14, xI x15, xI x16, xI x17, (xI (x40.i + 1)), xI v27.i, xI v28.i, xI v29.i, xI v30.i, xI v31.i, xI v32.i, v33]).i < (Ff 1098 [xI x0, xI x1, xI x2, xI x3, xI x4, xI x5, x6, xI x7, xI x8, xI x9, xI x10, xI x11, xI x12, x13, xI x7, xI x8, xI x9, xI x10, xI x11, xI x12, xI x14, xI x15, xI x16, xI x17, x40, x41, x42, x43, x44, x45, x46, x47]).i) ∧
(0 < (Ff 1098 [xI x0, xI x1, xI x2, xI x3, xI x4, xI x5, x6, xI x7, xI x8, xI x9, xI x10, xI x11, xI x12, x13, xI x7, xI x8, xI x9, xI x10, xI x11, xI x12, xI x14, xI x15, xI x16, xI x17, x40, x41, x42, x43, x44, x45, x46, x47]).i))))))))))) ∧
((¬ (x40.i < v13.i)) →
(Px 711 [xI x0, xI x1, xI x2, xI x3, xI x4, xI x5, x6, xI x41.i, xI x42.i, xI x43.i, xI x44.i, xI x45.i, xI x46.i, x47] ∧
(let v38 := Ff 950 [xI x0, xI x1, xI x2, xI x3, xI x4, xI x5, x6, xI x41.i, xI x42.i, xI x43.i, xI x44.i, xI x45.i, xI x46.i, x47]; ((rowEq SCc (Ff 1032 A) v38.r v38.i 2097152) ∧ ((rI 0 (Ff 1033 A).i 0 2) ∧ True)))))))))))))))))))))))))))
theorem StmRL (x0 x1 x2 x3 x4 x5 : Int) (x6 : X) (x7 x8 x9 x10 x11 x12 : Int) (x13 : X) (x14 x15 x16 x17 : Int) : (ctrR (fun j => Ff j [xI x0, xI x1, xI x2, xI x3, xI x4, xI x5, x6, xI x7, xI x8, xI x9, xI x10, xI x11, xI x12, x13, xI x14, xI x15, xI x16, xI x17]) cStmR.fs cStmR.res { ρ0 with x := fun j => [xI x0, xI x1, xI x2, xI x3, xI x4, xI x5, x6, xI x7, xI x8, xI x9, xI x10, xI x11, xI x12, x13, xI x14, xI x15, xI x16, xI x17].getD j (xI 0) } (walkR Tryz.prog (cfG none [cVolR, cAtR] [cPlcR, cGetR, cSetR, cDifR] lpStmR sumC) Tryz.f13 600 shStm2)) = StmRP x0 x1 x2 x3 x4 x5 x6 x7 x8 x9 x10 x11 x12 x13 x14 x15 x16 x17 := by kernel_rfl
set_option maxHeartbeats 4000000 in
theorem StmRO (x0 x1 x2 x3 x4 x5 : Int) (x6 : X) (x7 x8 x9 x10 x11 x12 : Int) (x13 : X) (x14 x15 x16 x17 : Int) (g0 : -1048575 ≤ x0 ∧ x0 ≤ 1048575) (g1 : -1048575 ≤ x1 ∧ x1 ≤ 1048575) (g2 : -1048575 ≤ x2 ∧ x2 ≤ 1048575) (g3 : -1048575 ≤ x3 ∧ x3 ≤ 1048575) (g4 : -1048575 ≤ x4 ∧ x4 ≤ 1048575) (g5 : -1048575 ≤ x5 ∧ x5 ≤ 1048575) (g6 : 0 ≤ x6.i ∧ x6.i ≤ 2097152 ∧ RowOk SMat x6.r x6.i.toNat) (g7 : -10000 ≤ x7 ∧ x7 ≤ 10000) (g8 : -10000 ≤ x8 ∧ x8 ≤ 10000) (g9 : -10000 ≤ x9 ∧ x9 ≤ 10000) (g10 : -10000 ≤ x10 ∧ x10 ≤ 10000) (g11 : -10000 ≤ x11 ∧ x11 ≤ 10000) (g12 : -10000 ≤ x12 ∧ x12 ≤ 10000) (g13 : 0 ≤ x13.i ∧ x13.i ≤ 2097152 ∧ RowOk SMat x13.r x13.i.toNat) (g14 : -9223372036854775808 ≤ x14 ∧ x14 ≤ 9223372036854775807) (g15 : -10000 ≤ x15 ∧ x15 ≤ 10000) (g16 : -10000 ≤ x16 ∧ x16 ≤ 10000) (g17 : -10000 ≤ x17 ∧ x17 ≤ 10000) (gp : Px cStmR.pre.get! [xI x0, xI x1, xI x2, xI x3, xI x4, xI x5, x6, xI x7, xI x8, xI x9, xI x10, xI x11, xI x12, x13, xI x14, xI x15, xI x16, xI x17]) : StmRP x0 x1 x2 x3 x4 x5 x6 x7 x8 x9 x10 x11 x12 x13 x14 x15 x16 x17 := by
 unfold StmRP
 intro A
 have gv : validG ⟨(bxI x0 x1 x2 x3 x4 x5), lstX deI x6⟩ = true := gp.1
 have gw : validG ⟨(bxI x7 x8 x9 x10 x11 x12), lstX deI x13⟩ = true := gp.2.1
 have gN := gp.2.2.1
 have gP := gp.2.2.2
 have hS := val_vol gw
 have hv : (bxI x0 x1 x2 x3 x4 x5).vol = (lstX deI x6).length := val_len gv
 have hV := vol_10 (b := (bxI x7 x8 x9 x10 x11 x12)) gN
 refine And.intro ?_ ?_
 ·intro h1
  have e : cpE (bxI x7 x8 x9 x10 x11 x12) x14 = 1 := if_neg h1
  refine ⟨⟨?_, by decide⟩, rngI e (by decide), trivial⟩
  show ((cpL (bxI x0 x1 x2 x3 x4 x5) (lstX deI x6) (bxI x7 x8 x9 x10 x11 x12) (lstX deI x13) (bxI x7 x8 x9 x10 x11 x12) x14 (x15, x16, x17)).length : Int) = 0
  unfold cpL
  rw [e]
  rfl
 intro h2
 refine andI ?_ fun o3 => ?_
 ·exact ⟨⟨Int.le_refl _, vol_nn⟩, ⟨rfl, rfl, rfl, rfl, rfl, rfl⟩, rfl⟩
 intro x40 x41 x42 x43 x44 x45 x46 x47 h4 h5 h6 h7 h8 h9 h10 r11 p12
 obtain ⟨⟨i0, i1⟩, ⟨c0, c1, c2, c3, c4, c5⟩, i2⟩ := p12
 have eb : (⟨x41.i, x42.i, x43.i, x44.i, x45.i, x46.i⟩ : Bx) = (bxI x0 x1 x2 x3 x4 x5) := bx_ext c0 c1 c2 c3 c4 c5
 have i2 : lstX deI x47 = wtN (bxI x0 x1 x2 x3 x4 x5) (lstX deI x6) (bxI x7 x8 x9 x10 x11 x12) (lstX deI x13) (bxI x7 x8 x9 x10 x11 x12) x14 (x15, x16, x17) x40.i.toNat := i2
 have gx : validG ⟨(⟨x41.i, x42.i, x43.i, x44.i, x45.i, x46.i⟩ : Bx), lstX deI x47⟩ = true := by
  rw [eb, i2]
  exact wt_val gv (val_mat gw) _
 have i1 : x40.i ≤ (bxI x7 x8 x9 x10 x11 x12).vol := i1
 intro v13
 have ev : v13.i = (bxI x7 x8 x9 x10 x11 x12).vol := rfl
 refine And.intro ?_ ?_
 ·intro h15 v16 v17 v18
  refine andI ?_ fun o19 => ?_
  ·exact ⟨nB_mono gN (by decide), nP_mono gP (by decide)⟩
  intro v20 v21 v22 v23
  refine andI ?_ fun o24 => ?_
  ·exact gx
  refine andI ?_ fun o25 => ?_
  ·exact gw
  refine andI ?_ fun o26 => ?_
  ·omega
  intro v27 v28 v29 v30 v31 v32 v33
  have er : lstX deI v33 = wtN (bxI x0 x1 x2 x3 x4 x5) (lstX deI x6) (bxI x7 x8 x9 x10 x11 x12) (lstX deI x13) (bxI x7 x8 x9 x10 x11 x12) x14 (x15, x16, x17) (x40.i + 1).toNat := by
   refine lst_rowI.trans ?_
   show setL (⟨x41.i, x42.i, x43.i, x44.i, x45.i, x46.i⟩ : Bx) (lstX deI x47) (pl2 (bxI x7 x8 x9 x10 x11 x12) x14 (x15, x16, x17) ((bxI x7 x8 x9 x10 x11 x12).at x40.i)).1 (getL (bxI x7 x8 x9 x10 x11 x12) (lstX deI x13) ((bxI x7 x8 x9 x10 x11 x12).at x40.i)) = _
   rw [eb, i2, toS7 h4.1]
   show _ = setL (bxI x0 x1 x2 x3 x4 x5) (wtN (bxI x0 x1 x2 x3 x4 x5) (lstX deI x6) (bxI x7 x8 x9 x10 x11 x12) (lstX deI x13) (bxI x7 x8 x9 x10 x11 x12) x14 (x15, x16, x17) x40.i.toNat) (pl2 (bxI x7 x8 x9 x10 x11 x12) x14 (x15, x16, x17) ((bxI x7 x8 x9 x10 x11 x12).at (x40.i.toNat : Nat))).1 (getL (bxI x7 x8 x9 x10 x11 x12) (lstX deI x13) ((bxI x7 x8 x9 x10 x11 x12).at (x40.i.toNat : Nat)))
   rw [Int.toNat_of_nonneg h4.1]
  refine andI ?_ fun o34 => ?_
  ·exact ⟨⟨show 0 ≤ x40.i + 1 by omega, show x40.i + 1 ≤ (bxI x7 x8 x9 x10 x11 x12).vol by omega⟩, ⟨c0, c1, c2, c3, c4, c5⟩, er⟩
  refine andI ?_ fun o35 => ?_
  ·show (bxI x7 x8 x9 x10 x11 x12).vol + 1 - (x40.i + 1) < (bxI x7 x8 x9 x10 x11 x12).vol + 1 - x40.i
   omega
  show 0 < (bxI x7 x8 x9 x10 x11 x12).vol + 1 - x40.i
  omega
 intro h36
 refine andI ?_ fun o37 => ?_
 ·exact ⟨gv, gx⟩
 intro v38
 have hc : cpE (bxI x7 x8 x9 x10 x11 x12) x14 = 0 := (if_pos h2).trans (if_neg (by omega))
 have ed : difL (bxI x0 x1 x2 x3 x4 x5) (lstX deI x6) (⟨x41.i, x42.i, x43.i, x44.i, x45.i, x46.i⟩ : Bx) (lstX deI x47) = cpL (bxI x0 x1 x2 x3 x4 x5) (lstX deI x6) (bxI x7 x8 x9 x10 x11 x12) (lstX deI x13) (bxI x7 x8 x9 x10 x11 x12) x14 (x15, x16, x17) := by
  rw [eb, i2, dif_wt hv h2 (by omega)]
  exact (if_pos hc).symm
 have hle := List.length_filterMap_le (difP (bxI x0 x1 x2 x3 x4 x5) (lstX deI x6) (⟨x41.i, x42.i, x43.i, x44.i, x45.i, x46.i⟩ : Bx) (lstX deI x47)) (List.range (lstX deI x6).length)
 have hle : (difL (bxI x0 x1 x2 x3 x4 x5) (lstX deI x6) (⟨x41.i, x42.i, x43.i, x44.i, x45.i, x46.i⟩ : Bx) (lstX deI x47)).length ≤ (List.range (lstX deI x6).length).length := hle
 rw [List.length_range, lstX_len] at hle
 have hi : v38.i = ((difL (bxI x0 x1 x2 x3 x4 x5) (lstX deI x6) (⟨x41.i, x42.i, x43.i, x44.i, x45.i, x46.i⟩ : Bx) (lstX deI x47)).length : Int) := rfl
 exact ⟨rowEq_of eqEl_C (by omega) (by omega) (lst_rowC.trans ed), rngI hc (by decide), trivial⟩
theorem kStmR : RCtrOk Tryz.prog ρ0 cStmR := by
 refine rctr_ofN (cf := cfG none [cVolR, cAtR] [cPlcR, cGetR, cSetR, cDifR] lpStmR sumC) (cfG_ok ((keep0.cons kAtR nAtR).cons kVolR nVolR) ((((keepR0.cons kDifR nDifR).cons kSetR nSetR).cons kGetR nGetR).cons kPlcR nPlcR) noF) Tryz.func13 rfl 600 rfl (sh := shStm2) (by kernel_rfl) stm_rsh fun ds hr hp => ?_
 have hr := rshX_flat hr
 match ds, hr, hp with
 | [d0, d1, d2, d3, d4, d5, d6, d7, d8, d9, d10, d11, d12, d13, d14, d15, d16, d17], hr, hp =>
  obtain ⟨⟨e0, l0, u0⟩, ⟨e1, l1, u1⟩, ⟨e2, l2, u2⟩, ⟨e3, l3, u3⟩, ⟨e4, l4, u4⟩, ⟨e5, l5, u5⟩, l6, ⟨e7, l7, u7⟩, ⟨e8, l8, u8⟩, ⟨e9, l9, u9⟩, ⟨e10, l10, u10⟩, ⟨e11, l11, u11⟩, ⟨e12, l12, u12⟩, l13, ⟨e14, l14, u14⟩, ⟨e15, l15, u15⟩, ⟨e16, l16, u16⟩, ⟨e17, l17, u17⟩, _⟩ := hr
  generalize d0.i = x0, d1.i = x1, d2.i = x2, d3.i = x3, d4.i = x4, d5.i = x5, d6 = x6, d7.i = x7, d8.i = x8, d9.i = x9, d10.i = x10, d11.i = x11, d12.i = x12, d13 = x13, d14.i = x14, d15.i = x15, d16.i = x16, d17.i = x17 at *
  subst e0 e1 e2 e3 e4 e5 e7 e8 e9 e10 e11 e12 e14 e15 e16 e17
  exact Eq.mpr (StmRL x0 x1 x2 x3 x4 x5 x6 x7 x8 x9 x10 x11 x12 x13 x14 x15 x16 x17) (StmRO x0 x1 x2 x3 x4 x5 x6 x7 x8 x9 x10 x11 x12 x13 x14 x15 x16 x17 ⟨l0, u0⟩ ⟨l1, u1⟩ ⟨l2, u2⟩ ⟨l3, u3⟩ ⟨l4, u4⟩ ⟨l5, u5⟩ l6 ⟨l7, u7⟩ ⟨l8, u8⟩ ⟨l9, u9⟩ ⟨l10, u10⟩ ⟨l11, u11⟩ ⟨l12, u12⟩ l13 ⟨l14, u14⟩ ⟨l15, u15⟩ ⟨l16, u16⟩ ⟨l17, u17⟩ hp)
theorem nStmR : Hs cStmR.f := ⟨_, Tryz.func13, by kernel_rfl, by kernel_rfl⟩
def RepRP (x0 x1 x2 x3 x4 x5 : Int) (x6 : X) (x7 x8 x9 x10 x11 x12 : Int) (x13 : X) (x14 x15 x16 x17 x18 x19 : Int) : Prop :=
 let A := [xI x0, xI x1, xI x2, xI x3, xI x4, xI x5, x6, xI x7, xI x8, xI x9, xI x10, xI x11, xI x12, x13, xI x14, xI x15, xI x16, xI x17, xI x18, xI x19]; (((x13.i = 0) →
(((Ff 1034 A).i = 0 ∧ 0 ≤ (2097152 : Int)) ∧ ((rI 1 (Ff 1035 A).i 0 2) ∧ True))) ∧
((¬ (x13.i = 0)) →
(Px 1099 (A ++ [xI 0, xI x0, xI x1, xI x2, xI x3, xI x4, xI x5, x6]) ∧
(∀ x40 : X, (∀ x41 : X, (∀ x42 : X, (∀ x43 : X, (∀ x44 : X, (∀ x45 : X, (∀ x46 : X, (∀ x47 : X, (((0 ≤ x40.i) ∧ (x40.i ≤ 2097152)) →
((((-1048575) ≤ x41.i) ∧ (x41.i ≤ 1048575)) →
((((-1048575) ≤ x42.i) ∧ (x42.i ≤ 1048575)) →
((((-1048575) ≤ x43.i) ∧ (x43.i ≤ 1048575)) →
((((-1048575) ≤ x44.i) ∧ (x44.i ≤ 1048575)) →
((((-1048575) ≤ x45.i) ∧ (x45.i ≤ 1048575)) →
((((-1048575) ≤ x46.i) ∧ (x46.i ≤ 1048575)) →
((0 ≤ x47.i ∧ x47.i ≤ 2097152 ∧ RowOk SMat x47.r (x47.i).toNat) →
(Px 1099 (A ++ [x40, x41, x42, x43, x44, x45, x46, x47]) →
(let v13 := Ff 210 [xI x0, xI x1, xI x2, xI x3, xI x4, xI x5]; (((x40.i < v13.i) →
(let v16 := Ff 270 [xI x0, xI x1, xI x2, xI x3, xI x4, xI x5, xI x40.i]; let v17 := Ff 271 [xI x0, xI x1, xI x2, xI x3, xI x4, xI x5, xI x40.i]; let v18 := Ff 272 [xI x0, xI x1, xI x2, xI x3, xI x4, xI x5, xI x40.i]; ((((((x14 ≤ v16.i) ∧ (v16.i < x17)) ∧ ((x15 ≤ v17.i) ∧ (v17.i < x18))) ∧ ((x16 ≤ v18.i) ∧ (v18.i < x19))) →
(let v21 := Ff 207 [xI x7, xI x8, xI x9, xI x10, xI x11, xI x12]; ((0 < v21.i) ∧
((0 ≤ (v18.i - x16)) ∧
(let v24 := Ff 206 [xI x7, xI x8, xI x9, xI x10, xI x11, xI x12]; ((0 < v24.i) ∧
((0 ≤ (v17.i - x15)) ∧
(let v27 := Ff 205 [xI x7, xI x8, xI x9, xI x10, xI x11, xI x12]; ((0 < v27.i) ∧
((0 ≤ (v16.i - x14)) ∧
(let v30 := Ff 908 [xI x7, xI x8, xI x9, xI x10, xI x11, xI x12, x13, (xI (x7 + ((v16.i - x14) % v27.i))), (xI (x8 + ((v17.i - x15) % v24.i))), (xI (x9 + ((v18.i - x16) % v21.i)))]; (Px 710 [xI x41.i, xI x42.i, xI x43.i, xI x44.i, xI x45.i, xI x46.i, x47, xI v16.i, xI v17.i, xI v18.i, xI v30.i] ∧
(((x7 + ((v16.i - x14) % v27.i)) ≤ 1048576) ∧
(((x8 + ((v17.i - x15) % v24.i)) ≤ 1048576) ∧
(((x9 + ((v18.i - x16) % v21.i)) ≤ 1048576) ∧
(Px 710 [xI x7, xI x8, xI x9, xI x10, xI x11, xI x12, x13, (xI (x7 + ((v16.i - x14) % v27.i))), (xI (x8 + ((v17.i - x15) % v24.i))), (xI (x9 + ((v18.i - x16) % v21.i)))] ∧
(((x40.i + 1) ≤ 2097152) ∧
(let v37 := Ff 701 [xI x41.i, xI x42.i, xI x43.i, xI x44.i, xI x45.i, xI x46.i, x47, xI v16.i, xI v17.i, xI v18.i, xI v30.i]; let v38 := Ff 702 [xI x41.i, xI x42.i, xI x43.i, xI x44.i, xI x45.i, xI x46.i, x47, xI v16.i, xI v17.i, xI v18.i, xI v30.i]; let v39 := Ff 703 [xI x41.i, xI x42.i, xI x43.i, xI x44.i, xI x45.i, xI x46.i, x47, xI v16.i, xI v17.i, xI v18.i, xI v30.i]; let v40 := Ff 704 [xI x41.i, xI x42.i, xI x43.i, xI x44.i, xI x45.i, xI x46.i, x47, xI v16.i, xI v17.i, xI v18.i, xI v30.i]; let v41 := Ff 705 [xI x41.i, xI x42.i, xI x43.i, xI x44.i, xI x45.i, xI x46.i, x47, xI v16.i, xI v17.i, xI v18.i, xI v30.i]; let v42 := Ff 706 [xI x41.i, xI x42.i, xI x43.i, xI x44.i, xI x45.i, xI x46.i, x47, xI v16.i, xI v17.i, xI v18.i, xI v30.i]; let v43 := Ff 707 [xI x41.i, xI x42.i, xI x43.i, xI x44.i, xI x45.i, xI x46.i, x47, xI v16.i, xI v17.i, xI v18.i, xI v30.i]; (Px 1099 (A ++ [(xI (x40.i + 1)), xI v37.i, xI v38.i, xI v39.i, xI v40.i, xI v41.i, xI v42.i, v43]) ∧
(((Ff 1099 (A ++ [(xI (x40.i + 1)), xI v37.i, xI v38.i, xI v39.i, xI v40.i, xI v41.i, xI v42.i, v43])).i < (Ff 1099 (A ++ [x40, x41, x42, x43, x44, x45, x46, x47])).i) ∧
(0 < (Ff 1099 (A ++ [x40, x41, x42, x43, x44, x45, x46, x47])).i))))))))))))))))))))) ∧
((¬ ((((x14 ≤ v16.i) ∧ (v16.i < x17)) ∧ ((x15 ≤ v17.i) ∧ (v17.i < x18))) ∧ ((x16 ≤ v18.i) ∧ (v18.i < x19)))) →
(((x40.i + 1) ≤ 2097152) ∧
(Px 1099 (A ++ [(xI (x40.i + 1)), xI x41.i, xI x42.i, xI x43.i, xI x44.i, xI x45.i, xI x46.i, x47]) ∧
(((Ff 1099 (A ++ [(xI (x40.i + 1)), xI x41.i, xI x42.i, xI x43.i, xI x44.i, xI x45.i, xI x46.i, x47])).i < (Ff 1099 (A ++ [x40, x41, x42, x43, x44, x45, x46, x47])).i) ∧
(0 < (Ff 1099 (A ++ [x40, x41, x42, x43, x44, x45, x46, x47])).i)))))))) ∧
((¬ (x40.i < v13.i)) →
(Px 711 [xI x0, xI x1, xI x2, xI x3, xI x4, xI x5, x6, xI x41.i, xI x42.i, xI x43.i, xI x44.i, xI x45.i, xI x46.i, x47] ∧
(let v52 := Ff 950 [xI x0, xI x1, xI x2, xI x3, xI x4, xI x5, x6, xI x41.i, xI x42.i, xI x43.i, xI x44.i, xI x45.i, xI x46.i, x47]; ((rowEq SCc (Ff 1034 A) v52.r v52.i 2097152) ∧ ((rI 0 (Ff 1035 A).i 0 2) ∧ True)))))))))))))))))))))))))))
theorem RepRL (x0 x1 x2 x3 x4 x5 : Int) (x6 : X) (x7 x8 x9 x10 x11 x12 : Int) (x13 : X) (x14 x15 x16 x17 x18 x19 : Int) : (ctrR (fun j => Ff j [xI x0, xI x1, xI x2, xI x3, xI x4, xI x5, x6, xI x7, xI x8, xI x9, xI x10, xI x11, xI x12, x13, xI x14, xI x15, xI x16, xI x17, xI x18, xI x19]) cRepR.fs cRepR.res { ρ0 with x := fun j => [xI x0, xI x1, xI x2, xI x3, xI x4, xI x5, x6, xI x7, xI x8, xI x9, xI x10, xI x11, xI x12, x13, xI x14, xI x15, xI x16, xI x17, xI x18, xI x19].getD j (xI 0) } (walkR Tryz.prog (cfG none [cVolR, cAtR, cSizeR] [cGetR, cSetR, cDifR] lpRepR sumC) Tryz.f15 600 shRep)) = RepRP x0 x1 x2 x3 x4 x5 x6 x7 x8 x9 x10 x11 x12 x13 x14 x15 x16 x17 x18 x19 := by kernel_rfl
set_option maxHeartbeats 4000000 in
theorem RepRO (x0 x1 x2 x3 x4 x5 : Int) (x6 : X) (x7 x8 x9 x10 x11 x12 : Int) (x13 : X) (x14 x15 x16 x17 x18 x19 : Int) (g0 : -1048575 ≤ x0 ∧ x0 ≤ 1048575) (g1 : -1048575 ≤ x1 ∧ x1 ≤ 1048575) (g2 : -1048575 ≤ x2 ∧ x2 ≤ 1048575) (g3 : -1048575 ≤ x3 ∧ x3 ≤ 1048575) (g4 : -1048575 ≤ x4 ∧ x4 ≤ 1048575) (g5 : -1048575 ≤ x5 ∧ x5 ≤ 1048575) (g6 : 0 ≤ x6.i ∧ x6.i ≤ 2097152 ∧ RowOk SMat x6.r x6.i.toNat) (g7 : -10000 ≤ x7 ∧ x7 ≤ 10000) (g8 : -10000 ≤ x8 ∧ x8 ≤ 10000) (g9 : -10000 ≤ x9 ∧ x9 ≤ 10000) (g10 : -10000 ≤ x10 ∧ x10 ≤ 10000) (g11 : -10000 ≤ x11 ∧ x11 ≤ 10000) (g12 : -10000 ≤ x12 ∧ x12 ≤ 10000) (g13 : 0 ≤ x13.i ∧ x13.i ≤ 2097152 ∧ RowOk SMat x13.r x13.i.toNat) (g14 : -10000 ≤ x14 ∧ x14 ≤ 10000) (g15 : -10000 ≤ x15 ∧ x15 ≤ 10000) (g16 : -10000 ≤ x16 ∧ x16 ≤ 10000) (g17 : -10000 ≤ x17 ∧ x17 ≤ 10000) (g18 : -10000 ≤ x18 ∧ x18 ≤ 10000) (g19 : -10000 ≤ x19 ∧ x19 ≤ 10000) (gp : Px cRepR.pre.get! [xI x0, xI x1, xI x2, xI x3, xI x4, xI x5, x6, xI x7, xI x8, xI x9, xI x10, xI x11, xI x12, x13, xI x14, xI x15, xI x16, xI x17, xI x18, xI x19]) : RepRP x0 x1 x2 x3 x4 x5 x6 x7 x8 x9 x10 x11 x12 x13 x14 x15 x16 x17 x18 x19 := by
 unfold RepRP
 intro A
 have gv : validG ⟨(bxI x0 x1 x2 x3 x4 x5), lstX deI x6⟩ = true := gp.1
 have gw : validG ⟨(bxI x7 x8 x9 x10 x11 x12), lstX deI x13⟩ = true := gp.2.1
 have hv : (bxI x0 x1 x2 x3 x4 x5).vol = (lstX deI x6).length := val_len gv
 have hw : (bxI x7 x8 x9 x10 x11 x12).vol = (lstX deI x13).length := val_len gw
 have hv' := hv
 rw [lstX_len] at hv' hw
 refine And.intro ?_ ?_
 ·intro h1
  have e : rpE (lstX deI x13) = 1 := if_pos (by rw [lstX_len]; omega)
  refine ⟨⟨?_, by decide⟩, rngI e (by decide), trivial⟩
  show ((rqL (bxI x0 x1 x2 x3 x4 x5) (lstX deI x6) (bxI x7 x8 x9 x10 x11 x12) (lstX deI x13) (bxI x14 x15 x16 x17 x18 x19)).length : Int) = 0
  unfold rqL
  rw [e]
  rfl
 intro h2
 have hn : neX (bxI x7 x8 x9 x10 x11 x12) := ne_of_vol (by omega)
 have hn0 : x7 < x10 ∧ x8 < x11 ∧ x9 < x12 := hn
 refine andI ?_ fun o3 => ?_
 ·exact ⟨⟨Int.le_refl _, g6.1⟩, ⟨rfl, rfl, rfl, rfl, rfl, rfl⟩, rfl⟩
 intro x40 x41 x42 x43 x44 x45 x46 x47 h4 h5 h6 h7 h8 h9 h10 r11 p12
 obtain ⟨⟨i0, i1⟩, ⟨c0, c1, c2, c3, c4, c5⟩, i2⟩ := p12
 have eb : (⟨x41.i, x42.i, x43.i, x44.i, x45.i, x46.i⟩ : Bx) = (bxI x0 x1 x2 x3 x4 x5) := bx_ext c0 c1 c2 c3 c4 c5
 have i2 : lstX deI x47 = rwN (bxI x0 x1 x2 x3 x4 x5) (lstX deI x6) (bxI x7 x8 x9 x10 x11 x12) (lstX deI x13) (bxI x14 x15 x16 x17 x18 x19) x40.i.toNat := i2
 have gx : validG ⟨(⟨x41.i, x42.i, x43.i, x44.i, x45.i, x46.i⟩ : Bx), lstX deI x47⟩ = true := by
  rw [eb, i2]
  exact rw_val gv (val_mat gw) _
 have i1 : x40.i ≤ x6.i := i1
 intro v13
 have ev : v13.i = (bxI x0 x1 x2 x3 x4 x5).vol := rfl
 refine And.intro ?_ ?_
 ·intro h15 v16 v17 v18
  refine And.intro ?_ ?_
  ·intro h20
   have hb : (bxI x14 x15 x16 x17 x18 x19).has ((bxI x0 x1 x2 x3 x4 x5).at x40.i) = true := has_def.2 ⟨h20.1.1, h20.1.2, h20.2⟩
   intro v21
   have s21 : v21.i = x12 - x9 := if_pos hn
   have r21 := Int.emod_lt_of_pos (v18.i - x16) (show 0 < v21.i by omega)
   refine andI ?_ fun o22 => ?_
   ·omega
   refine andI ?_ fun o23 => ?_
   ·omega
   intro v24
   have s24 : v24.i = x11 - x8 := if_pos hn
   have r24 := Int.emod_lt_of_pos (v17.i - x15) (show 0 < v24.i by omega)
   refine andI ?_ fun o25 => ?_
   ·omega
   refine andI ?_ fun o26 => ?_
   ·omega
   intro v27
   have s27 : v27.i = x10 - x7 := if_pos hn
   have r27 := Int.emod_lt_of_pos (v16.i - x14) (show 0 < v27.i by omega)
   refine andI ?_ fun o28 => ?_
   ·omega
   refine andI ?_ fun o29 => ?_
   ·omega
   intro v30
   have e30 : v30.i = (getL (bxI x7 x8 x9 x10 x11 x12) (lstX deI x13) (x7 + (((bxI x0 x1 x2 x3 x4 x5).at x40.i).1 - x14) % (x10 - x7), x8 + (((bxI x0 x1 x2 x3 x4 x5).at x40.i).2.1 - x15) % (x11 - x8), x9 + (((bxI x0 x1 x2 x3 x4 x5).at x40.i).2.2 - x16) % (x12 - x9))) := by
    show getL (bxI x7 x8 x9 x10 x11 x12) (lstX deI x13) (x7 + (v16.i - x14) % v27.i, x8 + (v17.i - x15) % v24.i, x9 + (v18.i - x16) % v21.i) = _
    rw [s21, s24, s27]
    rfl
   refine andI ?_ fun o31 => ?_
   ·exact gx
   refine andI ?_ fun o32 => ?_
   ·omega
   refine andI ?_ fun o33 => ?_
   ·omega
   refine andI ?_ fun o34 => ?_
   ·omega
   refine andI ?_ fun o35 => ?_
   ·exact gw
   refine andI ?_ fun o36 => ?_
   ·omega
   intro v37 v38 v39 v40 v41 v42 v43
   have er : lstX deI v43 = rwN (bxI x0 x1 x2 x3 x4 x5) (lstX deI x6) (bxI x7 x8 x9 x10 x11 x12) (lstX deI x13) (bxI x14 x15 x16 x17 x18 x19) (x40.i + 1).toNat := by
    refine lst_rowI.trans ?_
    show setL (⟨x41.i, x42.i, x43.i, x44.i, x45.i, x46.i⟩ : Bx) (lstX deI x47) ((bxI x0 x1 x2 x3 x4 x5).at x40.i) v30.i = _
    rw [eb, i2, toS7 h4.1, e30]
    have hf : rpF (bxI x7 x8 x9 x10 x11 x12) (lstX deI x13) (bxI x14 x15 x16 x17 x18 x19) ((bxI x0 x1 x2 x3 x4 x5).at (x40.i.toNat : Nat)) = some (getL (bxI x7 x8 x9 x10 x11 x12) (lstX deI x13) (x7 + (((bxI x0 x1 x2 x3 x4 x5).at x40.i).1 - x14) % (x10 - x7), x8 + (((bxI x0 x1 x2 x3 x4 x5).at x40.i).2.1 - x15) % (x11 - x8), x9 + (((bxI x0 x1 x2 x3 x4 x5).at x40.i).2.2 - x16) % (x12 - x9))) := by
     rw [Int.toNat_of_nonneg h4.1]
     exact if_pos hb
    show _ = rwN (bxI x0 x1 x2 x3 x4 x5) (lstX deI x6) (bxI x7 x8 x9 x10 x11 x12) (lstX deI x13) (bxI x14 x15 x16 x17 x18 x19) (x40.i.toNat + 1)
    conv => rhs; unfold rwN
    rw [hf]
    show _ = setL (bxI x0 x1 x2 x3 x4 x5) (rwN (bxI x0 x1 x2 x3 x4 x5) (lstX deI x6) (bxI x7 x8 x9 x10 x11 x12) (lstX deI x13) (bxI x14 x15 x16 x17 x18 x19) x40.i.toNat) ((bxI x0 x1 x2 x3 x4 x5).at (x40.i.toNat : Nat)) (getL (bxI x7 x8 x9 x10 x11 x12) (lstX deI x13) (x7 + (((bxI x0 x1 x2 x3 x4 x5).at x40.i).1 - x14) % (x10 - x7), x8 + (((bxI x0 x1 x2 x3 x4 x5).at x40.i).2.1 - x15) % (x11 - x8), x9 + (((bxI x0 x1 x2 x3 x4 x5).at x40.i).2.2 - x16) % (x12 - x9)))
    rw [Int.toNat_of_nonneg h4.1]
   refine andI ?_ fun o44 => ?_
   ·exact ⟨⟨show 0 ≤ x40.i + 1 by omega, show x40.i + 1 ≤ x6.i by omega⟩, ⟨c0, c1, c2, c3, c4, c5⟩, er⟩
   refine andI ?_ fun o45 => ?_
   ·show x6.i + 1 - (x40.i + 1) < x6.i + 1 - x40.i
    omega
   show 0 < x6.i + 1 - x40.i
   omega
  intro h46
  have er : lstX deI x47 = rwN (bxI x0 x1 x2 x3 x4 x5) (lstX deI x6) (bxI x7 x8 x9 x10 x11 x12) (lstX deI x13) (bxI x14 x15 x16 x17 x18 x19) (x40.i + 1).toNat := by
   rw [i2, toS7 h4.1]
   have hf : rpF (bxI x7 x8 x9 x10 x11 x12) (lstX deI x13) (bxI x14 x15 x16 x17 x18 x19) ((bxI x0 x1 x2 x3 x4 x5).at (x40.i.toNat : Nat)) = none := by
    rw [Int.toNat_of_nonneg h4.1]
    exact if_neg fun h => h46 (by
     have := has_def.1 h
     exact ⟨⟨this.1, this.2.1⟩, this.2.2⟩)
   show _ = rwN (bxI x0 x1 x2 x3 x4 x5) (lstX deI x6) (bxI x7 x8 x9 x10 x11 x12) (lstX deI x13) (bxI x14 x15 x16 x17 x18 x19) (x40.i.toNat + 1)
   conv => rhs; unfold rwN
   rw [hf]
  refine andI ?_ fun o47 => ?_
  ·omega
  refine andI ?_ fun o48 => ?_
  ·exact ⟨⟨show 0 ≤ x40.i + 1 by omega, show x40.i + 1 ≤ x6.i by omega⟩, ⟨c0, c1, c2, c3, c4, c5⟩, er⟩
  refine andI ?_ fun o49 => ?_
  ·show x6.i + 1 - (x40.i + 1) < x6.i + 1 - x40.i
   omega
  show 0 < x6.i + 1 - x40.i
  omega
 intro h50
 refine andI ?_ fun o51 => ?_
 ·exact ⟨gv, gx⟩
 intro v52
 have hc : rpE (lstX deI x13) = 0 := if_neg (by rw [lstX_len]; omega)
 have en : x40.i.toNat = (lstX deI x6).length := by
  rw [lstX_len]
  omega
 have ed : difL (bxI x0 x1 x2 x3 x4 x5) (lstX deI x6) (⟨x41.i, x42.i, x43.i, x44.i, x45.i, x46.i⟩ : Bx) (lstX deI x47) = rqL (bxI x0 x1 x2 x3 x4 x5) (lstX deI x6) (bxI x7 x8 x9 x10 x11 x12) (lstX deI x13) (bxI x14 x15 x16 x17 x18 x19) := by
  rw [eb, i2, en, dif_rw hv]
  exact (if_pos hc).symm
 have hle := List.length_filterMap_le (difP (bxI x0 x1 x2 x3 x4 x5) (lstX deI x6) (⟨x41.i, x42.i, x43.i, x44.i, x45.i, x46.i⟩ : Bx) (lstX deI x47)) (List.range (lstX deI x6).length)
 have hle : (difL (bxI x0 x1 x2 x3 x4 x5) (lstX deI x6) (⟨x41.i, x42.i, x43.i, x44.i, x45.i, x46.i⟩ : Bx) (lstX deI x47)).length ≤ (List.range (lstX deI x6).length).length := hle
 rw [List.length_range, lstX_len] at hle
 have hi : v52.i = ((difL (bxI x0 x1 x2 x3 x4 x5) (lstX deI x6) (⟨x41.i, x42.i, x43.i, x44.i, x45.i, x46.i⟩ : Bx) (lstX deI x47)).length : Int) := rfl
 exact ⟨rowEq_of eqEl_C (by omega) (by omega) (lst_rowC.trans ed), rngI hc (by decide), trivial⟩
theorem kRepR : RCtrOk Tryz.prog ρ0 cRepR := by
 refine rctr_ofN (cf := cfG none [cVolR, cAtR, cSizeR] [cGetR, cSetR, cDifR] lpRepR sumC) (cfG_ok (((keep0.cons kSizeR nSizeR).cons kAtR nAtR).cons kVolR nVolR) (((keepR0.cons kDifR nDifR).cons kSetR nSetR).cons kGetR nGetR) noF) Tryz.func15 rfl 600 rfl (sh := shRep) (by kernel_rfl) rep_rsh fun ds hr hp => ?_
 have hr := rshX_flat hr
 match ds, hr, hp with
 | [d0, d1, d2, d3, d4, d5, d6, d7, d8, d9, d10, d11, d12, d13, d14, d15, d16, d17, d18, d19], hr, hp =>
  obtain ⟨⟨e0, l0, u0⟩, ⟨e1, l1, u1⟩, ⟨e2, l2, u2⟩, ⟨e3, l3, u3⟩, ⟨e4, l4, u4⟩, ⟨e5, l5, u5⟩, l6, ⟨e7, l7, u7⟩, ⟨e8, l8, u8⟩, ⟨e9, l9, u9⟩, ⟨e10, l10, u10⟩, ⟨e11, l11, u11⟩, ⟨e12, l12, u12⟩, l13, ⟨e14, l14, u14⟩, ⟨e15, l15, u15⟩, ⟨e16, l16, u16⟩, ⟨e17, l17, u17⟩, ⟨e18, l18, u18⟩, ⟨e19, l19, u19⟩, _⟩ := hr
  generalize d0.i = x0, d1.i = x1, d2.i = x2, d3.i = x3, d4.i = x4, d5.i = x5, d6 = x6, d7.i = x7, d8.i = x8, d9.i = x9, d10.i = x10, d11.i = x11, d12.i = x12, d13 = x13, d14.i = x14, d15.i = x15, d16.i = x16, d17.i = x17, d18.i = x18, d19.i = x19 at *
  subst e0 e1 e2 e3 e4 e5 e7 e8 e9 e10 e11 e12 e14 e15 e16 e17 e18 e19
  exact Eq.mpr (RepRL x0 x1 x2 x3 x4 x5 x6 x7 x8 x9 x10 x11 x12 x13 x14 x15 x16 x17 x18 x19) (RepRO x0 x1 x2 x3 x4 x5 x6 x7 x8 x9 x10 x11 x12 x13 x14 x15 x16 x17 x18 x19 ⟨l0, u0⟩ ⟨l1, u1⟩ ⟨l2, u2⟩ ⟨l3, u3⟩ ⟨l4, u4⟩ ⟨l5, u5⟩ l6 ⟨l7, u7⟩ ⟨l8, u8⟩ ⟨l9, u9⟩ ⟨l10, u10⟩ ⟨l11, u11⟩ ⟨l12, u12⟩ l13 ⟨l14, u14⟩ ⟨l15, u15⟩ ⟨l16, u16⟩ ⟨l17, u17⟩ ⟨l18, u18⟩ ⟨l19, u19⟩ hp)
theorem nRepR : Hs cRepR.f := ⟨_, Tryz.func15, by kernel_rfl, by kernel_rfl⟩
end Vc
end Go.Proofs.YtaacclebncplbaaGreatDoor
