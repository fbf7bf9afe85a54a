/- Contracts of functions, each out of one walk. -/
import Derived.Test.YtaacclebncplbaaGreatDoorC20W
import Derived.Test.YtaacclebncplbaaGreatDoorC20A
import Derived.Test.YtaacclebncplbaaGreatDoorC20B
import Derived.Test.YtaacclebncplbaaGreatDoorC07I
import Derived.Test.YtaacclebncplbaaGreatDoorC07E
import Derived.Test.YtaacclebncplbaaGreatDoorC07P
import Derived.Test.YtaacclebncplbaaGreatDoorC07S
import Derived.Test.YtaacclebncplbaaGreatDoorC04D
import Derived.Test.YtaacclebncplbaaGreatDoorC04E
import Derived.Test.YtaacclebncplbaaGreatDoorC04L
import Derived.Test.YtaacclebncplbaaGreatDoorC04V
namespace Go.Proofs.YtaacclebncplbaaGreatDoor
namespace Vc
open Go Go.RowKit
set_option linter.unusedVariables false
def PpRP (x0 x1 x2 x3 x4 x5 : Int) (x6 : X) : Prop :=
 let A := [xI x0, xI x1, xI x2, xI x3, xI x4, xI x5, x6]; (Px 710 (A ++ [(xI (x0 * (-1))), (xI (x1 * (-1))), (xI (x2 * (-1)))]) ∧
(let v1 := Ff 930 (A ++ [(xI (x0 * (-1))), (xI (x1 * (-1))), (xI (x2 * (-1)))]); let v2 := Ff 931 (A ++ [(xI (x0 * (-1))), (xI (x1 * (-1))), (xI (x2 * (-1)))]); let v3 := Ff 932 (A ++ [(xI (x0 * (-1))), (xI (x1 * (-1))), (xI (x2 * (-1)))]); let v4 := Ff 933 (A ++ [(xI (x0 * (-1))), (xI (x1 * (-1))), (xI (x2 * (-1)))]); let v5 := Ff 934 (A ++ [(xI (x0 * (-1))), (xI (x1 * (-1))), (xI (x2 * (-1)))]); let v6 := Ff 935 (A ++ [(xI (x0 * (-1))), (xI (x1 * (-1))), (xI (x2 * (-1)))]); let v7 := Ff 936 (A ++ [(xI (x0 * (-1))), (xI (x1 * (-1))), (xI (x2 * (-1)))]); ((rI v1.i (Ff 1103 A).i (-2097151) 2097151) ∧ ((rI v2.i (Ff 1104 A).i (-2097151) 2097151) ∧ ((rI v3.i (Ff 1105 A).i (-2097151) 2097151) ∧ ((rI v4.i (Ff 1106 A).i (-2097151) 2097151) ∧ ((rI v5.i (Ff 1107 A).i (-2097151) 2097151) ∧ ((rI v6.i (Ff 1108 A).i (-2097151) 2097151) ∧ (rowEq SMat (Ff 1109 A) v7.r v7.i 2097152)))))))))
theorem PpRL (x0 x1 x2 x3 x4 x5 : Int) (x6 : X) : (ctrR (fun j => Ff j [xI x0, xI x1, xI x2, xI x3, xI x4, xI x5, x6]) cPpR.fs cPpR.res { ρ0 with x := fun j => [xI x0, xI x1, xI x2, xI x3, xI x4, xI x5, x6].getD j (xI 0) } (walkR Tryz.prog (cfG none [] [cShfR] [] sumC) Tryz.f31 400 shG)) = PpRP x0 x1 x2 x3 x4 x5 x6 := by kernel_rfl
set_option maxHeartbeats 4000000 in
theorem PpRO (x0 x1 x2 x3 x4 x5 : Int) (x6 : X) (g0 : -1048575 ≤ x0 ∧ x0 ≤ 1048575) (g1 : -1048575 ≤ x1 ∧ x1 ≤ 1048575) (g2 : -1048575 ≤ x2 ∧ x2 ≤ 1048575) (g3 : -1048575 ≤ x3 ∧ x3 ≤ 1048575) (g4 : -1048575 ≤ x4 ∧ x4 ≤ 1048575) (g5 : -1048575 ≤ x5 ∧ x5 ≤ 1048575) (g6 : 0 ≤ x6.i ∧ x6.i ≤ 2097152 ∧ RowOk SMat x6.r x6.i.toNat) (gp : Px cPpR.pre.get! [xI x0, xI x1, xI x2, xI x3, xI x4, xI x5, x6]) : PpRP x0 x1 x2 x3 x4 x5 x6 := by
 unfold PpRP
 intro A
 have gv : validG ⟨(bxI x0 x1 x2 x3 x4 x5), lstX deI x6⟩ = true := gp
 have R := pp_rng (cs := lstX deI x6) (in20_nB (val_in gv))
 refine andI ?_ fun o0 => ?_
 ·exact gp
 intro v1 v2 v3 v4 v5 v6 v7
 have hl : v7.i = ((lstX deI x6).length : Int) := rfl
 have hl2 := lstX_len deI x6
 exact ⟨⟨rfl, R.1.1⟩, ⟨rfl, R.1.2.1⟩, ⟨rfl, R.1.2.2⟩, ⟨rfl, R.2.1⟩, ⟨rfl, R.2.2.1⟩, ⟨rfl, R.2.2.2⟩, rowEq_of eqEl_int (by omega) (by omega) lst_rowI⟩
theorem kPpR : RCtrOk Tryz.prog ρ0 cPpR := by
 refine rctr_ofN (cf := cfG none [] [cShfR] [] sumC) (cfG_ok keep0 (keepR0.cons kShfR nShfR) noF) Tryz.func31 rfl 400 rfl (sh := shG) (by kernel_rfl) val_rsh fun ds hr hp => ?_
 have hr := rshX_flat hr
 match ds, hr, hp with
 | [d0, d1, d2, d3, d4, d5, d6], hr, hp =>
  obtain ⟨⟨e0, l0, u0⟩, ⟨e1, l1, u1⟩, ⟨e2, l2, u2⟩, ⟨e3, l3, u3⟩, ⟨e4, l4, u4⟩, ⟨e5, l5, u5⟩, l6, _⟩ := hr
  generalize d0.i = x0, d1.i = x1, d2.i = x2, d3.i = x3, d4.i = x4, d5.i = x5, d6 = x6 at *
  subst e0 e1 e2 e3 e4 e5
  exact Eq.mpr (PpRL x0 x1 x2 x3 x4 x5 x6) (PpRO x0 x1 x2 x3 x4 x5 x6 ⟨l0, u0⟩ ⟨l1, u1⟩ ⟨l2, u2⟩ ⟨l3, u3⟩ ⟨l4, u4⟩ ⟨l5, u5⟩ l6 hp)
theorem nPpR : Hs cPpR.f := ⟨_, Tryz.func31, by kernel_rfl, by kernel_rfl⟩
def LesRP (x0 x1 x2 x3 x4 x5 : Int) (x6 : X) (x7 x8 x9 x10 x11 x12 : Int) (x13 : X) : Prop :=
 let A := [xI x0, xI x1, xI x2, xI x3, xI x4, xI x5, x6, xI x7, xI x8, xI x9, xI x10, xI x11, xI x12, x13]; (((¬ (x3 = x10)) →
((x3 < x10) ↔ (Ff 1101 A).b = true)) ∧
((x3 = x10) →
(((¬ (x4 = x11)) →
((x4 < x11) ↔ (Ff 1101 A).b = true)) ∧
((x4 = x11) →
(((¬ (x5 = x12)) →
((x5 < x12) ↔ (Ff 1101 A).b = true)) ∧
((x5 = x12) →
(Px 1102 (A ++ [xI 0]) ∧
(∀ x20 : X, (((0 ≤ x20.i) ∧ (x20.i ≤ 9223372036854775807)) →
(Px 1102 (A ++ [x20]) →
((((x20.i < x6.i) ∧ (x20.i < x13.i)) →
((x20.i < x13.i) ∧
((x20.i < x6.i) ∧
(((¬ ((x6.r x20.i 0).i = (x13.r x20.i 0).i)) →
((x20.i < x13.i) ∧
((x20.i < x6.i) ∧
(((x6.r x20.i 0).i < (x13.r x20.i 0).i) ↔ (Ff 1101 A).b = true)))) ∧
(((x6.r x20.i 0).i = (x13.r x20.i 0).i) →
(Px 1102 (A ++ [(xI (x20.i + 1))]) ∧
(((Ff 1102 (A ++ [(xI (x20.i + 1))])).i < (Ff 1102 (A ++ [x20])).i) ∧
(0 < (Ff 1102 (A ++ [x20])).i)))))))) ∧
((¬ ((x20.i < x6.i) ∧ (x20.i < x13.i))) →
((false = true) ↔ (Ff 1101 A).b = true)))))))))))))
theorem LesRL (x0 x1 x2 x3 x4 x5 : Int) (x6 : X) (x7 x8 x9 x10 x11 x12 : Int) (x13 : X) : (ctrR (fun j => Ff j [xI x0, xI x1, xI x2, xI x3, xI x4, xI x5, x6, xI x7, xI x8, xI x9, xI x10, xI x11, xI x12, x13]) cLesR.fs cLesR.res { ρ0 with x := fun j => [xI x0, xI x1, xI x2, xI x3, xI x4, xI x5, x6, xI x7, xI x8, xI x9, xI x10, xI x11, xI x12, x13].getD j (xI 0) } (walkR Tryz.prog (cfG none [] [] lpLesR sumC) Tryz.f62 400 cLesR.args)) = LesRP x0 x1 x2 x3 x4 x5 x6 x7 x8 x9 x10 x11 x12 x13 := by kernel_rfl
set_option maxHeartbeats 4000000 in
theorem LesRO (x0 x1 x2 x3 x4 x5 : Int) (x6 : X) (x7 x8 x9 x10 x11 x12 : Int) (x13 : X) (g0 : -9223372036854775808 ≤ x0 ∧ x0 ≤ 9223372036854775807) (g1 : -9223372036854775808 ≤ x1 ∧ x1 ≤ 9223372036854775807) (g2 : -9223372036854775808 ≤ x2 ∧ x2 ≤ 9223372036854775807) (g3 : -9223372036854775808 ≤ x3 ∧ x3 ≤ 9223372036854775807) (g4 : -9223372036854775808 ≤ x4 ∧ x4 ≤ 9223372036854775807) (g5 : -9223372036854775808 ≤ x5 ∧ x5 ≤ 9223372036854775807) (g6 : 0 ≤ x6.i ∧ x6.i ≤ 9223372036854775807 ∧ RowOk [.int .i64 (-9223372036854775808) (9223372036854775807)] x6.r x6.i.toNat) (g7 : -9223372036854775808 ≤ x7 ∧ x7 ≤ 9223372036854775807) (g8 : -9223372036854775808 ≤ x8 ∧ x8 ≤ 9223372036854775807) (g9 : -9223372036854775808 ≤ x9 ∧ x9 ≤ 9223372036854775807) (g10 : -9223372036854775808 ≤ x10 ∧ x10 ≤ 9223372036854775807) (g11 : -9223372036854775808 ≤ x11 ∧ x11 ≤ 9223372036854775807) (g12 : -9223372036854775808 ≤ x12 ∧ x12 ≤ 9223372036854775807) (g13 : 0 ≤ x13.i ∧ x13.i ≤ 9223372036854775807 ∧ RowOk [.int .i64 (-9223372036854775808) (9223372036854775807)] x13.r x13.i.toNat) : LesRP x0 x1 x2 x3 x4 x5 x6 x7 x8 x9 x10 x11 x12 x13 := by
 unfold LesRP
 intro A
 have n0 := lstX_len deI x6
 have n1 := lstX_len deI x13
 refine And.intro ?_ ?_
 ·intro h1
  exact le_1 (b := (bxI x0 x1 x2 x3 x4 x5)) (b' := (bxI x7 x8 x9 x10 x11 x12)) h1
 intro h2
 refine And.intro ?_ ?_
 ·intro h4
  exact le_2 (b := (bxI x0 x1 x2 x3 x4 x5)) (b' := (bxI x7 x8 x9 x10 x11 x12)) h2 h4
 intro h5
 refine And.intro ?_ ?_
 ·intro h7
  exact le_3 (b := (bxI x0 x1 x2 x3 x4 x5)) (b' := (bxI x7 x8 x9 x10 x11 x12)) h2 h5 h7
 intro h8
 have e4 := le_4 (b := (bxI x0 x1 x2 x3 x4 x5)) (b' := (bxI x7 x8 x9 x10 x11 x12)) (cs := lstX deI x6) (cs' := lstX deI x13) h2 h5 h8
 refine andI ?_ fun o9 => ?_
 ·exact ⟨Int.le_refl _, g6.1, g13.1, rfl⟩
 intro x20 h10 p11
 obtain ⟨i0, i1, i2, i3⟩ := p11
 have i1 : x20.i ≤ x6.i := i1
 have i2 : x20.i ≤ x13.i := i2
 have i3 : (lstX deI x6).take x20.i.toNat = (lstX deI x13).take x20.i.toNat := i3
 refine And.intro ?_ ?_
 ·intro h13
  refine andI ?_ fun o14 => ?_
  ·exact h13.2
  refine andI ?_ fun o15 => ?_
  ·exact h13.1
  refine And.intro ?_ ?_
  ·intro h17
   refine andI ?_ fun o18 => ?_
   ·exact h13.2
   refine andI ?_ fun o19 => ?_
   ·exact h13.1
   have a0 := lxI_at h10.1 h13.1
   have a1 := lxI_at h10.1 h13.2
   have hc := le_next i3 (by omega) (by omega) (by rw [a0, a1]; exact h17)
   show _ ↔ leB (bxI x0 x1 x2 x3 x4 x5) (lstX deI x6) (bxI x7 x8 x9 x10 x11 x12) (lstX deI x13) = true
   rw [e4, hc, a0, a1, decide_eq_true_eq, cmI_lt]
  intro h20
  refine andI ?_ fun o21 => ?_
  ·refine ⟨show 0 ≤ x20.i + 1 by omega, show x20.i + 1 ≤ x6.i by omega, show x20.i + 1 ≤ x13.i by omega, ?_⟩
   show (lstX deI x6).take (x20.i + 1).toNat = (lstX deI x13).take (x20.i + 1).toNat
   rw [lx_take h10.1 h13.1, lx_take h10.1 h13.2, i3]
   show _ ++ [(x6.r x20.i 0).i] = _ ++ [(x13.r x20.i 0).i]
   rw [h20]
  refine andI ?_ fun o22 => ?_
  ·show x6.i + 1 - (x20.i + 1) < x6.i + 1 - x20.i
   omega
  show 0 < x6.i + 1 - x20.i
  omega
 intro h23
 have hc := le_end i3 (by omega) (by omega) (by omega)
 refine iff_of_false Bool.false_ne_true fun h => ?_
 have h : leB (bxI x0 x1 x2 x3 x4 x5) (lstX deI x6) (bxI x7 x8 x9 x10 x11 x12) (lstX deI x13) = true := h
 rw [e4, hc] at h
 exact absurd h (by decide)
theorem kLesR : RCtrOk Tryz.prog ρ0 cLesR := by
 refine rctr_of (cf := cfG none [] [] lpLesR sumC) (cfG_ok keep0 keepR0 noF) Tryz.func62 rfl 400 rfl fun ds hr => ?_
 have hr := rshX_flat hr
 match ds, hr with
 | [d0, d1, d2, d3, d4, d5, d6, d7, d8, d9, d10, d11, d12, d13], hr =>
  obtain ⟨⟨e0, l0, u0⟩, ⟨e1, l1, u1⟩, ⟨e2, l2, u2⟩, ⟨e3, l3, u3⟩, ⟨e4, l4, u4⟩, ⟨e5, l5, u5⟩, l6, ⟨e7, l7, u7⟩, ⟨e8, l8, u8⟩, ⟨e9, l9, u9⟩, ⟨e10, l10, u10⟩, ⟨e11, l11, u11⟩, ⟨e12, l12, u12⟩, l13, _⟩ := hr
  generalize d0.i = x0, d1.i = x1, d2.i = x2, d3.i = x3, d4.i = x4, d5.i = x5, d6 = x6, d7.i = x7, d8.i = x8, d9.i = x9, d10.i = x10, d11.i = x11, d12.i = x12, d13 = x13 at *
  subst e0 e1 e2 e3 e4 e5 e7 e8 e9 e10 e11 e12
  exact Eq.mpr (LesRL x0 x1 x2 x3 x4 x5 x6 x7 x8 x9 x10 x11 x12 x13) (LesRO x0 x1 x2 x3 x4 x5 x6 x7 x8 x9 x10 x11 x12 x13 ⟨l0, u0⟩ ⟨l1, u1⟩ ⟨l2, u2⟩ ⟨l3, u3⟩ ⟨l4, u4⟩ ⟨l5, u5⟩ l6 ⟨l7, u7⟩ ⟨l8, u8⟩ ⟨l9, u9⟩ ⟨l10, u10⟩ ⟨l11, u11⟩ ⟨l12, u12⟩ l13)
theorem nLesR : Hs cLesR.f := ⟨_, Tryz.func62, by kernel_rfl, by kernel_rfl⟩
def TnsRP (x0 x1 x2 x3 x4 x5 : Int) (x6 : X) : Prop :=
 let A := [xI x0, xI x1, xI x2, xI x3, xI x4, xI x5, x6]; (Px 1075 (A ++ [xI 0, (mkX (rwTab 1 []) 0)]) ∧
(∀ x20 : X, (∀ x21 : X, (((0 ≤ x20.i) ∧ (x20.i ≤ 48)) →
((0 ≤ x21.i ∧ x21.i ≤ 48 ∧ RowOk S48 x21.r (x21.i).toNat) →
(Px 1075 (A ++ [x20, x21]) →
(((x20.i < 48) →
(Px 947 [xI x20.i, xI x0, xI x1, xI x2, xI x3, xI x4, xI x5, x6] ∧
(let v7 := Ff 940 [xI x20.i, xI x0, xI x1, xI x2, xI x3, xI x4, xI x5, x6]; let v8 := Ff 941 [xI x20.i, xI x0, xI x1, xI x2, xI x3, xI x4, xI x5, x6]; let v9 := Ff 942 [xI x20.i, xI x0, xI x1, xI x2, xI x3, xI x4, xI x5, x6]; let v10 := Ff 943 [xI x20.i, xI x0, xI x1, xI x2, xI x3, xI x4, xI x5, x6]; let v11 := Ff 944 [xI x20.i, xI x0, xI x1, xI x2, xI x3, xI x4, xI x5, x6]; let v12 := Ff 945 [xI x20.i, xI x0, xI x1, xI x2, xI x3, xI x4, xI x5, x6]; let v13 := Ff 946 [xI x20.i, xI x0, xI x1, xI x2, xI x3, xI x4, xI x5, x6]; (Px 710 [xI v7.i, xI v8.i, xI v9.i, xI v10.i, xI v11.i, xI v12.i, v13] ∧
(Px 710 A ∧
(let v16 := Ff 1103 [xI v7.i, xI v8.i, xI v9.i, xI v10.i, xI v11.i, xI v12.i, v13]; let v17 := Ff 1104 [xI v7.i, xI v8.i, xI v9.i, xI v10.i, xI v11.i, xI v12.i, v13]; let v18 := Ff 1105 [xI v7.i, xI v8.i, xI v9.i, xI v10.i, xI v11.i, xI v12.i, v13]; let v19 := Ff 1106 [xI v7.i, xI v8.i, xI v9.i, xI v10.i, xI v11.i, xI v12.i, v13]; let v20 := Ff 1107 [xI v7.i, xI v8.i, xI v9.i, xI v10.i, xI v11.i, xI v12.i, v13]; let v21 := Ff 1108 [xI v7.i, xI v8.i, xI v9.i, xI v10.i, xI v11.i, xI v12.i, v13]; let v22 := Ff 1109 [xI v7.i, xI v8.i, xI v9.i, xI v10.i, xI v11.i, xI v12.i, v13]; let v23 := Ff 1103 A; let v24 := Ff 1104 A; let v25 := Ff 1105 A; let v26 := Ff 1106 A; let v27 := Ff 1107 A; let v28 := Ff 1108 A; let v29 := Ff 1109 A; let v30 := Ff 715 [xI v16.i, xI v17.i, xI v18.i, xI v19.i, xI v20.i, xI v21.i, v22, xI v23.i, xI v24.i, xI v25.i, xI v26.i, xI v27.i, xI v28.i, v29]; (((v30.b = true) →
(((x21.i + 1) ≤ 48) ∧
(Px 1075 (A ++ [(xI (x20.i + 1)), (mkX (rwCat x21.r x21.i (rwTab 1 [x20])) (x21.i + 1))]) ∧
(((Ff 1075 (A ++ [(xI (x20.i + 1)), (mkX (rwCat x21.r x21.i (rwTab 1 [x20])) (x21.i + 1))])).i < (Ff 1075 (A ++ [x20, x21])).i) ∧
(0 < (Ff 1075 (A ++ [x20, x21])).i))))) ∧
((¬ (v30.b = true)) →
(Px 1075 (A ++ [(xI (x20.i + 1)), x21]) ∧
(((Ff 1075 (A ++ [(xI (x20.i + 1)), x21])).i < (Ff 1075 (A ++ [x20, x21])).i) ∧
(0 < (Ff 1075 (A ++ [x20, x21])).i))))))))))) ∧
((¬ (x20.i < 48)) →
(rowEq S48 (Ff 1041 A) x21.r x21.i 48)))))))))
theorem TnsRL (x0 x1 x2 x3 x4 x5 : Int) (x6 : X) : (ctrR (fun j => Ff j [xI x0, xI x1, xI x2, xI x3, xI x4, xI x5, x6]) cTnsR.fs cTnsR.res { ρ0 with x := fun j => [xI x0, xI x1, xI x2, xI x3, xI x4, xI x5, x6].getD j (xI 0) } (walkR Tryz.prog (cfG none [] [cTurGR, cPpR, cEqR] lpTnsR sumC) Tryz.f21 400 shG)) = TnsRP x0 x1 x2 x3 x4 x5 x6 := by kernel_rfl
set_option maxHeartbeats 4000000 in
theorem TnsRO (x0 x1 x2 x3 x4 x5 : Int) (x6 : X) (g0 : -1048575 ≤ x0 ∧ x0 ≤ 1048575) (g1 : -1048575 ≤ x1 ∧ x1 ≤ 1048575) (g2 : -1048575 ≤ x2 ∧ x2 ≤ 1048575) (g3 : -1048575 ≤ x3 ∧ x3 ≤ 1048575) (g4 : -1048575 ≤ x4 ∧ x4 ≤ 1048575) (g5 : -1048575 ≤ x5 ∧ x5 ≤ 1048575) (g6 : 0 ≤ x6.i ∧ x6.i ≤ 2097152 ∧ RowOk SMat x6.r x6.i.toNat) (gp : Px cTnsR.pre.get! [xI x0, xI x1, xI x2, xI x3, xI x4, xI x5, x6]) : TnsRP x0 x1 x2 x3 x4 x5 x6 := by
 unfold TnsRP
 intro A
 have gv : validG ⟨(bxI x0 x1 x2 x3 x4 x5), lstX deI x6⟩ = true := gp
 refine andI ?_ fun o0 => ?_
 ·exact ⟨Int.le_refl _, by decide, rfl⟩
 intro x20 x21 h1 r2 p3
 obtain ⟨i0, i1, i2⟩ := p3
 have i2 : lstX deI x21 = tnL (bxI x0 x1 x2 x3 x4 x5) (lstX deI x6) x20.i.toNat := i2
 refine And.intro ?_ ?_
 ·intro h5
  refine andI ?_ fun o6 => ?_
  ·exact gp
  intro v7 v8 v9 v10 v11 v12 v13
  have e13 : lstX deI v13 = turL x20.i (bxI x0 x1 x2 x3 x4 x5) (lstX deI x6) := lst_rowI
  refine andI ?_ fun o14 => ?_
  ·show validG ⟨turB x20.i (bxI x0 x1 x2 x3 x4 x5), lstX deI v13⟩ = true
   rw [e13]
   exact tur_val gv
  refine andI ?_ fun o15 => ?_
  ·exact gp
  intro v16 v17 v18 v19 v20 v21 v22 v23 v24 v25 v26 v27 v28 v29 v30
  have e22 : lstX deI v22 = lstX deI v13 := lst_rowI
  have e29 : lstX deI v29 = lstX deI x6 := lst_rowI
  have e30 : v30.b = decide (tnO (bxI x0 x1 x2 x3 x4 x5) (lstX deI x6) x20.i.toNat = 0) := by
   show eqG (ppB (turB x20.i (bxI x0 x1 x2 x3 x4 x5)) (lstX deI v13)) (lstX deI v22) (ppB (bxI x0 x1 x2 x3 x4 x5) (lstX deI x6)) (lstX deI v29) = _
   rw [e22, e29, e13, pp_pt, pp_0 gv, eq_od (pt_O gv) (pt_O gv)]
   unfold tnO
   rw [Int.toNat_of_nonneg h1.1, tur_0 gv]
  have hs := fmN_step (f := fun k : Nat => if tnO (bxI x0 x1 x2 x3 x4 x5) (lstX deI x6) k = 0 then some (k : Int) else none) h1.1
  have hs : tnL (bxI x0 x1 x2 x3 x4 x5) (lstX deI x6) (x20.i + 1).toNat = lstX deI x21 ++ (if tnO (bxI x0 x1 x2 x3 x4 x5) (lstX deI x6) x20.i.toNat = 0 then some ((x20.i.toNat : Nat) : Int) else none).toList := by
   rw [i2]
   exact hs
  refine And.intro ?_ ?_
  ·intro h32
   have hs := hs.trans (congrArg (fun t => _ ++ Option.toList t) (if_pos (of_decide_eq_true (e30.symm.trans h32))))
   have hle := fmN_len (f := fun k : Nat => if tnO (bxI x0 x1 x2 x3 x4 x5) (lstX deI x6) k = 0 then some (k : Int) else none) (k := x20.i + 1) (by omega)
   have hle : ((tnL (bxI x0 x1 x2 x3 x4 x5) (lstX deI x6) (x20.i + 1).toNat).length : Int) ≤ x20.i + 1 := hle
   rw [hs, List.length_append, lstX_len, Option.toList_some, List.length_singleton] at hle
   refine andI ?_ fun o33 => ?_
   ·omega
   refine andI ?_ fun o34 => ?_
   ·refine ⟨show 0 ≤ x20.i + 1 by omega, show x20.i + 1 ≤ 48 by omega, (lstX_push r2.1 1 _).trans ?_⟩
    rw [Int.toNat_of_nonneg h1.1] at hs
    exact hs.symm
   refine andI ?_ fun o35 => ?_
   ·show 49 - (x20.i + 1) < 49 - x20.i
    omega
   show 0 < 49 - x20.i
   omega
  intro h36
  have hs := hs.trans (congrArg (fun t => _ ++ Option.toList t) (if_neg fun h => h36 (e30.trans (decide_eq_true h))))
  refine andI ?_ fun o37 => ?_
  ·exact ⟨show 0 ≤ x20.i + 1 by omega, show x20.i + 1 ≤ 48 by omega, (hs.trans (List.append_nil _)).symm⟩
  refine andI ?_ fun o38 => ?_
  ·show 49 - (x20.i + 1) < 49 - x20.i
   omega
  show 0 < 49 - x20.i
  omega
 intro h39
 refine rowEq_of eqEl_int r2.1 r2.2.1 ?_
 have e : x20.i.toNat = 48 := by omega
 rw [e] at i2
 exact i2
theorem kTnsR : RCtrOk Tryz.prog ρ0 cTnsR := by
 refine rctr_ofN (cf := cfG none [] [cTurGR, cPpR, cEqR] lpTnsR sumC) (cfG_ok keep0 (((keepR0.cons kEqR nEqR).cons kPpR nPpR).cons kTurGR nTurGR) noF) Tryz.func21 rfl 400 rfl (sh := shG) (by kernel_rfl) val_rsh fun ds hr hp => ?_
 have hr := rshX_flat hr
 match ds, hr, hp with
 | [d0, d1, d2, d3, d4, d5, d6], hr, hp =>
  obtain ⟨⟨e0, l0, u0⟩, ⟨e1, l1, u1⟩, ⟨e2, l2, u2⟩, ⟨e3, l3, u3⟩, ⟨e4, l4, u4⟩, ⟨e5, l5, u5⟩, l6, _⟩ := hr
  generalize d0.i = x0, d1.i = x1, d2.i = x2, d3.i = x3, d4.i = x4, d5.i = x5, d6 = x6 at *
  subst e0 e1 e2 e3 e4 e5
  exact Eq.mpr (TnsRL x0 x1 x2 x3 x4 x5 x6) (TnsRO x0 x1 x2 x3 x4 x5 x6 ⟨l0, u0⟩ ⟨l1, u1⟩ ⟨l2, u2⟩ ⟨l3, u3⟩ ⟨l4, u4⟩ ⟨l5, u5⟩ l6 hp)
theorem nTnsR : Hs cTnsR.f := ⟨_, Tryz.func21, by kernel_rfl, by kernel_rfl⟩
def CanRP (x0 x1 x2 x3 x4 x5 : Int) (x6 : X) : Prop :=
 let A := [xI x0, xI x1, xI x2, xI x3, xI x4, xI x5, x6]; (Px 710 A ∧
(let v1 := Ff 1103 A; let v2 := Ff 1104 A; let v3 := Ff 1105 A; let v4 := Ff 1106 A; let v5 := Ff 1107 A; let v6 := Ff 1108 A; let v7 := Ff 1109 A; (Px 1100 (A ++ [xI 1, xI 0, xI v1.i, xI v2.i, xI v3.i, xI v4.i, xI v5.i, xI v6.i, v7]) ∧
(∀ x20 : X, (∀ x21 : X, (∀ x22 : X, (∀ x23 : X, (∀ x24 : X, (∀ x25 : X, (∀ x26 : X, (∀ x27 : X, (∀ x28 : X, (((1 ≤ x20.i) ∧ (x20.i ≤ 48)) →
(((0 ≤ x21.i) ∧ (x21.i ≤ 47)) →
((((-2097151) ≤ x22.i) ∧ (x22.i ≤ 2097151)) →
((((-2097151) ≤ x23.i) ∧ (x23.i ≤ 2097151)) →
((((-2097151) ≤ x24.i) ∧ (x24.i ≤ 2097151)) →
((((-2097151) ≤ x25.i) ∧ (x25.i ≤ 2097151)) →
((((-2097151) ≤ x26.i) ∧ (x26.i ≤ 2097151)) →
((((-2097151) ≤ x27.i) ∧ (x27.i ≤ 2097151)) →
((0 ≤ x28.i ∧ x28.i ≤ 2097152 ∧ RowOk SMat x28.r (x28.i).toNat) →
(Px 1100 (A ++ [x20, x21, x22, x23, x24, x25, x26, x27, x28]) →
(((x20.i < 48) →
(Px 947 [xI x20.i, xI x0, xI x1, xI x2, xI x3, xI x4, xI x5, x6] ∧
(let v22 := Ff 940 [xI x20.i, xI x0, xI x1, xI x2, xI x3, xI x4, xI x5, x6]; let v23 := Ff 941 [xI x20.i, xI x0, xI x1, xI x2, xI x3, xI x4, xI x5, x6]; let v24 := Ff 942 [xI x20.i, xI x0, xI x1, xI x2, xI x3, xI x4, xI x5, x6]; let v25 := Ff 943 [xI x20.i, xI x0, xI x1, xI x2, xI x3, xI x4, xI x5, x6]; let v26 := Ff 944 [xI x20.i, xI x0, xI x1, xI x2, xI x3, xI x4, xI x5, x6]; let v27 := Ff 945 [xI x20.i, xI x0, xI x1, xI x2, xI x3, xI x4, xI x5, x6]; let v28 := Ff 946 [xI x20.i, xI x0, xI x1, xI x2, xI x3, xI x4, xI x5, x6]; (Px 710 [xI v22.i, xI v23.i, xI v24.i, xI v25.i, xI v26.i, xI v27.i, v28] ∧
(let v30 := Ff 1103 [xI v22.i, xI v23.i, xI v24.i, xI v25.i, xI v26.i, xI v27.i, v28]; let v31 := Ff 1104 [xI v22.i, xI v23.i, xI v24.i, xI v25.i, xI v26.i, xI v27.i, v28]; let v32 := Ff 1105 [xI v22.i, xI v23.i, xI v24.i, xI v25.i, xI v26.i, xI v27.i, v28]; let v33 := Ff 1106 [xI v22.i, xI v23.i, xI v24.i, xI v25.i, xI v26.i, xI v27.i, v28]; let v34 := Ff 1107 [xI v22.i, xI v23.i, xI v24.i, xI v25.i, xI v26.i, xI v27.i, v28]; let v35 := Ff 1108 [xI v22.i, xI v23.i, xI v24.i, xI v25.i, xI v26.i, xI v27.i, v28]; let v36 := Ff 1109 [xI v22.i, xI v23.i, xI v24.i, xI v25.i, xI v26.i, xI v27.i, v28]; let v37 := Ff 1101 [xI v30.i, xI v31.i, xI v32.i, xI v33.i, xI v34.i, xI v35.i, v36, xI x22.i, xI x23.i, xI x24.i, xI x25.i, xI x26.i, xI x27.i, x28]; (((v37.b = true) →
(Px 1100 (A ++ [(xI (x20.i + 1)), xI x20.i, xI v30.i, xI v31.i, xI v32.i, xI v33.i, xI v34.i, xI v35.i, v36]) ∧
(((Ff 1100 (A ++ [(xI (x20.i + 1)), xI x20.i, xI v30.i, xI v31.i, xI v32.i, xI v33.i, xI v34.i, xI v35.i, v36])).i < (Ff 1100 (A ++ [x20, x21, x22, x23, x24, x25, x26, x27, x28])).i) ∧
(0 < (Ff 1100 (A ++ [x20, x21, x22, x23, x24, x25, x26, x27, x28])).i)))) ∧
((¬ (v37.b = true)) →
(Px 1100 (A ++ [(xI (x20.i + 1)), xI x21.i, xI x22.i, xI x23.i, xI x24.i, xI x25.i, xI x26.i, xI x27.i, x28]) ∧
(((Ff 1100 (A ++ [(xI (x20.i + 1)), xI x21.i, xI x22.i, xI x23.i, xI x24.i, xI x25.i, xI x26.i, xI x27.i, x28])).i < (Ff 1100 (A ++ [x20, x21, x22, x23, x24, x25, x26, x27, x28])).i) ∧
(0 < (Ff 1100 (A ++ [x20, x21, x22, x23, x24, x25, x26, x27, x28])).i)))))))))) ∧
((¬ (x20.i < 48)) →
(((rI x22.i (Ff 1042 A).i (-2097151) 2097151) ∧ ((rI x23.i (Ff 1043 A).i (-2097151) 2097151) ∧ ((rI x24.i (Ff 1044 A).i (-2097151) 2097151) ∧ ((rI x25.i (Ff 1045 A).i (-2097151) 2097151) ∧ ((rI x26.i (Ff 1046 A).i (-2097151) 2097151) ∧ ((rI x27.i (Ff 1047 A).i (-2097151) 2097151) ∧ (rowEq SMat (Ff 1048 A) x28.r x28.i 2097152))))))) ∧ ((rI x21.i (Ff 1049 A).i 0 47) ∧ True))))))))))))))))))))))))))
theorem CanRL (x0 x1 x2 x3 x4 x5 : Int) (x6 : X) : (ctrR (fun j => Ff j [xI x0, xI x1, xI x2, xI x3, xI x4, xI x5, x6]) cCanR.fs cCanR.res { ρ0 with x := fun j => [xI x0, xI x1, xI x2, xI x3, xI x4, xI x5, x6].getD j (xI 0) } (walkR Tryz.prog (cfG none [] [cTurGR, cPpR, cLesR] lpCanR sumC) Tryz.f18 400 shG)) = CanRP x0 x1 x2 x3 x4 x5 x6 := by kernel_rfl
set_option maxHeartbeats 4000000 in
theorem CanRO (x0 x1 x2 x3 x4 x5 : Int) (x6 : X) (g0 : -1048575 ≤ x0 ∧ x0 ≤ 1048575) (g1 : -1048575 ≤ x1 ∧ x1 ≤ 1048575) (g2 : -1048575 ≤ x2 ∧ x2 ≤ 1048575) (g3 : -1048575 ≤ x3 ∧ x3 ≤ 1048575) (g4 : -1048575 ≤ x4 ∧ x4 ≤ 1048575) (g5 : -1048575 ≤ x5 ∧ x5 ≤ 1048575) (g6 : 0 ≤ x6.i ∧ x6.i ≤ 2097152 ∧ RowOk SMat x6.r x6.i.toNat) (gp : Px cCanR.pre.get! [xI x0, xI x1, xI x2, xI x3, xI x4, xI x5, x6]) : CanRP x0 x1 x2 x3 x4 x5 x6 := by
 unfold CanRP
 intro A
 have gv : validG ⟨(bxI x0 x1 x2 x3 x4 x5), lstX deI x6⟩ = true := gp
 refine andI ?_ fun o0 => ?_
 ·exact gp
 intro v1 v2 v3 v4 v5 v6 v7
 have e7 : lstX deI v7 = lstX deI x6 := lst_rowI
 refine andI ?_ fun o8 => ?_
 ·refine ⟨Int.le_refl _, by decide, Eq.trans (caR_s 0) (Eq.trans (if_pos rfl) (Eq.trans caR_0 ?_))⟩
  show ((⟨ppB (bxI x0 x1 x2 x3 x4 x5) (lstX deI x6), lstX deI x6⟩ : Gr), (0 : Int)) = ((⟨ppB (bxI x0 x1 x2 x3 x4 x5) (lstX deI x6), lstX deI v7⟩ : Gr), (0 : Int))
  rw [e7]
 intro x20 x21 x22 x23 x24 x25 x26 x27 x28 h9 h10 h11 h12 h13 h14 h15 h16 r17 p18
 obtain ⟨i0, i1, i2⟩ := p18
 have i2 : caR (bxI x0 x1 x2 x3 x4 x5) (lstX deI x6) x20.i.toNat = ((⟨(⟨x22.i, x23.i, x24.i, x25.i, x26.i, x27.i⟩ : Bx), lstX deI x28⟩ : Gr), x21.i) := i2
 have h0 : 0 ≤ x20.i := by omega
 have hs : caR (bxI x0 x1 x2 x3 x4 x5) (lstX deI x6) (x20.i + 1).toNat = if leB (ppB (turB x20.i (bxI x0 x1 x2 x3 x4 x5)) (turL x20.i (bxI x0 x1 x2 x3 x4 x5) (lstX deI x6))) (turL x20.i (bxI x0 x1 x2 x3 x4 x5) (lstX deI x6)) (⟨x22.i, x23.i, x24.i, x25.i, x26.i, x27.i⟩ : Bx) (lstX deI x28) = true then ((⟨ppB (turB x20.i (bxI x0 x1 x2 x3 x4 x5)) (turL x20.i (bxI x0 x1 x2 x3 x4 x5) (lstX deI x6)), turL x20.i (bxI x0 x1 x2 x3 x4 x5) (lstX deI x6)⟩ : Gr), x20.i) else ((⟨(⟨x22.i, x23.i, x24.i, x25.i, x26.i, x27.i⟩ : Bx), lstX deI x28⟩ : Gr), x21.i) := by
  rw [toS7 h0, caR_s, if_neg (by omega), Int.toNat_of_nonneg h0, i2]
 refine And.intro ?_ ?_
 ·intro h20
  refine andI ?_ fun o21 => ?_
  ·exact gp
  intro v22 v23 v24 v25 v26 v27 v28
  have e28 : lstX deI v28 = turL x20.i (bxI x0 x1 x2 x3 x4 x5) (lstX deI x6) := lst_rowI
  refine andI ?_ fun o29 => ?_
  ·show validG ⟨turB x20.i (bxI x0 x1 x2 x3 x4 x5), lstX deI v28⟩ = true
   rw [e28]
   exact tur_val gv
  intro v30 v31 v32 v33 v34 v35 v36 v37
  have e36 : lstX deI v36 = lstX deI v28 := lst_rowI
  have e37 : v37.b = leB (ppB (turB x20.i (bxI x0 x1 x2 x3 x4 x5)) (turL x20.i (bxI x0 x1 x2 x3 x4 x5) (lstX deI x6))) (turL x20.i (bxI x0 x1 x2 x3 x4 x5) (lstX deI x6)) (⟨x22.i, x23.i, x24.i, x25.i, x26.i, x27.i⟩ : Bx) (lstX deI x28) := by
   show leB (ppB (turB x20.i (bxI x0 x1 x2 x3 x4 x5)) (lstX deI v28)) (lstX deI v36) (⟨x22.i, x23.i, x24.i, x25.i, x26.i, x27.i⟩ : Bx) (lstX deI x28) = _
   rw [e36, e28]
  rw [← e37] at hs
  refine And.intro ?_ ?_
  ·intro h39
   refine andI ?_ fun o40 => ?_
   ·refine ⟨show 1 ≤ x20.i + 1 by omega, show x20.i + 1 ≤ 48 by omega, (hs.trans (if_pos h39)).trans ?_⟩
    show ((⟨ppB (turB x20.i (bxI x0 x1 x2 x3 x4 x5)) (turL x20.i (bxI x0 x1 x2 x3 x4 x5) (lstX deI x6)), turL x20.i (bxI x0 x1 x2 x3 x4 x5) (lstX deI x6)⟩ : Gr), x20.i) = ((⟨ppB (turB x20.i (bxI x0 x1 x2 x3 x4 x5)) (lstX deI v28), lstX deI v36⟩ : Gr), x20.i)
    rw [e36, e28]
   refine andI ?_ fun o41 => ?_
   ·show 49 - (x20.i + 1) < 49 - x20.i
    omega
   show 0 < 49 - x20.i
   omega
  intro h42
  refine andI ?_ fun o43 => ?_
  ·exact ⟨show 1 ≤ x20.i + 1 by omega, show x20.i + 1 ≤ 48 by omega, hs.trans (if_neg h42)⟩
  refine andI ?_ fun o44 => ?_
  ·show 49 - (x20.i + 1) < 49 - x20.i
   omega
  show 0 < 49 - x20.i
  omega
 intro h45
 have e : x20.i.toNat = 47 + 1 := by omega
 rw [e, caR_eq gv 47] at i2
 have i3 : caN (bxX (xI x0) (xI x1) (xI x2) (xI x3) (xI x4) (xI x5)) (lstX deI x6) 48 = ((⟨(⟨x22.i, x23.i, x24.i, x25.i, x26.i, x27.i⟩ : Bx), lstX deI x28⟩ : Gr), x21.i) := i2
 have c0 : (caN (bxX (xI x0) (xI x1) (xI x2) (xI x3) (xI x4) (xI x5)) (lstX deI x6) 48).1.bx.a = x22.i := by rw [i3]
 have c1 : (caN (bxX (xI x0) (xI x1) (xI x2) (xI x3) (xI x4) (xI x5)) (lstX deI x6) 48).1.bx.b = x23.i := by rw [i3]
 have c2 : (caN (bxX (xI x0) (xI x1) (xI x2) (xI x3) (xI x4) (xI x5)) (lstX deI x6) 48).1.bx.c = x24.i := by rw [i3]
 have c3 : (caN (bxX (xI x0) (xI x1) (xI x2) (xI x3) (xI x4) (xI x5)) (lstX deI x6) 48).1.bx.d = x25.i := by rw [i3]
 have c4 : (caN (bxX (xI x0) (xI x1) (xI x2) (xI x3) (xI x4) (xI x5)) (lstX deI x6) 48).1.bx.e = x26.i := by rw [i3]
 have c5 : (caN (bxX (xI x0) (xI x1) (xI x2) (xI x3) (xI x4) (xI x5)) (lstX deI x6) 48).1.bx.f = x27.i := by rw [i3]
 have c6 : (caN (bxX (xI x0) (xI x1) (xI x2) (xI x3) (xI x4) (xI x5)) (lstX deI x6) 48).1.cs = lstX deI x28 := by rw [i3]
 have c7 : (caN (bxX (xI x0) (xI x1) (xI x2) (xI x3) (xI x4) (xI x5)) (lstX deI x6) 48).2 = x21.i := by rw [i3]
 have c8 : rowEq [.int .i64 0 255] (rowG enI (caN (bxX (xI x0) (xI x1) (xI x2) (xI x3) (xI x4) (xI x5)) (lstX deI x6) 48).1.cs) x28.r x28.i 2097152 := by
  rw [c6]
  exact rowEq_of eqEl_int r17.1 r17.2.1 rfl
 exact ⟨⟨rngI c0 h11, rngI c1 h12, rngI c2 h13, rngI c3 h14, rngI c4 h15, rngI c5 h16, c8⟩, rngI c7 h10, trivial⟩
theorem kCanR : RCtrOk Tryz.prog ρ0 cCanR := by
 refine rctr_ofN (cf := cfG none [] [cTurGR, cPpR, cLesR] lpCanR sumC) (cfG_ok keep0 (((keepR0.cons kLesR nLesR).cons kPpR nPpR).cons kTurGR nTurGR) noF) Tryz.func18 rfl 400 rfl (sh := shG) (by kernel_rfl) val_rsh fun ds hr hp => ?_
 have hr := rshX_flat hr
 match ds, hr, hp with
 | [d0, d1, d2, d3, d4, d5, d6], hr, hp =>
  obtain ⟨⟨e0, l0, u0⟩, ⟨e1, l1, u1⟩, ⟨e2, l2, u2⟩, ⟨e3, l3, u3⟩, ⟨e4, l4, u4⟩, ⟨e5, l5, u5⟩, l6, _⟩ := hr
  generalize d0.i = x0, d1.i = x1, d2.i = x2, d3.i = x3, d4.i = x4, d5.i = x5, d6 = x6 at *
  subst e0 e1 e2 e3 e4 e5
  exact Eq.mpr (CanRL x0 x1 x2 x3 x4 x5 x6) (CanRO x0 x1 x2 x3 x4 x5 x6 ⟨l0, u0⟩ ⟨l1, u1⟩ ⟨l2, u2⟩ ⟨l3, u3⟩ ⟨l4, u4⟩ ⟨l5, u5⟩ l6 hp)
theorem nCanR : Hs cCanR.f := ⟨_, Tryz.func18, by kernel_rfl, by kernel_rfl⟩
def LikRP (x0 x1 x2 x3 x4 x5 : Int) (x6 : X) (x7 x8 x9 x10 x11 x12 : Int) (x13 : X) : Prop :=
 let A := [xI x0, xI x1, xI x2, xI x3, xI x4, xI x5, x6, xI x7, xI x8, xI x9, xI x10, xI x11, xI x12, x13]; (Px 710 [xI x0, xI x1, xI x2, xI x3, xI x4, xI x5, x6] ∧
(Px 710 [xI x7, xI x8, xI x9, xI x10, xI x11, xI x12, x13] ∧
(let v2 := Ff 1042 [xI x0, xI x1, xI x2, xI x3, xI x4, xI x5, x6]; let v3 := Ff 1043 [xI x0, xI x1, xI x2, xI x3, xI x4, xI x5, x6]; let v4 := Ff 1044 [xI x0, xI x1, xI x2, xI x3, xI x4, xI x5, x6]; let v5 := Ff 1045 [xI x0, xI x1, xI x2, xI x3, xI x4, xI x5, x6]; let v6 := Ff 1046 [xI x0, xI x1, xI x2, xI x3, xI x4, xI x5, x6]; let v7 := Ff 1047 [xI x0, xI x1, xI x2, xI x3, xI x4, xI x5, x6]; let v8 := Ff 1048 [xI x0, xI x1, xI x2, xI x3, xI x4, xI x5, x6]; let v9 := Ff 1042 [xI x7, xI x8, xI x9, xI x10, xI x11, xI x12, x13]; let v10 := Ff 1043 [xI x7, xI x8, xI x9, xI x10, xI x11, xI x12, x13]; let v11 := Ff 1044 [xI x7, xI x8, xI x9, xI x10, xI x11, xI x12, x13]; let v12 := Ff 1045 [xI x7, xI x8, xI x9, xI x10, xI x11, xI x12, x13]; let v13 := Ff 1046 [xI x7, xI x8, xI x9, xI x10, xI x11, xI x12, x13]; let v14 := Ff 1047 [xI x7, xI x8, xI x9, xI x10, xI x11, xI x12, x13]; let v15 := Ff 1048 [xI x7, xI x8, xI x9, xI x10, xI x11, xI x12, x13]; let v16 := Ff 715 [xI v2.i, xI v3.i, xI v4.i, xI v5.i, xI v6.i, xI v7.i, v8, xI v9.i, xI v10.i, xI v11.i, xI v12.i, xI v13.i, xI v14.i, v15]; ((v16.b = true) ↔ (Ff 1050 A).b = true))))
theorem LikRL (x0 x1 x2 x3 x4 x5 : Int) (x6 : X) (x7 x8 x9 x10 x11 x12 : Int) (x13 : X) : (ctrR (fun j => Ff j [xI x0, xI x1, xI x2, xI x3, xI x4, xI x5, x6, xI x7, xI x8, xI x9, xI x10, xI x11, xI x12, x13]) cLikR.fs cLikR.res { ρ0 with x := fun j => [xI x0, xI x1, xI x2, xI x3, xI x4, xI x5, x6, xI x7, xI x8, xI x9, xI x10, xI x11, xI x12, x13].getD j (xI 0) } (walkR Tryz.prog (cfG none [] [cCanR, cEqR] [] sumC) Tryz.f24 400 shPaste)) = LikRP x0 x1 x2 x3 x4 x5 x6 x7 x8 x9 x10 x11 x12 x13 := by kernel_rfl
set_option maxHeartbeats 4000000 in
theorem LikRO (x0 x1 x2 x3 x4 x5 : Int) (x6 : X) (x7 x8 x9 x10 x11 x12 : Int) (x13 : X) (g0 : -1048575 ≤ x0 ∧ x0 ≤ 1048575) (g1 : -1048575 ≤ x1 ∧ x1 ≤ 1048575) (g2 : -1048575 ≤ x2 ∧ x2 ≤ 1048575) (g3 : -1048575 ≤ x3 ∧ x3 ≤ 1048575) (g4 : -1048575 ≤ x4 ∧ x4 ≤ 1048575) (g5 : -1048575 ≤ x5 ∧ x5 ≤ 1048575) (g6 : 0 ≤ x6.i ∧ x6.i ≤ 2097152 ∧ RowOk SMat x6.r x6.i.toNat) (g7 : -1048575 ≤ x7 ∧ x7 ≤ 1048575) (g8 : -1048575 ≤ x8 ∧ x8 ≤ 1048575) (g9 : -1048575 ≤ x9 ∧ x9 ≤ 1048575) (g10 : -1048575 ≤ x10 ∧ x10 ≤ 1048575) (g11 : -1048575 ≤ x11 ∧ x11 ≤ 1048575) (g12 : -1048575 ≤ x12 ∧ x12 ≤ 1048575) (g13 : 0 ≤ x13.i ∧ x13.i ≤ 2097152 ∧ RowOk SMat x13.r x13.i.toNat) (gp : Px cLikR.pre.get! [xI x0, xI x1, xI x2, xI x3, xI x4, xI x5, x6, xI x7, xI x8, xI x9, xI x10, xI x11, xI x12, x13]) : LikRP x0 x1 x2 x3 x4 x5 x6 x7 x8 x9 x10 x11 x12 x13 := by
 unfold LikRP
 intro A
 refine andI ?_ fun o0 => ?_
 ·exact gp.1
 refine andI ?_ fun o1 => ?_
 ·exact gp.2
 intro v2 v3 v4 v5 v6 v7 v8 v9 v10 v11 v12 v13 v14 v15 v16
 have gv : validG ⟨(bxX (xI x0) (xI x1) (xI x2) (xI x3) (xI x4) (xI x5)), lstX deI x6⟩ = true := gp.1
 have gw : validG ⟨(bxX (xI x7) (xI x8) (xI x9) (xI x10) (xI x11) (xI x12)), lstX deI x13⟩ = true := gp.2
 have e8 : lstX deI v8 = (caN (bxX (xI x0) (xI x1) (xI x2) (xI x3) (xI x4) (xI x5)) (lstX deI x6) 48).1.cs := lst_rowI (l := (caN (bxX (xI x0) (xI x1) (xI x2) (xI x3) (xI x4) (xI x5)) (lstX deI x6) 48).1.cs)
 have e15 : lstX deI v15 = (caN (bxX (xI x7) (xI x8) (xI x9) (xI x10) (xI x11) (xI x12)) (lstX deI x13) 48).1.cs := lst_rowI (l := (caN (bxX (xI x7) (xI x8) (xI x9) (xI x10) (xI x11) (xI x12)) (lstX deI x13) 48).1.cs)
 have e : v16.b = decide (odB (caN (bxX (xI x0) (xI x1) (xI x2) (xI x3) (xI x4) (xI x5)) (lstX deI x6) 48).1.bx (caN (bxX (xI x0) (xI x1) (xI x2) (xI x3) (xI x4) (xI x5)) (lstX deI x6) 48).1.cs (caN (bxX (xI x7) (xI x8) (xI x9) (xI x10) (xI x11) (xI x12)) (lstX deI x13) 48).1.bx (caN (bxX (xI x7) (xI x8) (xI x9) (xI x10) (xI x11) (xI x12)) (lstX deI x13) 48).1.cs = 0) := by
  show eqG (caN (bxX (xI x0) (xI x1) (xI x2) (xI x3) (xI x4) (xI x5)) (lstX deI x6) 48).1.bx (lstX deI v8) (caN (bxX (xI x7) (xI x8) (xI x9) (xI x10) (xI x11) (xI x12)) (lstX deI x13) 48).1.bx (lstX deI v15) = _
  rw [e8, e15, eq_od (caN_O gv 48) (caN_O gw 48)]
 rw [e]
 exact Iff.rfl
theorem kLikR : RCtrOk Tryz.prog ρ0 cLikR := by
 refine rctr_ofN (cf := cfG none [] [cCanR, cEqR] [] sumC) (cfG_ok keep0 ((keepR0.cons kEqR nEqR).cons kCanR nCanR) noF) Tryz.func24 rfl 400 rfl (sh := shPaste) (by kernel_rfl) pas_rsh fun ds hr hp => ?_
 have hr := rshX_flat hr
 match ds, hr, hp with
 | [d0, d1, d2, d3, d4, d5, d6, d7, d8, d9, d10, d11, d12, d13], hr, hp =>
  obtain ⟨⟨e0, l0, u0⟩, ⟨e1, l1, u1⟩, ⟨e2, l2, u2⟩, ⟨e3, l3, u3⟩, ⟨e4, l4, u4⟩, ⟨e5, l5, u5⟩, l6, ⟨e7, l7, u7⟩, ⟨e8, l8, u8⟩, ⟨e9, l9, u9⟩, ⟨e10, l10, u10⟩, ⟨e11, l11, u11⟩, ⟨e12, l12, u12⟩, l13, _⟩ := hr
  generalize d0.i = x0, d1.i = x1, d2.i = x2, d3.i = x3, d4.i = x4, d5.i = x5, d6 = x6, d7.i = x7, d8.i = x8, d9.i = x9, d10.i = x10, d11.i = x11, d12.i = x12, d13 = x13 at *
  subst e0 e1 e2 e3 e4 e5 e7 e8 e9 e10 e11 e12
  exact Eq.mpr (LikRL x0 x1 x2 x3 x4 x5 x6 x7 x8 x9 x10 x11 x12 x13) (LikRO x0 x1 x2 x3 x4 x5 x6 x7 x8 x9 x10 x11 x12 x13 ⟨l0, u0⟩ ⟨l1, u1⟩ ⟨l2, u2⟩ ⟨l3, u3⟩ ⟨l4, u4⟩ ⟨l5, u5⟩ l6 ⟨l7, u7⟩ ⟨l8, u8⟩ ⟨l9, u9⟩ ⟨l10, u10⟩ ⟨l11, u11⟩ ⟨l12, u12⟩ l13 hp)
theorem nLikR : Hs cLikR.f := ⟨_, Tryz.func24, by kernel_rfl, by kernel_rfl⟩
end Vc
end Go.Proofs.YtaacclebncplbaaGreatDoor
