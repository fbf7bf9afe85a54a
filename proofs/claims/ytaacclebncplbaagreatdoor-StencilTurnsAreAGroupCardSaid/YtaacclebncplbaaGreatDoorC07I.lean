/- Contracts of functions, each out of one walk. -/
import Derived.Test.YtaacclebncplbaaGreatDoorC07Ha
import Derived.Test.YtaacclebncplbaaGreatDoorC07R
import Derived.Test.YtaacclebncplbaaGreatDoorC07S
import Derived.Test.YtaacclebncplbaaGreatDoorC07T
import Derived.Test.YtaacclebncplbaaGreatDoorC04D
import Derived.Test.YtaacclebncplbaaGreatDoorC04E
import Derived.Test.YtaacclebncplbaaGreatDoorC04L
import Derived.Test.YtaacclebncplbaaGreatDoorC04V
namespace Go.Proofs.YtaacclebncplbaaGreatDoor
namespace Vc
open Go Go.RowKit
set_option linter.unusedVariables false
def WrRP (x0 x1 x2 x3 x4 x5 : Int) (x6 : X) (x7 : X) : Prop :=
 let A := [xI x0, xI x1, xI x2, xI x3, xI x4, xI x5, x6, x7]; (Px 973 (A ++ [xI 0, x6]) ∧
(∀ x20 : X, (∀ x21 : X, (((0 ≤ x20.i) ∧ (x20.i ≤ 9223372036854775807)) →
((0 ≤ x21.i ∧ x21.i ≤ 2097152 ∧ RowOk SMat x21.r (x21.i).toNat) →
(Px 973 (A ++ [x20, x21]) →
(((x20.i < x7.i) →
((x20.i < x7.i) ∧
(let v7 := Ff 260 [xI x0, xI x1, xI x2, xI x3, xI x4, xI x5, (xI (x7.r x20.i 0).i), (xI (x7.r x20.i 1).i), (xI (x7.r x20.i 2).i)]; (((0 ≤ v7.i) →
((v7.i < x21.i) ∧
((x20.i < x7.i) ∧
(Px 973 (A ++ [(xI (x20.i + 1)), (mkX (rwSet x21.r v7.i 0 (selX x7.r x20.i 4)) x21.i)]) ∧
(((Ff 973 (A ++ [(xI (x20.i + 1)), (mkX (rwSet x21.r v7.i 0 (selX x7.r x20.i 4)) x21.i)])).i < (Ff 973 (A ++ [x20, x21])).i) ∧
(0 < (Ff 973 (A ++ [x20, x21])).i)))))) ∧
((¬ (0 ≤ v7.i)) →
(Px 973 (A ++ [(xI (x20.i + 1)), x21]) ∧
(((Ff 973 (A ++ [(xI (x20.i + 1)), x21])).i < (Ff 973 (A ++ [x20, x21])).i) ∧
(0 < (Ff 973 (A ++ [x20, x21])).i)))))))) ∧
((¬ (x20.i < x7.i)) →
((rI x0 (Ff 910 A).i (-1048575) 1048575) ∧ ((rI x1 (Ff 911 A).i (-1048575) 1048575) ∧ ((rI x2 (Ff 912 A).i (-1048575) 1048575) ∧ ((rI x3 (Ff 913 A).i (-1048575) 1048575) ∧ ((rI x4 (Ff 914 A).i (-1048575) 1048575) ∧ ((rI x5 (Ff 915 A).i (-1048575) 1048575) ∧ (rowEq SMat (Ff 916 A) x21.r x21.i 2097152)))))))))))))))
theorem WrRL (x0 x1 x2 x3 x4 x5 : Int) (x6 : X) (x7 : X) : (ctrR (fun j => Ff j [xI x0, xI x1, xI x2, xI x3, xI x4, xI x5, x6, x7]) cWrR.fs cWrR.res { ρ0 with x := fun j => [xI x0, xI x1, xI x2, xI x3, xI x4, xI x5, x6, x7].getD j (xI 0) } (walkR Tryz.prog (cfG none [cIndexR] [] lpWrR sumC) Tryz.f30 400 shWr)) = WrRP x0 x1 x2 x3 x4 x5 x6 x7 := by kernel_rfl
set_option maxHeartbeats 4000000 in
theorem WrRO (x0 x1 x2 x3 x4 x5 : Int) (x6 : X) (x7 : X) (g0 : -1048575 ≤ x0 ∧ x0 ≤ 1048575) (g1 : -1048575 ≤ x1 ∧ x1 ≤ 1048575) (g2 : -1048575 ≤ x2 ∧ x2 ≤ 1048575) (g3 : -1048575 ≤ x3 ∧ x3 ≤ 1048575) (g4 : -1048575 ≤ x4 ∧ x4 ≤ 1048575) (g5 : -1048575 ≤ x5 ∧ x5 ≤ 1048575) (g6 : 0 ≤ x6.i ∧ x6.i ≤ 2097152 ∧ RowOk SMat x6.r x6.i.toNat) (g7 : 0 ≤ x7.i ∧ x7.i ≤ 9223372036854775807 ∧ RowOk [.int .i64 (-1048576) (1048576), .int .i64 (-1048576) (1048576), .int .i64 (-1048576) (1048576), .int .i64 (-9223372036854775808) (9223372036854775807), .int .i64 (0) (255)] x7.r x7.i.toNat) (gp : Px cWrR.pre.get! [xI x0, xI x1, xI x2, xI x3, xI x4, xI x5, x6, x7]) : WrRP x0 x1 x2 x3 x4 x5 x6 x7 := by
 unfold WrRP
 intro A
 obtain ⟨gv, gc⟩ := gp
 obtain ⟨k0, k1, k2, k3, k4⟩ := (v700 g6.1).1 gv
 have hV : (bxI x0 x1 x2 x3 x4 x5).vol = x6.i := k3
 refine andI ?_ fun o0 => ?_
 ·exact ⟨Int.le_refl _, g7.1, rfl, rfl⟩
 intro x20 x21 h1 r2 p3
 obtain ⟨q0, q1, q2, q3⟩ := p3
 have q2 : x21.i = x6.i := q2
 have q3 : lstX deI x21 = wrL (bxI x0 x1 x2 x3 x4 x5) (lstX deI x6) ((lstX deC x7).take x20.i.toNat) := q3
 refine And.intro ?_ ?_
 ·intro h5
  refine andI ?_ fun o6 => ?_
  ·exact h5
  intro v7
  have hx : 0 ≤ v7.i → v7.i < x6.i := fun h => by
   have h9 : v7.i < (bxI x0 x1 x2 x3 x4 x5).vol := (idx_ok (b := bxI x0 x1 x2 x3 x4 x5) (p := ((x7.r x20.i 0).i, (x7.r x20.i 1).i, (x7.r x20.i 2).i)) (idx_has.1 h)).2
   omega
  have hs : wrL (bxI x0 x1 x2 x3 x4 x5) (lstX deI x6) ((lstX deC x7).take (x20.i + 1).toNat) = setL (bxI x0 x1 x2 x3 x4 x5) (lstX deI x21) ((x7.r x20.i 0).i, (x7.r x20.i 1).i, (x7.r x20.i 2).i) (x7.r x20.i 4).i := by
   rw [lx_take h1.1 h5, wr_snoc, ← q3]
   rfl
  refine And.intro ?_ ?_
  ·intro h9
   refine andI ?_ fun o10 => ?_
   ·have := hx h9
    omega
   refine andI ?_ fun o11 => ?_
   ·exact h5
   refine andI ?_ fun o12 => ?_
   ·refine ⟨show 0 ≤ x20.i + 1 by omega, show x20.i + 1 ≤ x7.i by omega, q2, ?_⟩
    show _ = wrL (bxI x0 x1 x2 x3 x4 x5) (lstX deI x6) ((lstX deC x7).take (x20.i + 1).toNat)
    rw [hs, deI_set h9]
    exact (if_pos h9).symm
   refine andI ?_ fun o13 => ?_
   ·show x7.i + 1 - (x20.i + 1) < x7.i + 1 - x20.i
    omega
   show 0 < x7.i + 1 - x20.i
   omega
  intro h14
  refine andI ?_ fun o15 => ?_
  ·refine ⟨show 0 ≤ x20.i + 1 by omega, show x20.i + 1 ≤ x7.i by omega, q2, ?_⟩
   show _ = wrL (bxI x0 x1 x2 x3 x4 x5) (lstX deI x6) ((lstX deC x7).take (x20.i + 1).toNat)
   rw [hs]
   exact (if_neg h14).symm
  refine andI ?_ fun o16 => ?_
  ·show x7.i + 1 - (x20.i + 1) < x7.i + 1 - x20.i
   omega
  show 0 < x7.i + 1 - x20.i
  omega
 intro h17
 refine ⟨⟨rfl, g0⟩, ⟨rfl, g1⟩, ⟨rfl, g2⟩, ⟨rfl, g3⟩, ⟨rfl, g4⟩, ⟨rfl, g5⟩, rowEq_of eqEl_int r2.1 r2.2.1 ?_⟩
 rw [lx_all (by omega)] at q3
 exact q3
theorem kWrR : RCtrOk Tryz.prog ρ0 cWrR := by
 refine rctr_ofN (cf := cfG none [cIndexR] [] lpWrR sumC) (cfG_ok (keep0.cons kIndexR nIndexR) keepR0 noF) Tryz.func30 rfl 400 rfl (sh := shWr) (by kernel_rfl) wr_rsh fun ds hr hp => ?_
 have hr := rshX_flat hr
 match ds, hr, hp with
 | [d0, d1, d2, d3, d4, d5, d6, d7], hr, hp =>
  obtain ⟨⟨e0, l0, u0⟩, ⟨e1, l1, u1⟩, ⟨e2, l2, u2⟩, ⟨e3, l3, u3⟩, ⟨e4, l4, u4⟩, ⟨e5, l5, u5⟩, l6, l7, _⟩ := hr
  generalize d0.i = x0, d1.i = x1, d2.i = x2, d3.i = x3, d4.i = x4, d5.i = x5, d6 = x6, d7 = x7 at *
  subst e0 e1 e2 e3 e4 e5
  exact Eq.mpr (WrRL x0 x1 x2 x3 x4 x5 x6 x7) (WrRO x0 x1 x2 x3 x4 x5 x6 x7 ⟨l0, u0⟩ ⟨l1, u1⟩ ⟨l2, u2⟩ ⟨l3, u3⟩ ⟨l4, u4⟩ ⟨l5, u5⟩ l6 l7 hp)
theorem nWrR : Hs cWrR.f := ⟨_, Tryz.func30, by kernel_rfl, by kernel_rfl⟩
def ShfRP (x0 x1 x2 x3 x4 x5 : Int) (x6 : X) (x7 x8 x9 : Int) : Prop :=
 let A := [xI x0, xI x1, xI x2, xI x3, xI x4, xI x5, x6, xI x7, xI x8, xI x9]; (((0 < x6.i) →
((rI (x0 + x7) (Ff 930 A).i (-2097151) 2097151) ∧ ((rI (x1 + x8) (Ff 931 A).i (-2097151) 2097151) ∧ ((rI (x2 + x9) (Ff 932 A).i (-2097151) 2097151) ∧ ((rI (x3 + x7) (Ff 933 A).i (-2097151) 2097151) ∧ ((rI (x4 + x8) (Ff 934 A).i (-2097151) 2097151) ∧ ((rI (x5 + x9) (Ff 935 A).i (-2097151) 2097151) ∧ (rowEq SMat (Ff 936 A) x6.r x6.i 2097152)))))))) ∧
((¬ (0 < x6.i)) →
((rI x0 (Ff 930 A).i (-2097151) 2097151) ∧ ((rI x1 (Ff 931 A).i (-2097151) 2097151) ∧ ((rI x2 (Ff 932 A).i (-2097151) 2097151) ∧ ((rI x3 (Ff 933 A).i (-2097151) 2097151) ∧ ((rI x4 (Ff 934 A).i (-2097151) 2097151) ∧ ((rI x5 (Ff 935 A).i (-2097151) 2097151) ∧ (rowEq SMat (Ff 936 A) x6.r x6.i 2097152)))))))))
theorem ShfRL (x0 x1 x2 x3 x4 x5 : Int) (x6 : X) (x7 x8 x9 : Int) : (ctrR (fun j => Ff j [xI x0, xI x1, xI x2, xI x3, xI x4, xI x5, x6, xI x7, xI x8, xI x9]) cShfR.fs cShfR.res { ρ0 with x := fun j => [xI x0, xI x1, xI x2, xI x3, xI x4, xI x5, x6, xI x7, xI x8, xI x9].getD j (xI 0) } (walkR Tryz.prog (cfG none [] [] [] sumC) Tryz.f36 400 shShf)) = ShfRP x0 x1 x2 x3 x4 x5 x6 x7 x8 x9 := by kernel_rfl
set_option maxHeartbeats 4000000 in
theorem ShfRO (x0 x1 x2 x3 x4 x5 : Int) (x6 : X) (x7 x8 x9 : Int) (g0 : -1048575 ≤ x0 ∧ x0 ≤ 1048575) (g1 : -1048575 ≤ x1 ∧ x1 ≤ 1048575) (g2 : -1048575 ≤ x2 ∧ x2 ≤ 1048575) (g3 : -1048575 ≤ x3 ∧ x3 ≤ 1048575) (g4 : -1048575 ≤ x4 ∧ x4 ≤ 1048575) (g5 : -1048575 ≤ x5 ∧ x5 ≤ 1048575) (g6 : 0 ≤ x6.i ∧ x6.i ≤ 2097152 ∧ RowOk SMat x6.r x6.i.toNat) (g7 : -1048576 ≤ x7 ∧ x7 ≤ 1048576) (g8 : -1048576 ≤ x8 ∧ x8 ≤ 1048576) (g9 : -1048576 ≤ x9 ∧ x9 ≤ 1048576) (gp : Px cShfR.pre.get! [xI x0, xI x1, xI x2, xI x3, xI x4, xI x5, x6, xI x7, xI x8, xI x9]) : ShfRP x0 x1 x2 x3 x4 x5 x6 x7 x8 x9 := by
 unfold ShfRP
 intro A
 obtain ⟨k0, k1, k2, k3, k4⟩ := (v700 g6.1).1 gp
 have hr : rowEq [.int .i64 (0) (255)] (rowG enI (lstX deI x6)) x6.r x6.i 2097152 := rowEq_of eqEl_int g6.1 g6.2.1 rfl
 have hl : ((lstX deI x6).length : Int) = x6.i := by rw [lstX_len]; omega
 refine And.intro ?_ ?_
 ·intro h1
  have e : shfB (bxI x0 x1 x2 x3 x4 x5) (lstX deI x6) (x7, x8, x9) = ⟨x0 + x7, x1 + x8, x2 + x9, x3 + x7, x4 + x8, x5 + x9⟩ := if_neg (by omega)
  refine ⟨rngI (c := x0 + x7) (congrArg Bx.a e) ?_, rngI (c := x1 + x8) (congrArg Bx.b e) ?_, rngI (c := x2 + x9) (congrArg Bx.c e) ?_, rngI (c := x3 + x7) (congrArg Bx.d e) ?_, rngI (c := x4 + x8) (congrArg Bx.e e) ?_, rngI (c := x5 + x9) (congrArg Bx.f e) ?_, hr⟩
  all_goals omega
 intro h2
 have e : shfB (bxI x0 x1 x2 x3 x4 x5) (lstX deI x6) (x7, x8, x9) = bxI x0 x1 x2 x3 x4 x5 := if_pos (by omega)
 refine ⟨rngI (c := x0) (congrArg Bx.a e) ?_, rngI (c := x1) (congrArg Bx.b e) ?_, rngI (c := x2) (congrArg Bx.c e) ?_, rngI (c := x3) (congrArg Bx.d e) ?_, rngI (c := x4) (congrArg Bx.e e) ?_, rngI (c := x5) (congrArg Bx.f e) ?_, hr⟩
 all_goals omega
theorem kShfR : RCtrOk Tryz.prog ρ0 cShfR := by
 refine rctr_ofN (cf := cfG none [] [] [] sumC) (cfG_ok keep0 keepR0 noF) Tryz.func36 rfl 400 rfl (sh := shShf) (by kernel_rfl) val_rsh fun ds hr hp => ?_
 have hr := rshX_flat hr
 match ds, hr, hp with
 | [d0, d1, d2, d3, d4, d5, d6, d7, d8, d9], hr, hp =>
  obtain ⟨⟨e0, l0, u0⟩, ⟨e1, l1, u1⟩, ⟨e2, l2, u2⟩, ⟨e3, l3, u3⟩, ⟨e4, l4, u4⟩, ⟨e5, l5, u5⟩, l6, ⟨e7, l7, u7⟩, ⟨e8, l8, u8⟩, ⟨e9, l9, u9⟩, _⟩ := hr
  generalize d0.i = x0, d1.i = x1, d2.i = x2, d3.i = x3, d4.i = x4, d5.i = x5, d6 = x6, d7.i = x7, d8.i = x8, d9.i = x9 at *
  subst e0 e1 e2 e3 e4 e5 e7 e8 e9
  exact Eq.mpr (ShfRL x0 x1 x2 x3 x4 x5 x6 x7 x8 x9) (ShfRO x0 x1 x2 x3 x4 x5 x6 x7 x8 x9 ⟨l0, u0⟩ ⟨l1, u1⟩ ⟨l2, u2⟩ ⟨l3, u3⟩ ⟨l4, u4⟩ ⟨l5, u5⟩ l6 ⟨l7, u7⟩ ⟨l8, u8⟩ ⟨l9, u9⟩ hp)
theorem nShfR : Hs cShfR.f := ⟨_, Tryz.func36, by kernel_rfl, by kernel_rfl⟩
def TurGRP (x0 x1 x2 x3 x4 x5 x6 : Int) (x7 : X) : Prop :=
 let A := [xI x0, xI x1, xI x2, xI x3, xI x4, xI x5, xI x6, x7]; (Px 979 (A ++ [xI 0, x7]) ∧
(∀ x20 : X, (∀ x21 : X, (((0 ≤ x20.i) ∧ (x20.i ≤ 2097152)) →
((0 ≤ x21.i ∧ x21.i ≤ 2097152 ∧ RowOk SMat x21.r (x21.i).toNat) →
(Px 979 (A ++ [x20, x21]) →
(((x20.i < x7.i) →
(let v6 := Ff 300 [xI x0, xI x1, xI x2, xI x3, xI x4, xI x5, xI x6]; let v7 := Ff 301 [xI x0, xI x1, xI x2, xI x3, xI x4, xI x5, xI x6]; let v8 := Ff 302 [xI x0, xI x1, xI x2, xI x3, xI x4, xI x5, xI x6]; let v9 := Ff 303 [xI x0, xI x1, xI x2, xI x3, xI x4, xI x5, xI x6]; let v10 := Ff 304 [xI x0, xI x1, xI x2, xI x3, xI x4, xI x5, xI x6]; let v11 := Ff 305 [xI x0, xI x1, xI x2, xI x3, xI x4, xI x5, xI x6]; let v12 := Ff 270 [xI x1, xI x2, xI x3, xI x4, xI x5, xI x6, xI x20.i]; let v13 := Ff 271 [xI x1, xI x2, xI x3, xI x4, xI x5, xI x6, xI x20.i]; let v14 := Ff 272 [xI x1, xI x2, xI x3, xI x4, xI x5, xI x6, xI x20.i]; let v15 := Ff 293 [xI x0, xI v12.i, xI v13.i, xI v14.i]; let v16 := Ff 294 [xI x0, xI v12.i, xI v13.i, xI v14.i]; let v17 := Ff 295 [xI x0, xI v12.i, xI v13.i, xI v14.i]; let v18 := Ff 260 [xI v6.i, xI v7.i, xI v8.i, xI v9.i, xI v10.i, xI v11.i, xI v15.i, xI v16.i, xI v17.i]; ((0 ≤ v18.i) ∧
((v18.i < x21.i) ∧
((x20.i < x7.i) ∧
(Px 979 (A ++ [(xI (x20.i + 1)), (mkX (rwSet x21.r v18.i 0 (selX x7.r x20.i 0)) x21.i)]) ∧
(((Ff 979 (A ++ [(xI (x20.i + 1)), (mkX (rwSet x21.r v18.i 0 (selX x7.r x20.i 0)) x21.i)])).i < (Ff 979 (A ++ [x20, x21])).i) ∧
(0 < (Ff 979 (A ++ [x20, x21])).i)))))))) ∧
((¬ (x20.i < x7.i)) →
(let v25 := Ff 300 [xI x0, xI x1, xI x2, xI x3, xI x4, xI x5, xI x6]; let v26 := Ff 301 [xI x0, xI x1, xI x2, xI x3, xI x4, xI x5, xI x6]; let v27 := Ff 302 [xI x0, xI x1, xI x2, xI x3, xI x4, xI x5, xI x6]; let v28 := Ff 303 [xI x0, xI x1, xI x2, xI x3, xI x4, xI x5, xI x6]; let v29 := Ff 304 [xI x0, xI x1, xI x2, xI x3, xI x4, xI x5, xI x6]; let v30 := Ff 305 [xI x0, xI x1, xI x2, xI x3, xI x4, xI x5, xI x6]; ((rI v25.i (Ff 940 A).i (-1048575) 1048575) ∧ ((rI v26.i (Ff 941 A).i (-1048575) 1048575) ∧ ((rI v27.i (Ff 942 A).i (-1048575) 1048575) ∧ ((rI v28.i (Ff 943 A).i (-1048575) 1048575) ∧ ((rI v29.i (Ff 944 A).i (-1048575) 1048575) ∧ ((rI v30.i (Ff 945 A).i (-1048575) 1048575) ∧ (rowEq SMat (Ff 946 A) x21.r x21.i 2097152))))))))))))))))
theorem TurGRL (x0 x1 x2 x3 x4 x5 x6 : Int) (x7 : X) : (ctrR (fun j => Ff j [xI x0, xI x1, xI x2, xI x3, xI x4, xI x5, xI x6, x7]) cTurGR.fs cTurGR.res { ρ0 with x := fun j => [xI x0, xI x1, xI x2, xI x3, xI x4, xI x5, xI x6, x7].getD j (xI 0) } (walkR Tryz.prog (cfG none [cAtR, cIndexR, cCellR, cBoxR] [] lpTurGR sumC) Tryz.f32 400 shTur)) = TurGRP x0 x1 x2 x3 x4 x5 x6 x7 := by kernel_rfl
set_option maxHeartbeats 4000000 in
theorem TurGRO (x0 x1 x2 x3 x4 x5 x6 : Int) (x7 : X) (g0 : -9223372036854775808 ≤ x0 ∧ x0 ≤ 9223372036854775807) (g1 : -1048575 ≤ x1 ∧ x1 ≤ 1048575) (g2 : -1048575 ≤ x2 ∧ x2 ≤ 1048575) (g3 : -1048575 ≤ x3 ∧ x3 ≤ 1048575) (g4 : -1048575 ≤ x4 ∧ x4 ≤ 1048575) (g5 : -1048575 ≤ x5 ∧ x5 ≤ 1048575) (g6 : -1048575 ≤ x6 ∧ x6 ≤ 1048575) (g7 : 0 ≤ x7.i ∧ x7.i ≤ 2097152 ∧ RowOk SMat x7.r x7.i.toNat) (gp : Px cTurGR.pre.get! [xI x0, xI x1, xI x2, xI x3, xI x4, xI x5, xI x6, x7]) : TurGRP x0 x1 x2 x3 x4 x5 x6 x7 := by
 unfold TurGRP
 intro A
 obtain ⟨k0, k1, k2, k3, k4⟩ := (v700 g7.1).1 gp
 have hV : (bxI x1 x2 x3 x4 x5 x6).vol = x7.i := k3
 have t0 := tur_in (s := x0) k0 0
 have t1 := tur_in (s := x0) k0 1
 have t2 := tur_in (s := x0) k0 2
 refine andI ?_ fun o0 => ?_
 ·exact ⟨Int.le_refl _, g7.1, rfl, rfl⟩
 intro x20 x21 h1 r2 p3
 obtain ⟨q0, q1, q2, q3⟩ := p3
 have q2 : x21.i = x7.i := q2
 have q3 : lstX deI x21 = turN x0 (bxI x1 x2 x3 x4 x5 x6) (lstX deI x7) x20.i.toNat := q3
 refine And.intro ?_ ?_
 ·intro h5 v6 v7 v8 v9 v10 v11 v12 v13 v14 v15 v16 v17 v18
  have hh : (turB x0 (bxI x1 x2 x3 x4 x5 x6)).has (tcP x0 ((bxI x1 x2 x3 x4 x5 x6).at x20.i)) = true := tur_has.2 (at_has h1.1 (by omega))
  have h34 : 0 ≤ v18.i ∧ v18.i < (turB x0 (bxI x1 x2 x3 x4 x5 x6)).vol := idx_ok hh
  have hv : (turB x0 (bxI x1 x2 x3 x4 x5 x6)).vol = x7.i := tur_vol.trans hV
  refine andI ?_ fun o19 => ?_
  ·omega
  refine andI ?_ fun o20 => ?_
  ·omega
  refine andI ?_ fun o21 => ?_
  ·exact h5
  refine andI ?_ fun o22 => ?_
  ·refine ⟨show 0 ≤ x20.i + 1 by omega, show x20.i + 1 ≤ x7.i by omega, q2, ?_⟩
   show _ = turN x0 (bxI x1 x2 x3 x4 x5 x6) (lstX deI x7) (x20.i + 1).toNat
   rw [toS7 h1.1, deI_set h34.1]
   show (lstX deI x21).set v18.i.toNat (x7.r x20.i 0).i = (turN x0 (bxI x1 x2 x3 x4 x5 x6) (lstX deI x7) x20.i.toNat).set ((turB x0 (bxI x1 x2 x3 x4 x5 x6)).idx (tcP x0 ((bxI x1 x2 x3 x4 x5 x6).at (x20.i.toNat : Nat)))).toNat ((lstX deI x7).getD x20.i.toNat 0)
   rw [Int.toNat_of_nonneg h1.1, lxI_at h1.1 h5, q3]
   rfl
  refine andI ?_ fun o23 => ?_
  ·show x7.i + 1 - (x20.i + 1) < x7.i + 1 - x20.i
   omega
  show 0 < x7.i + 1 - x20.i
  omega
 intro h24 v25 v26 v27 v28 v29 v30
 refine ⟨⟨rfl, t0.1⟩, ⟨rfl, t1.1⟩, ⟨rfl, t2.1⟩, ⟨rfl, t0.2⟩, ⟨rfl, t1.2⟩, ⟨rfl, t2.2⟩, rowEq_of eqEl_int r2.1 r2.2.1 ?_⟩
 have e : (lstX deI x7).length = x20.i.toNat := by
  rw [lstX_len]
  have q1 : x20.i ≤ x7.i := q1
  omega
 show lstX deI x21 = turN x0 (bxI x1 x2 x3 x4 x5 x6) (lstX deI x7) (lstX deI x7).length
 rw [e]
 exact q3
theorem kTurGR : RCtrOk Tryz.prog ρ0 cTurGR := by
 refine rctr_ofN (cf := cfG none [cAtR, cIndexR, cCellR, cBoxR] [] lpTurGR sumC) (cfG_ok ((((keep0.cons kBoxR nBoxR).cons kCellR nCellR).cons kIndexR nIndexR).cons kAtR nAtR) keepR0 noF) Tryz.func32 rfl 400 rfl (sh := shTur) (by kernel_rfl) tur_rsh fun ds hr hp => ?_
 have hr := rshX_flat hr
 match ds, hr, hp with
 | [d0, d1, d2, d3, d4, d5, d6, d7], hr, hp =>
  obtain ⟨⟨e0, l0, u0⟩, ⟨e1, l1, u1⟩, ⟨e2, l2, u2⟩, ⟨e3, l3, u3⟩, ⟨e4, l4, u4⟩, ⟨e5, l5, u5⟩, ⟨e6, l6, u6⟩, l7, _⟩ := hr
  generalize d0.i = x0, d1.i = x1, d2.i = x2, d3.i = x3, d4.i = x4, d5.i = x5, d6.i = x6, d7 = x7 at *
  subst e0 e1 e2 e3 e4 e5 e6
  exact Eq.mpr (TurGRL x0 x1 x2 x3 x4 x5 x6 x7) (TurGRO x0 x1 x2 x3 x4 x5 x6 x7 ⟨l0, u0⟩ ⟨l1, u1⟩ ⟨l2, u2⟩ ⟨l3, u3⟩ ⟨l4, u4⟩ ⟨l5, u5⟩ ⟨l6, u6⟩ l7 hp)
theorem nTurGR : Hs cTurGR.f := ⟨_, Tryz.func32, by kernel_rfl, by kernel_rfl⟩
def DifRP (x0 x1 x2 x3 x4 x5 : Int) (x6 : X) (x7 x8 x9 x10 x11 x12 : Int) (x13 : X) : Prop :=
 let A := [xI x0, xI x1, xI x2, xI x3, xI x4, xI x5, x6, xI x7, xI x8, xI x9, xI x10, xI x11, xI x12, x13]; (Px 989 (A ++ [xI 0, (mkX (rwTab 1 []) 0)]) ∧
(∀ x20 : X, (∀ x21 : X, (((0 ≤ x20.i) ∧ (x20.i ≤ 2097152)) →
((0 ≤ x21.i ∧ x21.i ≤ 2097152 ∧ RowOk SDr x21.r (x21.i).toNat) →
(Px 989 (A ++ [x20, x21]) →
(((x20.i < x6.i) →
(let v6 := Ff 270 [xI x0, xI x1, xI x2, xI x3, xI x4, xI x5, xI x20.i]; let v7 := Ff 271 [xI x0, xI x1, xI x2, xI x3, xI x4, xI x5, xI x20.i]; let v8 := Ff 272 [xI x0, xI x1, xI x2, xI x3, xI x4, xI x5, xI x20.i]; let v9 := Ff 201 [xI v6.i, xI v7.i, xI v8.i, xI x7, xI x8, xI x9, xI x10, xI x11, xI x12]; (((v9.b = true) →
(x20.i < x6.i)) ∧
(((v9.b = true) →
 Px 710 [xI x7, xI x8, xI x9, xI x10, xI x11, xI x12, x13, xI v6.i, xI v7.i, xI v8.i]) ∧
(let v14 := Ff 908 [xI x7, xI x8, xI x9, xI x10, xI x11, xI x12, x13, xI v6.i, xI v7.i, xI v8.i]; ((((v9.b = true) ∧ (¬ (v14.i = (x6.r x20.i 0).i))) →
(Px 710 [xI x7, xI x8, xI x9, xI x10, xI x11, xI x12, x13, xI v6.i, xI v7.i, xI v8.i] ∧
((x20.i < x6.i) ∧
(((x21.i + 1) ≤ 2097152) ∧
(Px 989 (A ++ [(xI (x20.i + 1)), (mkX (rwCat x21.r x21.i (rwTab 5 [v6, v7, v8, (selX x6.r x20.i 0), v14])) (x21.i + 1))]) ∧
(((Ff 989 (A ++ [(xI (x20.i + 1)), (mkX (rwCat x21.r x21.i (rwTab 5 [v6, v7, v8, (selX x6.r x20.i 0), v14])) (x21.i + 1))])).i < (Ff 989 (A ++ [x20, x21])).i) ∧
(0 < (Ff 989 (A ++ [x20, x21])).i))))))) ∧
((¬ ((v9.b = true) ∧ (¬ (v14.i = (x6.r x20.i 0).i)))) →
(Px 989 (A ++ [(xI (x20.i + 1)), x21]) ∧
(((Ff 989 (A ++ [(xI (x20.i + 1)), x21])).i < (Ff 989 (A ++ [x20, x21])).i) ∧
(0 < (Ff 989 (A ++ [x20, x21])).i)))))))))) ∧
((¬ (x20.i < x6.i)) →
(rowEq SDr (Ff 950 A) x21.r x21.i 2097152)))))))))
theorem DifRL (x0 x1 x2 x3 x4 x5 : Int) (x6 : X) (x7 x8 x9 x10 x11 x12 : Int) (x13 : X) : (ctrR (fun j => Ff j [xI x0, xI x1, xI x2, xI x3, xI x4, xI x5, x6, xI x7, xI x8, xI x9, xI x10, xI x11, xI x12, x13]) cDifR.fs cDifR.res { ρ0 with x := fun j => [xI x0, xI x1, xI x2, xI x3, xI x4, xI x5, x6, xI x7, xI x8, xI x9, xI x10, xI x11, xI x12, x13].getD j (xI 0) } (walkR Tryz.prog (cfG none [cAtR, cInR] [cGetR] lpDifR sumC) Tryz.f46 400 shPaste)) = DifRP x0 x1 x2 x3 x4 x5 x6 x7 x8 x9 x10 x11 x12 x13 := by kernel_rfl
set_option maxHeartbeats 4000000 in
theorem DifRO (x0 x1 x2 x3 x4 x5 : Int) (x6 : X) (x7 x8 x9 x10 x11 x12 : Int) (x13 : X) (g0 : -1048575 ≤ x0 ∧ x0 ≤ 1048575) (g1 : -1048575 ≤ x1 ∧ x1 ≤ 1048575) (g2 : -1048575 ≤ x2 ∧ x2 ≤ 1048575) (g3 : -1048575 ≤ x3 ∧ x3 ≤ 1048575) (g4 : -1048575 ≤ x4 ∧ x4 ≤ 1048575) (g5 : -1048575 ≤ x5 ∧ x5 ≤ 1048575) (g6 : 0 ≤ x6.i ∧ x6.i ≤ 2097152 ∧ RowOk SMat x6.r x6.i.toNat) (g7 : -1048575 ≤ x7 ∧ x7 ≤ 1048575) (g8 : -1048575 ≤ x8 ∧ x8 ≤ 1048575) (g9 : -1048575 ≤ x9 ∧ x9 ≤ 1048575) (g10 : -1048575 ≤ x10 ∧ x10 ≤ 1048575) (g11 : -1048575 ≤ x11 ∧ x11 ≤ 1048575) (g12 : -1048575 ≤ x12 ∧ x12 ≤ 1048575) (g13 : 0 ≤ x13.i ∧ x13.i ≤ 2097152 ∧ RowOk SMat x13.r x13.i.toNat) (gp : Px cDifR.pre.get! [xI x0, xI x1, xI x2, xI x3, xI x4, xI x5, x6, xI x7, xI x8, xI x9, xI x10, xI x11, xI x12, x13]) : DifRP x0 x1 x2 x3 x4 x5 x6 x7 x8 x9 x10 x11 x12 x13 := by
 unfold DifRP
 intro A
 obtain ⟨q1, q2⟩ := gp
 obtain ⟨k0, k1, k2, k3, k4⟩ := (v700 g6.1).1 q1
 refine andI ?_ fun o0 => ?_
 ·exact ⟨Int.le_refl _, g6.1, rfl⟩
 intro x20 x21 h1 r2 p3
 obtain ⟨i0, i1, i2⟩ := p3
 have i1 : x20.i ≤ x6.i := i1
 have i2 : lstX deC x21 = (List.range x20.i.toNat).filterMap (difP (bxI x0 x1 x2 x3 x4 x5) (lstX deI x6) (bxI x7 x8 x9 x10 x11 x12) (lstX deI x13)) := i2
 refine And.intro ?_ ?_
 ·intro h5
  have hs := difN_step (b := (bxI x0 x1 x2 x3 x4 x5)) (cs := lstX deI x6) (b' := (bxI x7 x8 x9 x10 x11 x12)) (cs' := lstX deI x13) h1.1
  rw [difP_eq, Int.toNat_of_nonneg h1.1, lxI_at h1.1 h5, ← i2] at hs
  intro v6 v7 v8 v9
  refine And.intro ?_ ?_
  ·intro h11
   exact h5
  refine And.intro ?_ ?_
  ·intro h13
   exact q2
  intro v14
  refine And.intro ?_ ?_
  ·intro h16
   have hs := hs.trans (congrArg (fun t => _ ++ Option.toList t) (if_pos h16))
   have hle := difN_len (b := (bxI x0 x1 x2 x3 x4 x5)) (cs := lstX deI x6) (b' := (bxI x7 x8 x9 x10 x11 x12)) (cs' := lstX deI x13) (k := x20.i + 1) (by omega)
   rw [hs, List.length_append, lstX_len, Option.toList_some, List.length_singleton] at hle
   refine andI ?_ fun o17 => ?_
   ·exact q2
   refine andI ?_ fun o18 => ?_
   ·exact h5
   refine andI ?_ fun o19 => ?_
   ·omega
   refine andI ?_ fun o20 => ?_
   ·exact ⟨show 0 ≤ x20.i + 1 by omega, show x20.i + 1 ≤ x6.i by omega, (lstX_push r2.1 5 _).trans hs.symm⟩
   refine andI ?_ fun o21 => ?_
   ·show x6.i + 1 - (x20.i + 1) < x6.i + 1 - x20.i
    omega
   show 0 < x6.i + 1 - x20.i
   omega
  intro h22
  have hs := hs.trans (congrArg (fun t => _ ++ Option.toList t) (if_neg h22))
  refine andI ?_ fun o23 => ?_
  ·exact ⟨show 0 ≤ x20.i + 1 by omega, show x20.i + 1 ≤ x6.i by omega, (hs.trans (List.append_nil _)).symm⟩
  refine andI ?_ fun o24 => ?_
  ·show x6.i + 1 - (x20.i + 1) < x6.i + 1 - x20.i
   omega
  show 0 < x6.i + 1 - x20.i
  omega
 intro h25
 refine rowEq_of eqEl_C r2.1 r2.2.1 ?_
 have e : x20.i.toNat = (lstX deI x6).length := by
  rw [lstX_len]
  omega
 rw [e] at i2
 exact i2
theorem kDifR : RCtrOk Tryz.prog ρ0 cDifR := by
 refine rctr_ofN (cf := cfG none [cAtR, cInR] [cGetR] lpDifR sumC) (cfG_ok ((keep0.cons kInR nInR).cons kAtR nAtR) (keepR0.cons kGetR nGetR) noF) Tryz.func46 rfl 400 rfl (sh := shPaste) (by kernel_rfl) pas_rsh fun ds hr hp => ?_
 have hr := rshX_flat hr
 match ds, hr, hp with
 | [d0, d1, d2, d3, d4, d5, d6, d7, d8, d9, d10, d11, d12, d13], hr, hp =>
  obtain ⟨⟨e0, l0, u0⟩, ⟨e1, l1, u1⟩, ⟨e2, l2, u2⟩, ⟨e3, l3, u3⟩, ⟨e4, l4, u4⟩, ⟨e5, l5, u5⟩, l6, ⟨e7, l7, u7⟩, ⟨e8, l8, u8⟩, ⟨e9, l9, u9⟩, ⟨e10, l10, u10⟩, ⟨e11, l11, u11⟩, ⟨e12, l12, u12⟩, l13, _⟩ := hr
  generalize d0.i = x0, d1.i = x1, d2.i = x2, d3.i = x3, d4.i = x4, d5.i = x5, d6 = x6, d7.i = x7, d8.i = x8, d9.i = x9, d10.i = x10, d11.i = x11, d12.i = x12, d13 = x13 at *
  subst e0 e1 e2 e3 e4 e5 e7 e8 e9 e10 e11 e12
  exact Eq.mpr (DifRL x0 x1 x2 x3 x4 x5 x6 x7 x8 x9 x10 x11 x12 x13) (DifRO x0 x1 x2 x3 x4 x5 x6 x7 x8 x9 x10 x11 x12 x13 ⟨l0, u0⟩ ⟨l1, u1⟩ ⟨l2, u2⟩ ⟨l3, u3⟩ ⟨l4, u4⟩ ⟨l5, u5⟩ l6 ⟨l7, u7⟩ ⟨l8, u8⟩ ⟨l9, u9⟩ ⟨l10, u10⟩ ⟨l11, u11⟩ ⟨l12, u12⟩ l13 hp)
theorem nDifR : Hs cDifR.f := ⟨_, Tryz.func46, by kernel_rfl, by kernel_rfl⟩
def SmCP (x0 : X) (x1 : X) : Prop :=
(((¬ (x0.i = x1.i)) →
((false = true) ↔ (Ff 951 [x0, x1]).b = true)) ∧
((x0.i = x1.i) →
(Px 990 [x0, x1, xI 0] ∧
(∀ x20 : X, (((0 ≤ x20.i) ∧ (x20.i ≤ 9223372036854775807)) →
(Px 990 [x0, x1, x20] →
(((x20.i < x0.i) →
((x20.i < x1.i) ∧
((x20.i < x0.i) ∧
(((¬ (((x0.r x20.i 0).i = (x1.r x20.i 0).i) ∧ (((x0.r x20.i 1).i = (x1.r x20.i 1).i) ∧ (((x0.r x20.i 2).i = (x1.r x20.i 2).i) ∧ (((x0.r x20.i 3).i = (x1.r x20.i 3).i) ∧ ((x0.r x20.i 4).i = (x1.r x20.i 4).i)))))) →
((false = true) ↔ (Ff 951 [x0, x1]).b = true)) ∧
((((x0.r x20.i 0).i = (x1.r x20.i 0).i) ∧ (((x0.r x20.i 1).i = (x1.r x20.i 1).i) ∧ (((x0.r x20.i 2).i = (x1.r x20.i 2).i) ∧ (((x0.r x20.i 3).i = (x1.r x20.i 3).i) ∧ ((x0.r x20.i 4).i = (x1.r x20.i 4).i))))) →
(Px 990 [x0, x1, (xI (x20.i + 1))] ∧
(((Ff 990 [x0, x1, (xI (x20.i + 1))]).i < (Ff 990 [x0, x1, x20]).i) ∧
(0 < (Ff 990 [x0, x1, x20]).i)))))))) ∧
((¬ (x20.i < x0.i)) →
((true = true) ↔ (Ff 951 [x0, x1]).b = true)))))))))
theorem SmCL (x0 : X) (x1 : X) : (ctrR (fun j => Ff j [x0, x1]) cSmC.fs cSmC.res { ρ0 with x := fun j => [x0, x1].getD j (xI 0) } (walkR Tryz.prog (cfG none [] [] lpSmC sumC) Tryz.f16 400 cSmC.args)) = SmCP x0 x1 := by kernel_rfl
set_option maxHeartbeats 4000000 in
theorem SmCO (x0 : X) (x1 : X) (g0 : 0 ≤ x0.i ∧ x0.i ≤ 9223372036854775807 ∧ RowOk [.int .i64 (-9223372036854775808) (9223372036854775807), .int .i64 (-9223372036854775808) (9223372036854775807), .int .i64 (-9223372036854775808) (9223372036854775807), .int .i64 (-9223372036854775808) (9223372036854775807), .int .i64 (-9223372036854775808) (9223372036854775807)] x0.r x0.i.toNat) (g1 : 0 ≤ x1.i ∧ x1.i ≤ 9223372036854775807 ∧ RowOk [.int .i64 (-9223372036854775808) (9223372036854775807), .int .i64 (-9223372036854775808) (9223372036854775807), .int .i64 (-9223372036854775808) (9223372036854775807), .int .i64 (-9223372036854775808) (9223372036854775807), .int .i64 (-9223372036854775808) (9223372036854775807)] x1.r x1.i.toNat) : SmCP x0 x1 := by
 unfold SmCP
 refine And.intro ?_ ?_
 ·intro h1
  exact iff_of_false Bool.false_ne_true fun hv => h1 ((lstC_eq g0.1 g1.1).1 (of_decide_eq_true hv)).1
 intro h2
 refine andI ?_ fun o3 => ?_
 ·exact ⟨Int.le_refl _, fun j hj => absurd hj (by show ¬ (j : Int) < 0; omega)⟩
 intro x20 h4 p5
 obtain ⟨i0, i1⟩ := p5
 refine And.intro ?_ ?_
 ·intro h7
  refine andI ?_ fun o8 => ?_
  ·omega
  refine andI ?_ fun o9 => ?_
  ·exact h7
  refine And.intro ?_ ?_
  ·intro h11
   refine iff_of_false Bool.false_ne_true fun hv => h11 ?_
   have e := ((lstC_eq g0.1 g1.1).1 (of_decide_eq_true hv)).2 x20.i.toNat (by omega)
   rw [Int.toNat_of_nonneg h4.1] at e
   exact ⟨congrArg (fun c => c.1.1) e, congrArg (fun c => c.1.2.1) e, congrArg (fun c => c.1.2.2) e, congrArg (fun c => c.2.1) e, congrArg (fun c => c.2.2) e⟩
  intro h12
  refine andI ?_ fun o13 => ?_
  ·refine ⟨show 0 ≤ x20.i + 1 by omega, fun j hj => ?_⟩
   have hj : (j : Int) < x20.i + 1 := hj
   by_cases ej : (j : Int) = x20.i
   ·obtain ⟨a, b, c, d, e⟩ := h12
    rw [ej]
    unfold deC
    rw [a, b, c, d, e]
   ·exact i1 j (by show (j : Int) < x20.i; omega)
  refine andI ?_ fun o14 => ?_
  ·show x0.i + 1 - (x20.i + 1) < x0.i + 1 - x20.i
   omega
  show 0 < x0.i + 1 - x20.i
  omega
 intro h15
 exact iff_of_true rfl (decide_eq_true ((lstC_eq g0.1 g1.1).2 ⟨h2, fun j hj => i1 j (by show (j : Int) < x20.i; omega)⟩))
theorem kSmC : RCtrOk Tryz.prog ρ0 cSmC := by
 refine rctr_of (cf := cfG none [] [] lpSmC sumC) (cfG_ok keep0 keepR0 noF) Tryz.func16 rfl 400 rfl fun ds hr => ?_
 have hr := rshX_flat hr
 match ds, hr with
 | [d0, d1], hr =>
  obtain ⟨l0, l1, _⟩ := hr
  generalize d0 = x0, d1 = x1 at *
  exact Eq.mpr (SmCL x0 x1) (SmCO x0 x1 l0 l1)
theorem nSmC : Hs cSmC.f := ⟨_, Tryz.func16, by kernel_rfl, by kernel_rfl⟩
end Vc
end Go.Proofs.YtaacclebncplbaaGreatDoor
