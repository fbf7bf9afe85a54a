/- Contracts of functions, each out of one walk. -/
import Derived.Test.YtpmfkelglmgddaaGreatDoorTcR
import Derived.Test.YtpmfkelglmgddaaGreatDoorC07N
import Derived.Test.YtpmfkelglmgddaaGreatDoorC04D
import Derived.Test.YtpmfkelglmgddaaGreatDoorC04E
namespace Go.Proofs.YtpmfkelglmgddaaGreatDoor
namespace Vc
open Go Go.RowKit
set_option linter.unusedVariables false
def uw (x0 x1 x2 x3 x4 x5 : Int) (x6 : X) : Prop :=
 let A := [xI x0, xI x1, xI x2, xI x3, xI x4, xI x5, x6]; ((((¬ (((((-1048575) ≤ x0) ∧ (x0 ≤ 1048575)) ∧ (((-1048575) ≤ x1) ∧ (x1 ≤ 1048575))) ∧ (((-1048575) ≤ x2) ∧ (x2 ≤ 1048575)))) ∨ (¬ (((((-1048575) ≤ x3) ∧ (x3 ≤ 1048575)) ∧ (((-1048575) ≤ x4) ∧ (x4 ≤ 1048575))) ∧ (((-1048575) ≤ x5) ∧ (x5 ≤ 1048575))))) →
((false = true) ↔ (Ff 700 A).b = true)) ∧
((¬ ((¬ (((((-1048575) ≤ x0) ∧ (x0 ≤ 1048575)) ∧ (((-1048575) ≤ x1) ∧ (x1 ≤ 1048575))) ∧ (((-1048575) ≤ x2) ∧ (x2 ≤ 1048575)))) ∨ (¬ (((((-1048575) ≤ x3) ∧ (x3 ≤ 1048575)) ∧ (((-1048575) ≤ x4) ∧ (x4 ≤ 1048575))) ∧ (((-1048575) ≤ x5) ∧ (x5 ≤ 1048575)))))) →
(let v3 := Ff 210 [xI x0, xI x1, xI x2, xI x3, xI x4, xI x5]; ((((((v3.i = 0) ∧ (¬ ((x0 = 0) ∧ ((x1 = 0) ∧ ((x2 = 0) ∧ ((x3 = 0) ∧ ((x4 = 0) ∧ (x5 = 0)))))))) ∨ (2097152 < v3.i)) ∨ (¬ (x6.i = v3.i))) →
((false = true) ↔ (Ff 700 A).b = true)) ∧
((¬ ((((v3.i = 0) ∧ (¬ ((x0 = 0) ∧ ((x1 = 0) ∧ ((x2 = 0) ∧ ((x3 = 0) ∧ ((x4 = 0) ∧ (x5 = 0)))))))) ∨ (2097152 < v3.i)) ∨ (¬ (x6.i = v3.i)))) →
(Px 720 (A ++ [xI 0]) ∧
(∀ x20 : X, (((0 ≤ x20.i) ∧ (x20.i ≤ 2097152)) →
(Px 720 (A ++ [x20]) →
(((x20.i < v3.i) →
((x20.i < x6.i) ∧
(((¬ ((0 ≤ (x6.r x20.i 0).i) ∧ ((x6.r x20.i 0).i < 256))) →
((false = true) ↔ (Ff 700 A).b = true)) ∧
(((0 ≤ (x6.r x20.i 0).i) ∧ ((x6.r x20.i 0).i < 256)) →
(Px 720 (A ++ [(xI (x20.i + 1))]) ∧
(((Ff 750 (A ++ [(xI (x20.i + 1))])).i < (Ff 750 (A ++ [x20])).i) ∧
(0 < (Ff 750 (A ++ [x20])).i))))))) ∧
((¬ (x20.i < v3.i)) →
((true = true) ↔ (Ff 700 A).b = true))))))))))))
theorem Ho (x0 x1 x2 x3 x4 x5 : Int) (x6 : X) : (bS (fun j => Ff j [xI x0, xI x1, xI x2, xI x3, xI x4, xI x5, x6]) jV.fs jV.res { ρ0 with x := fun j => [xI x0, xI x1, xI x2, xI x3, xI x4, xI x5, x6].getD j (xI 0) } (bP Tryz.prog (gx none [pM] [] wq bq) Tryz.f13 400 jV.args)) = uw x0 x1 x2 x3 x4 x5 x6 := by kernel_rfl
set_option maxHeartbeats 4000000 in
theorem Hp (x0 x1 x2 x3 x4 x5 : Int) (x6 : X) (g0 : -9223372036854775808 ≤ x0 ∧ x0 ≤ 9223372036854775807) (g1 : -9223372036854775808 ≤ x1 ∧ x1 ≤ 9223372036854775807) (g2 : -9223372036854775808 ≤ x2 ∧ x2 ≤ 9223372036854775807) (g3 : -9223372036854775808 ≤ x3 ∧ x3 ≤ 9223372036854775807) (g4 : -9223372036854775808 ≤ x4 ∧ x4 ≤ 9223372036854775807) (g5 : -9223372036854775808 ≤ x5 ∧ x5 ≤ 9223372036854775807) (g6 : 0 ≤ x6.i ∧ x6.i ≤ 9223372036854775807 ∧ au [.int .i64 (-9223372036854775808) (9223372036854775807)] x6.r x6.i.toNat) : uw x0 x1 x2 x3 x4 x5 x6 := by
 unfold uw
 intro A
 have v7 := GP (a := x0) (b := x1) (c := x2) (d := x3) (e := x4) (f := x5) (l := x6) g6.1
 refine And.intro ?_ ?_
 ·intro h1
  refine iff_of_false Bool.false_ne_true fun hv => ?_
  have hv := (v7.1 hv).1
  omega
 intro h2 v3
 have e3 : v3.i = fw x0 x1 x2 x3 x4 x5 := rfl
 refine And.intro ?_ ?_
 ·intro h5
  refine iff_of_false Bool.false_ne_true fun hv => ?_
  obtain ⟨_, k1, k2, k3, _⟩ := v7.1 hv
  omega
 intro h6
 refine ab ?_ fun o7 => ?_
 ·exact ⟨Int.le_refl _, g6.1, rfl⟩
 intro x20 h8 p9
 refine And.intro ?_ ?_
 ·intro h11
  refine ab ?_ fun o12 => ?_
  ·omega
  refine And.intro ?_ ?_
  ·intro h14
   refine iff_of_false Bool.false_ne_true fun hv => h14 ?_
   exact lM.1 (pN h8.1 (by omega) (v7.1 hv).2.2.2.2)
  intro h15
  refine ab ?_ fun o16 => ?_
  ·exact ⟨Int.le_trans h8.1 (Int.le_of_lt (Int.lt_succ _)), show x20.i + 1 ≤ x6.i by omega, Dz h8.1 (by omega) p9.2.2 (lM.2 h15)⟩
  refine ab ?_ fun o17 => ?_
  ·show x6.i + 1 - (x20.i + 1) < x6.i + 1 - x20.i
   omega
  show 0 < x6.i + 1 - x20.i
  omega
 intro h18
 refine iff_of_true rfl (v7.2 ⟨by omega, by omega, by omega, by omega, ?_⟩)
 have := p9.2.2
 rwa [Kf (by omega)] at this
theorem Hm : aZ Tryz.prog ρ0 jV := by
 refine db (cf := gx none [pM] [] wq bq) (cI (bt.cons MJ MK) bw kO) Tryz.func13 rfl 400 rfl fun ds hr => ?_
 have hr := aA hr
 match ds, hr with
 | [d0, d1, d2, d3, d4, d5, d6], hr =>
  obtain ⟨⟨e0, l0, u0⟩, ⟨e1, l1, u1⟩, ⟨e2, l2, u2⟩, ⟨e3, l3, u3⟩, ⟨e4, l4, u4⟩, ⟨e5, l5, u5⟩, l6, _⟩ := hr
  generalize d0.i = x0, d1.i = x1, d2.i = x2, d3.i = x3, d4.i = x4, d5.i = x5, d6 = x6 at *
  subst e0 e1 e2 e3 e4 e5
  exact Eq.mpr (Ho x0 x1 x2 x3 x4 x5 x6) (Hp x0 x1 x2 x3 x4 x5 x6 ⟨l0, u0⟩ ⟨l1, u1⟩ ⟨l2, u2⟩ ⟨l3, u3⟩ ⟨l4, u4⟩ ⟨l5, u5⟩ l6)
theorem Hn : Hs jV.f := ⟨_, Tryz.func13, by kernel_rfl, by kernel_rfl⟩
def PJ (x0 : X) (x1 : Int) : Prop :=
((((x1 < 0) ∨ (x0.i ≤ x1)) →
((false = true) ↔ (Ff 831 [x0, xI x1]).b = true)) ∧
((¬ ((x1 < 0) ∨ (x0.i ≤ x1))) →
((x1 < x0.i) ∧
(((x0.r x1 1).b = true) ↔ (Ff 831 [x0, xI x1]).b = true))))
theorem RJ (x0 : X) (x1 : Int) : (bS (fun j => Ff j [x0, xI x1]) KT.fs KT.res { ρ0 with x := fun j => [x0, xI x1].getD j (xI 0) } (bP Tryz.prog (gx none [] [] [] bq) Tryz.f44 400 KT.args)) = PJ x0 x1 := by kernel_rfl
set_option maxHeartbeats 4000000 in
theorem RK (x0 : X) (x1 : Int) (g0 : 0 ≤ x0.i ∧ x0.i ≤ 9223372036854775807 ∧ au Gp x0.r x0.i.toNat) (g1 : -9223372036854775808 ≤ x1 ∧ x1 ≤ 9223372036854775807) : PJ x0 x1 := by
 unfold PJ
 refine And.intro ?_ ?_
 ·intro h1
  refine iff_of_false Bool.false_ne_true fun hv => ?_
  have hv : ue x0 x1 1 = true := hv
  rw [As h1] at hv
  cases hv
 intro h2
 refine ab ?_ fun o3 => ?_
 ·omega
 show _ ↔ ue x0 x1 1 = true
 rw [D7 h2]
theorem RL : aZ Tryz.prog ρ0 KT := by
 refine db (cf := gx none [] [] [] bq) (cI bt bw kO) Tryz.func44 rfl 400 rfl fun ds hr => ?_
 have hr := aA hr
 match ds, hr with
 | [d0, d1], hr =>
  obtain ⟨l0, ⟨e1, l1, u1⟩, _⟩ := hr
  generalize d0 = x0, d1.i = x1 at *
  subst e1
  exact Eq.mpr (RJ x0 x1) (RK x0 x1 l0 ⟨l1, u1⟩)
theorem RM : Hs KT.f := ⟨_, Tryz.func44, by kernel_rfl, by kernel_rfl⟩
def KW (x0 : X) (x1 : Int) : Prop :=
((((x1 < 0) ∨ (x0.i ≤ x1)) →
((false = true) ↔ (Ff 831 [x0, xI x1]).b = true)) ∧
((¬ ((x1 < 0) ∨ (x0.i ≤ x1))) →
((x1 < x0.i) ∧
(((x0.r x1 1).b = true) ↔ (Ff 831 [x0, xI x1]).b = true))))
theorem PK (x0 : X) (x1 : Int) : (bS (fun j => Ff j [x0, xI x1]) yv.fs yv.res { ρ0 with x := fun j => [x0, xI x1].getD j (xI 0) } (bP Tryz.prog (gx none [] [] [] bq) Tryz.f131 400 yv.args)) = KW x0 x1 := by kernel_rfl
set_option maxHeartbeats 4000000 in
theorem PL (x0 : X) (x1 : Int) (g0 : 0 ≤ x0.i ∧ x0.i ≤ 9223372036854775807 ∧ au Gp x0.r x0.i.toNat) (g1 : -9223372036854775808 ≤ x1 ∧ x1 ≤ 9223372036854775807) : KW x0 x1 := by
 unfold KW
 refine And.intro ?_ ?_
 ·intro h1
  refine iff_of_false Bool.false_ne_true fun hv => ?_
  have hv : ue x0 x1 1 = true := hv
  rw [As h1] at hv
  cases hv
 intro h2
 refine ab ?_ fun o3 => ?_
 ·omega
 show _ ↔ ue x0 x1 1 = true
 rw [D7 h2]
theorem Pe : aZ Tryz.prog ρ0 yv := by
 refine db (cf := gx none [] [] [] bq) (cI bt bw kO) Tryz.func131 rfl 400 rfl fun ds hr => ?_
 have hr := aA hr
 match ds, hr with
 | [d0, d1], hr =>
  obtain ⟨l0, ⟨e1, l1, u1⟩, _⟩ := hr
  generalize d0 = x0, d1.i = x1 at *
  subst e1
  exact Eq.mpr (PK x0 x1) (PL x0 x1 l0 ⟨l1, u1⟩)
theorem Pf : Hs yv.f := ⟨_, Tryz.func131, by kernel_rfl, by kernel_rfl⟩
def D8 (x0 x1 x2 x3 x4 x5 : Int) (x6 : X) (x7 x8 x9 : Int) : Prop :=
 let A := [xI x0, xI x1, xI x2, xI x3, xI x4, xI x5, x6, xI x7, xI x8, xI x9]; (let v0 := Ff 260 [xI x0, xI x1, xI x2, xI x3, xI x4, xI x5, xI x7, xI x8, xI x9]; (((v0.i < 0) →
(rI 0 (Ff 838 A).i 0 255)) ∧
((¬ (v0.i < 0)) →
((v0.i < x6.i) ∧
(rI ((x6.r v0.i 0).i) (Ff 838 A).i 0 255)))))
theorem Nk (x0 x1 x2 x3 x4 x5 : Int) (x6 : X) (x7 x8 x9 : Int) : (bS (fun j => Ff j [xI x0, xI x1, xI x2, xI x3, xI x4, xI x5, x6, xI x7, xI x8, xI x9]) nQ.fs nQ.res { ρ0 with x := fun j => [xI x0, xI x1, xI x2, xI x3, xI x4, xI x5, x6, xI x7, xI x8, xI x9].getD j (xI 0) } (bP Tryz.prog (gx none [gZ] [] [] bq) Tryz.f16 400 Jf)) = D8 x0 x1 x2 x3 x4 x5 x6 x7 x8 x9 := by kernel_rfl
set_option maxHeartbeats 4000000 in
theorem Nl (x0 x1 x2 x3 x4 x5 : Int) (x6 : X) (x7 x8 x9 : Int) (g0 : -1048575 ≤ x0 ∧ x0 ≤ 1048575) (g1 : -1048575 ≤ x1 ∧ x1 ≤ 1048575) (g2 : -1048575 ≤ x2 ∧ x2 ≤ 1048575) (g3 : -1048575 ≤ x3 ∧ x3 ≤ 1048575) (g4 : -1048575 ≤ x4 ∧ x4 ≤ 1048575) (g5 : -1048575 ≤ x5 ∧ x5 ≤ 1048575) (g6 : 0 ≤ x6.i ∧ x6.i ≤ 2097152 ∧ au [.int .i64 (0) (255)] x6.r x6.i.toNat) (g7 : -1048576 ≤ x7 ∧ x7 ≤ 1048576) (g8 : -1048576 ≤ x8 ∧ x8 ≤ 1048576) (g9 : -1048576 ≤ x9 ∧ x9 ≤ 1048576) (gp : Px nQ.pre.get! [xI x0, xI x1, xI x2, xI x3, xI x4, xI x5, x6, xI x7, xI x8, xI x9]) : D8 x0 x1 x2 x3 x4 x5 x6 x7 x8 x9 := by
 unfold D8
 intro A
 obtain ⟨k0, k1, k2, k3, k4⟩ := (GP g6.1).1 gp
 intro v0
 have e0 : v0.i = (DA x0 x1 x2 x3 x4 x5).idx (x7, x8, x9) := rfl
 refine And.intro ?_ ?_
 ·intro h2
  exact aD (D9 (show ¬ 0 ≤ v0.i by omega)) (by decide)
 intro h3
 refine ab ?_ fun o4 => ?_
 ·have h5 := (yj (b := DA x0 x1 x2 x3 x4 x5) (p := (x7, x8, x9)) (zW.1 (by rw [← e0]; omega))).2
  have h6 : (DA x0 x1 x2 x3 x4 x5).Kb = x6.i := k3
  omega
 have h6 : (DA x0 x1 x2 x3 x4 x5).Kb = x6.i := k3
 have hh := zW.1 (show 0 ≤ (DA x0 x1 x2 x3 x4 x5).idx (x7, x8, x9) by rw [← e0]; omega)
 have h5 := (yj hh).2
 refine aD (Hq hh h6) ?_
 have := lM.1 (pN (k := v0.i) (by omega) (by omega) k4)
 omega
theorem Jb : aZ Tryz.prog ρ0 nQ := by
 refine pV (cf := gx none [gZ] [] [] bq) (cI (bt.cons GK GM) bw kO) Tryz.func16 rfl 400 rfl (sh := Jf) (by kernel_rfl) GQ fun ds hr hp => ?_
 have hr := aA hr
 match ds, hr, hp with
 | [d0, d1, d2, d3, d4, d5, d6, d7, d8, d9], hr, hp =>
  obtain ⟨⟨e0, l0, u0⟩, ⟨e1, l1, u1⟩, ⟨e2, l2, u2⟩, ⟨e3, l3, u3⟩, ⟨e4, l4, u4⟩, ⟨e5, l5, u5⟩, l6, ⟨e7, l7, u7⟩, ⟨e8, l8, u8⟩, ⟨e9, l9, u9⟩, _⟩ := hr
  generalize d0.i = x0, d1.i = x1, d2.i = x2, d3.i = x3, d4.i = x4, d5.i = x5, d6 = x6, d7.i = x7, d8.i = x8, d9.i = x9 at *
  subst e0 e1 e2 e3 e4 e5 e7 e8 e9
  exact Eq.mpr (Nk x0 x1 x2 x3 x4 x5 x6 x7 x8 x9) (Nl x0 x1 x2 x3 x4 x5 x6 x7 x8 x9 ⟨l0, u0⟩ ⟨l1, u1⟩ ⟨l2, u2⟩ ⟨l3, u3⟩ ⟨l4, u4⟩ ⟨l5, u5⟩ l6 ⟨l7, u7⟩ ⟨l8, u8⟩ ⟨l9, u9⟩ hp)
theorem Jc : Hs nQ.f := ⟨_, Tryz.func16, by kernel_rfl, by kernel_rfl⟩
end Vc
end Go.Proofs.YtpmfkelglmgddaaGreatDoor
