/- Contracts of functions, each out of one walk. -/
import Derived.Test.YtpmfkelglmgddaaGreatDoorTcF
import Derived.Test.YtpmfkelglmgddaaGreatDoorTcR
import Derived.Test.YtpmfkelglmgddaaGreatDoorTcY
namespace Go.Proofs.YtpmfkelglmgddaaGreatDoor
namespace Vc
open Go Go.RowKit
set_option linter.unusedVariables false
def K0 (x0 x1 x2 x3 x4 : Int) : Prop :=
 let A := [xI x0, xI x1, xI x2, xI x3, xI x4]; (((x3 = 0) →
((rI (x0 + x4) (Ff 930 A).i (-991) 991) ∧ ((rI x1 (Ff 931 A).i (-991) 991) ∧ (rI x2 (Ff 932 A).i (-991) 991)))) ∧
(((x3 = 1) →
((rI x0 (Ff 930 A).i (-991) 991) ∧ ((rI (x1 + x4) (Ff 931 A).i (-991) 991) ∧ (rI x2 (Ff 932 A).i (-991) 991)))) ∧
(((x3 = 2) →
((rI x0 (Ff 930 A).i (-991) 991) ∧ ((rI x1 (Ff 931 A).i (-991) 991) ∧ (rI (x2 + x4) (Ff 932 A).i (-991) 991)))) ∧
 True)))
theorem PO (x0 x1 x2 x3 x4 : Int) : (bS (fun j => Ff j [xI x0, xI x1, xI x2, xI x3, xI x4]) uv.fs uv.res { ρ0 with x := fun j => [xI x0, xI x1, xI x2, xI x3, xI x4].getD j (xI 0) } (bP Tryz.prog (gx none [] [] [] bq) Tryz.f79 600 uv.args)) = K0 x0 x1 x2 x3 x4 := by kernel_rfl
set_option maxHeartbeats 4000000 in
theorem PQ (x0 x1 x2 x3 x4 : Int) (g0 : -990 ≤ x0 ∧ x0 ≤ 990) (g1 : -990 ≤ x1 ∧ x1 ≤ 990) (g2 : -990 ≤ x2 ∧ x2 ≤ 990) (g3 : 0 ≤ x3 ∧ x3 ≤ 2) (g4 : -1 ≤ x4 ∧ x4 ≤ 1) : K0 x0 x1 x2 x3 x4 := by
 unfold K0
 intro A
 refine And.intro ?_ ?_
 ·intro h1
  exact ⟨aD (show x0 + e1 x3 0 x4 = x0 + x4 by rw [h1]; rfl) (by omega), aD (show x1 + e1 x3 1 x4 = x1 by rw [h1]; exact Int.add_zero _) (by omega), aD (show x2 + e1 x3 2 x4 = x2 by rw [h1]; exact Int.add_zero _) (by omega)⟩
 refine And.intro ?_ ?_
 ·intro h3
  exact ⟨aD (show x0 + e1 x3 0 x4 = x0 by rw [h3]; exact Int.add_zero _) (by omega), aD (show x1 + e1 x3 1 x4 = x1 + x4 by rw [h3]; rfl) (by omega), aD (show x2 + e1 x3 2 x4 = x2 by rw [h3]; exact Int.add_zero _) (by omega)⟩
 refine And.intro ?_ ?_
 ·intro h5
  exact ⟨aD (show x0 + e1 x3 0 x4 = x0 by rw [h5]; exact Int.add_zero _) (by omega), aD (show x1 + e1 x3 1 x4 = x1 by rw [h5]; exact Int.add_zero _) (by omega), aD (show x2 + e1 x3 2 x4 = x2 + x4 by rw [h5]; rfl) (by omega)⟩
 trivial
theorem Np : aZ Tryz.prog ρ0 uv := by
 refine db (cf := gx none [] [] [] bq) (cI bt bw kO) Tryz.func79 rfl 600 rfl fun ds hr => ?_
 have hr := aA hr
 match ds, hr with
 | [d0, d1, d2, d3, d4], hr =>
  obtain ⟨⟨e0, l0, u0⟩, ⟨e1, l1, u1⟩, ⟨e2, l2, u2⟩, ⟨e3, l3, u3⟩, ⟨e4, l4, u4⟩, _⟩ := hr
  generalize d0.i = x0, d1.i = x1, d2.i = x2, d3.i = x3, d4.i = x4 at *
  subst e0 e1 e2 e3 e4
  exact Eq.mpr (PO x0 x1 x2 x3 x4) (PQ x0 x1 x2 x3 x4 ⟨l0, u0⟩ ⟨l1, u1⟩ ⟨l2, u2⟩ ⟨l3, u3⟩ ⟨l4, u4⟩)
theorem Nq : Hs uv.f := ⟨_, Tryz.func79, by kernel_rfl, by kernel_rfl⟩
def K1 (x0 x1 x2 x3 x4 : Int) : Prop :=
 let A := [xI x0, xI x1, xI x2, xI x3, xI x4]; (let v0 := Ff 930 [xI x0, xI x1, xI x2, (xI ((x3 + 1) % 3)), (xI ((x4 % 2) - 1))]; (((-990) ≤ v0.i) ∧
((v0.i ≤ 990) ∧
(let v3 := Ff 931 [xI x0, xI x1, xI x2, (xI ((x3 + 1) % 3)), (xI ((x4 % 2) - 1))]; (((-990) ≤ v3.i) ∧
((v3.i ≤ 990) ∧
(let v6 := Ff 932 [xI x0, xI x1, xI x2, (xI ((x3 + 1) % 3)), (xI ((x4 % 2) - 1))]; (((-990) ≤ v6.i) ∧
((v6.i ≤ 990) ∧
(let v9 := Ff 930 [xI v0.i, xI v3.i, xI v6.i, (xI ((x3 + 2) % 3)), (xI ((x4 / 2) - 1))]; let v10 := Ff 931 [xI v0.i, xI v3.i, xI v6.i, (xI ((x3 + 2) % 3)), (xI ((x4 / 2) - 1))]; let v11 := Ff 932 [xI v0.i, xI v3.i, xI v6.i, (xI ((x3 + 2) % 3)), (xI ((x4 / 2) - 1))]; ((rI v9.i (Ff 933 A).i (-902) 902) ∧ ((rI v10.i (Ff 934 A).i (-902) 902) ∧ (rI v11.i (Ff 935 A).i (-902) 902)))))))))))))
theorem PR (x0 x1 x2 x3 x4 : Int) : (bS (fun j => Ff j [xI x0, xI x1, xI x2, xI x3, xI x4]) yz.fs yz.res { ρ0 with x := fun j => [xI x0, xI x1, xI x2, xI x3, xI x4].getD j (xI 0) } (bP Tryz.prog (gx none [] [uv] [] bq) Tryz.f82 600 yz.args)) = K1 x0 x1 x2 x3 x4 := by kernel_rfl
set_option maxHeartbeats 4000000 in
theorem PS (x0 x1 x2 x3 x4 : Int) (g0 : -900 ≤ x0 ∧ x0 ≤ 900) (g1 : -900 ≤ x1 ∧ x1 ≤ 900) (g2 : -900 ≤ x2 ∧ x2 ≤ 900) (g3 : 0 ≤ x3 ∧ x3 ≤ 2) (g4 : 0 ≤ x4 ∧ x4 ≤ 3) : K1 x0 x1 x2 x3 x4 := by
 unfold K1
 intro A
 have b := jq (x0, x1, x2) ((x3 + 1) % 3) (n := x4 % 2 - 1) (by omega)
 dsimp only at b
 intro v0
 have b0 : v0.i = (aI (x0, x1, x2) ((x3 + 1) % 3) (x4 % 2 - 1)).1 := rfl
 refine ab ?_ fun o1 => ?_
 ·omega
 refine ab ?_ fun o2 => ?_
 ·omega
 intro v3
 have b3 : v3.i = (aI (x0, x1, x2) ((x3 + 1) % 3) (x4 % 2 - 1)).2.1 := rfl
 refine ab ?_ fun o4 => ?_
 ·omega
 refine ab ?_ fun o5 => ?_
 ·omega
 intro v6
 have b6 : v6.i = (aI (x0, x1, x2) ((x3 + 1) % 3) (x4 % 2 - 1)).2.2 := rfl
 refine ab ?_ fun o7 => ?_
 ·omega
 refine ab ?_ fun o8 => ?_
 ·omega
 intro v9 v10 v11
 have c := jq (aI (x0, x1, x2) ((x3 + 1) % 3) (x4 % 2 - 1)) ((x3 + 2) % 3) (n := x4 / 2 - 1) (by omega)
 have b9 : v9.i = (aI (aI (x0, x1, x2) ((x3 + 1) % 3) (x4 % 2 - 1)) ((x3 + 2) % 3) (x4 / 2 - 1)).1 := rfl
 have b10 : v10.i = (aI (aI (x0, x1, x2) ((x3 + 1) % 3) (x4 % 2 - 1)) ((x3 + 2) % 3) (x4 / 2 - 1)).2.1 := rfl
 have b11 : v11.i = (aI (aI (x0, x1, x2) ((x3 + 1) % 3) (x4 % 2 - 1)) ((x3 + 2) % 3) (x4 / 2 - 1)).2.2 := rfl
 exact ⟨aD rfl (by omega), aD rfl (by omega), aD rfl (by omega)⟩
theorem PT : aZ Tryz.prog ρ0 yz := by
 refine db (cf := gx none [] [uv] [] bq) (cI bt (bw.cons Np Nq) kO) Tryz.func82 rfl 600 rfl fun ds hr => ?_
 have hr := aA hr
 match ds, hr with
 | [d0, d1, d2, d3, d4], hr =>
  obtain ⟨⟨e0, l0, u0⟩, ⟨e1, l1, u1⟩, ⟨e2, l2, u2⟩, ⟨e3, l3, u3⟩, ⟨e4, l4, u4⟩, _⟩ := hr
  generalize d0.i = x0, d1.i = x1, d2.i = x2, d3.i = x3, d4.i = x4 at *
  subst e0 e1 e2 e3 e4
  exact Eq.mpr (PR x0 x1 x2 x3 x4) (PS x0 x1 x2 x3 x4 ⟨l0, u0⟩ ⟨l1, u1⟩ ⟨l2, u2⟩ ⟨l3, u3⟩ ⟨l4, u4⟩)
theorem PU : Hs yz.f := ⟨_, Tryz.func82, by kernel_rfl, by kernel_rfl⟩
def K2 (x0 : X) (x1 x2 x3 : Int) : Prop :=
 let A := [x0, xI x1, xI x2, xI x3]; (Px 950 A ∧
(let v1 := Ff 901 A; (((v1.i < 0) →
(rI 0 (Ff 936 A).i 0 1)) ∧
((¬ (v1.i < 0)) →
((v1.i < x0.i) ∧
(rI 1 (Ff 936 A).i 0 1))))))
theorem PX (x0 : X) (x1 x2 x3 : Int) : (bS (fun j => Ff j [x0, xI x1, xI x2, xI x3]) wv.fs wv.res { ρ0 with x := fun j => [x0, xI x1, xI x2, xI x3].getD j (xI 0) } (bP Tryz.prog (gx none [] [kG] [] bq) Tryz.f81 600 wv.args)) = K2 x0 x1 x2 x3 := by kernel_rfl
set_option maxHeartbeats 4000000 in
theorem PY (x0 : X) (x1 x2 x3 : Int) (g0 : 0 ≤ x0.i ∧ x0.i ≤ 8 ∧ au vY x0.r x0.i.toNat) (g1 : -1000 ≤ x1 ∧ x1 ≤ 1000) (g2 : -1000 ≤ x2 ∧ x2 ≤ 1000) (g3 : -1000 ≤ x3 ∧ x3 ≤ 1000) (gp : Px wv.pre.get! [x0, xI x1, xI x2, xI x3]) : K2 x0 x1 x2 x3 := by
 unfold K2
 intro A
 refine ab ?_ fun o0 => ?_
 ·exact gp
 intro v1
 refine And.intro ?_ ?_
 ·intro h3
  have hc : fz x0 (x1, x2, x3) = false := Ec gp h3
  exact aD (show (if fz x0 (x1, x2, x3) = true then (1 : Int) else 0) = 0 by rw [hc]; rfl) (by decide)
 intro h4
 refine ab ?_ fun o5 => ?_
 ·obtain ⟨h, e⟩ := yC (Int.not_lt.1 h4)
  have := (gm gp h).2
  rw [show v1.i = _ from e]
  omega
 have hc : fz x0 (x1, x2, x3) = true := (yC (Int.not_lt.1 h4)).1
 exact aD (show (if fz x0 (x1, x2, x3) = true then (1 : Int) else 0) = 1 by rw [hc]; rfl) (by decide)
theorem PZ : aZ Tryz.prog ρ0 wv := by
 refine dm (cf := gx none [] [kG] [] bq) (cI bt (bw.cons Jg Jh) kO) Tryz.func81 rfl 600 rfl fun ds hr hp => ?_
 have hr := aA hr
 match ds, hr, hp with
 | [d0, d1, d2, d3], hr, hp =>
  obtain ⟨l0, ⟨e1, l1, u1⟩, ⟨e2, l2, u2⟩, ⟨e3, l3, u3⟩, _⟩ := hr
  generalize d0 = x0, d1.i = x1, d2.i = x2, d3.i = x3 at *
  subst e1 e2 e3
  exact Eq.mpr (PX x0 x1 x2 x3) (PY x0 x1 x2 x3 l0 ⟨l1, u1⟩ ⟨l2, u2⟩ ⟨l3, u3⟩ hp)
theorem P0 : Hs wv.f := ⟨_, Tryz.func81, by kernel_rfl, by kernel_rfl⟩
def K3 (x0 x1 : Int) : Prop :=
((((x0 = 0) ∨ (x1 = 0)) →
(rI (x0 + x1) (Ff 937 [xI x0, xI x1]).i 0 1)) ∧
((¬ ((x0 = 0) ∨ (x1 = 0))) →
(rI (min x0 x1) (Ff 937 [xI x0, xI x1]).i 0 1)))
theorem P1 (x0 x1 : Int) : (bS (fun j => Ff j [xI x0, xI x1]) yA.fs yA.res { ρ0 with x := fun j => [xI x0, xI x1].getD j (xI 0) } (bP Tryz.prog (gx none [] [] [] bq) Tryz.f80 600 yA.args)) = K3 x0 x1 := by kernel_rfl
set_option maxHeartbeats 4000000 in
theorem P2 (x0 x1 : Int) (g0 : 0 ≤ x0 ∧ x0 ≤ 1) (g1 : 0 ≤ x1 ∧ x1 ≤ 1) : K3 x0 x1 := by
 unfold K3
 refine And.intro ?_ ?_
 ·intro h1
  exact aD (show yo x0 x1 = x0 + x1 from if_pos h1) (by omega)
 intro h2
 exact aD (show yo x0 x1 = min x0 x1 from if_neg h2) (by omega)
theorem P4 : aZ Tryz.prog ρ0 yA := by
 refine db (cf := gx none [] [] [] bq) (cI bt bw kO) Tryz.func80 rfl 600 rfl fun ds hr => ?_
 have hr := aA hr
 match ds, hr with
 | [d0, d1], hr =>
  obtain ⟨⟨e0, l0, u0⟩, ⟨e1, l1, u1⟩, _⟩ := hr
  generalize d0.i = x0, d1.i = x1 at *
  subst e0 e1
  exact Eq.mpr (P1 x0 x1) (P2 x0 x1 ⟨l0, u0⟩ ⟨l1, u1⟩)
theorem P5 : Hs yA.f := ⟨_, Tryz.func80, by kernel_rfl, by kernel_rfl⟩
def K4 (x0 : X) (x1 x2 x3 x4 : Int) : Prop :=
 let A := [x0, xI x1, xI x2, xI x3, xI x4]; (let v0 := Ff 933 [xI x1, xI x2, xI x3, xI x4, xI 0]; let v1 := Ff 934 [xI x1, xI x2, xI x3, xI x4, xI 0]; let v2 := Ff 935 [xI x1, xI x2, xI x3, xI x4, xI 0]; (Px 950 [x0, xI v0.i, xI v1.i, xI v2.i] ∧
(let v4 := Ff 933 [xI x1, xI x2, xI x3, xI x4, xI 1]; let v5 := Ff 934 [xI x1, xI x2, xI x3, xI x4, xI 1]; let v6 := Ff 935 [xI x1, xI x2, xI x3, xI x4, xI 1]; (Px 950 [x0, xI v4.i, xI v5.i, xI v6.i] ∧
(let v8 := Ff 933 [xI x1, xI x2, xI x3, xI x4, xI 2]; let v9 := Ff 934 [xI x1, xI x2, xI x3, xI x4, xI 2]; let v10 := Ff 935 [xI x1, xI x2, xI x3, xI x4, xI 2]; (Px 950 [x0, xI v8.i, xI v9.i, xI v10.i] ∧
(let v12 := Ff 933 [xI x1, xI x2, xI x3, xI x4, xI 3]; let v13 := Ff 934 [xI x1, xI x2, xI x3, xI x4, xI 3]; let v14 := Ff 935 [xI x1, xI x2, xI x3, xI x4, xI 3]; (Px 950 [x0, xI v12.i, xI v13.i, xI v14.i] ∧
(let v16 := Ff 936 [x0, xI v0.i, xI v1.i, xI v2.i]; let v17 := Ff 937 [xI 0, xI v16.i]; let v18 := Ff 936 [x0, xI v4.i, xI v5.i, xI v6.i]; let v19 := Ff 937 [xI v17.i, xI v18.i]; let v20 := Ff 936 [x0, xI v8.i, xI v9.i, xI v10.i]; let v21 := Ff 937 [xI v19.i, xI v20.i]; let v22 := Ff 936 [x0, xI v12.i, xI v13.i, xI v14.i]; let v23 := Ff 937 [xI v21.i, xI v22.i]; (rI v23.i (Ff 938 A).i 1 1))))))))))
theorem P6 (x0 : X) (x1 x2 x3 x4 : Int) : (bS (fun j => Ff j [x0, xI x1, xI x2, xI x3, xI x4]) wx.fs wx.res { ρ0 with x := fun j => [x0, xI x1, xI x2, xI x3, xI x4].getD j (xI 0) } (bP Tryz.prog (gx none [] [yz, wv, yA] [] bq) Tryz.f52 600 wx.args)) = K4 x0 x1 x2 x3 x4 := by kernel_rfl
set_option maxHeartbeats 4000000 in
theorem P7 (x0 : X) (x1 x2 x3 x4 : Int) (g0 : 0 ≤ x0.i ∧ x0.i ≤ 8 ∧ au vY x0.r x0.i.toNat) (g1 : -900 ≤ x1 ∧ x1 ≤ 900) (g2 : -900 ≤ x2 ∧ x2 ≤ 900) (g3 : -900 ≤ x3 ∧ x3 ≤ 900) (g4 : 0 ≤ x4 ∧ x4 ≤ 2) (gp : Px wx.pre.get! [x0, xI x1, xI x2, xI x3, xI x4]) : K4 x0 x1 x2 x3 x4 := by
 unfold K4
 intro A v0 v1 v2
 refine ab ?_ fun o3 => ?_
 ·exact gp.1
 intro v4 v5 v6
 refine ab ?_ fun o7 => ?_
 ·exact gp.1
 intro v8 v9 v10
 refine ab ?_ fun o11 => ?_
 ·exact gp.1
 intro v12 v13 v14
 refine ab ?_ fun o15 => ?_
 ·exact gp.1
 intro v16 v17 v18 v19 v20 v21 v22 v23
 have e : v23.i = 1 := P8 gp.2
 exact aD e.symm (by omega)
theorem P9 : aZ Tryz.prog ρ0 wx := by
 refine dm (cf := gx none [] [yz, wv, yA] [] bq) (cI bt (((bw.cons P4 P5).cons PZ P0).cons PT PU) kO) Tryz.func52 rfl 600 rfl fun ds hr hp => ?_
 have hr := aA hr
 match ds, hr, hp with
 | [d0, d1, d2, d3, d4], hr, hp =>
  obtain ⟨l0, ⟨e1, l1, u1⟩, ⟨e2, l2, u2⟩, ⟨e3, l3, u3⟩, ⟨e4, l4, u4⟩, _⟩ := hr
  generalize d0 = x0, d1.i = x1, d2.i = x2, d3.i = x3, d4.i = x4 at *
  subst e1 e2 e3 e4
  exact Eq.mpr (P6 x0 x1 x2 x3 x4) (P7 x0 x1 x2 x3 x4 l0 ⟨l1, u1⟩ ⟨l2, u2⟩ ⟨l3, u3⟩ ⟨l4, u4⟩ hp)
theorem P' : Hs wx.f := ⟨_, Tryz.func52, by kernel_rfl, by kernel_rfl⟩
def K5 (x0 : X) (x1 x2 x3 x4 : Int) (x5 : Bool) (x6 : Int) : Prop :=
 let A := [x0, xI x1, xI x2, xI x3, xI x4, xB x5, xI x6]; (let v0 := Ff 930 [xI x1, xI x2, xI x3, (xI (bif (!x5) then ((x4 + 2) % 3) else ((x4 + 1) % 3))), xI 0]; (((-900) ≤ v0.i) ∧
((v0.i ≤ 900) ∧
(let v3 := Ff 931 [xI x1, xI x2, xI x3, (xI (bif (!x5) then ((x4 + 2) % 3) else ((x4 + 1) % 3))), xI 0]; (((-900) ≤ v3.i) ∧
((v3.i ≤ 900) ∧
(let v6 := Ff 932 [xI x1, xI x2, xI x3, (xI (bif (!x5) then ((x4 + 2) % 3) else ((x4 + 1) % 3))), xI 0]; (((-900) ≤ v6.i) ∧
((v6.i ≤ 900) ∧
(Px 955 [x0, xI v0.i, xI v3.i, xI v6.i, (xI (bif (!x5) then ((x4 + 2) % 3) else ((x4 + 1) % 3)))] ∧
(let v10 := Ff 930 [xI x1, xI x2, xI x3, (xI (bif (!x5) then ((x4 + 2) % 3) else ((x4 + 1) % 3))), xI 1]; (((-990) ≤ v10.i) ∧
((v10.i ≤ 990) ∧
(let v13 := Ff 931 [xI x1, xI x2, xI x3, (xI (bif (!x5) then ((x4 + 2) % 3) else ((x4 + 1) % 3))), xI 1]; (((-990) ≤ v13.i) ∧
((v13.i ≤ 990) ∧
(let v16 := Ff 932 [xI x1, xI x2, xI x3, (xI (bif (!x5) then ((x4 + 2) % 3) else ((x4 + 1) % 3))), xI 1]; (((-990) ≤ v16.i) ∧
((v16.i ≤ 990) ∧
(let v19 := Ff 930 [xI v10.i, xI v13.i, xI v16.i, (xI (bif (!x5) then ((x4 + 1) % 3) else ((x4 + 2) % 3))), xI 0]; (((-900) ≤ v19.i) ∧
((v19.i ≤ 900) ∧
(let v22 := Ff 931 [xI v10.i, xI v13.i, xI v16.i, (xI (bif (!x5) then ((x4 + 1) % 3) else ((x4 + 2) % 3))), xI 0]; (((-900) ≤ v22.i) ∧
((v22.i ≤ 900) ∧
(let v25 := Ff 932 [xI v10.i, xI v13.i, xI v16.i, (xI (bif (!x5) then ((x4 + 1) % 3) else ((x4 + 2) % 3))), xI 0]; (((-900) ≤ v25.i) ∧
((v25.i ≤ 900) ∧
(Px 955 [x0, xI v19.i, xI v22.i, xI v25.i, (xI (bif (!x5) then ((x4 + 1) % 3) else ((x4 + 2) % 3)))] ∧
(((-990) ≤ v10.i) ∧
((v10.i ≤ 990) ∧
(((-990) ≤ v13.i) ∧
((v13.i ≤ 990) ∧
(((-990) ≤ v16.i) ∧
((v16.i ≤ 990) ∧
(let v35 := Ff 930 [xI v10.i, xI v13.i, xI v16.i, (xI (bif (!x5) then ((x4 + 1) % 3) else ((x4 + 2) % 3))), xI 1]; (((-990) ≤ v35.i) ∧
((v35.i ≤ 990) ∧
(let v38 := Ff 931 [xI v10.i, xI v13.i, xI v16.i, (xI (bif (!x5) then ((x4 + 1) % 3) else ((x4 + 2) % 3))), xI 1]; (((-990) ≤ v38.i) ∧
((v38.i ≤ 990) ∧
(let v41 := Ff 932 [xI v10.i, xI v13.i, xI v16.i, (xI (bif (!x5) then ((x4 + 1) % 3) else ((x4 + 2) % 3))), xI 1]; (((-990) ≤ v41.i) ∧
((v41.i ≤ 990) ∧
(let v44 := Ff 930 [xI v35.i, xI v38.i, xI v41.i, (xI (bif (!x5) then ((x4 + 2) % 3) else ((x4 + 1) % 3))), (xI (-1))]; (((-900) ≤ v44.i) ∧
((v44.i ≤ 900) ∧
(let v47 := Ff 931 [xI v35.i, xI v38.i, xI v41.i, (xI (bif (!x5) then ((x4 + 2) % 3) else ((x4 + 1) % 3))), (xI (-1))]; (((-900) ≤ v47.i) ∧
((v47.i ≤ 900) ∧
(let v50 := Ff 932 [xI v35.i, xI v38.i, xI v41.i, (xI (bif (!x5) then ((x4 + 2) % 3) else ((x4 + 1) % 3))), (xI (-1))]; (((-900) ≤ v50.i) ∧
((v50.i ≤ 900) ∧
(Px 955 [x0, xI v44.i, xI v47.i, xI v50.i, (xI (bif (!x5) then ((x4 + 2) % 3) else ((x4 + 1) % 3)))] ∧
(((-990) ≤ v35.i) ∧
((v35.i ≤ 990) ∧
(((-990) ≤ v38.i) ∧
((v38.i ≤ 990) ∧
(((-990) ≤ v41.i) ∧
((v41.i ≤ 990) ∧
(((-990) ≤ v44.i) ∧
((v44.i ≤ 990) ∧
(((-990) ≤ v47.i) ∧
((v47.i ≤ 990) ∧
(((-990) ≤ v50.i) ∧
((v50.i ≤ 990) ∧
(let v66 := Ff 930 [xI v44.i, xI v47.i, xI v50.i, (xI (bif (!x5) then ((x4 + 1) % 3) else ((x4 + 2) % 3))), (xI (-1))]; (((-900) ≤ v66.i) ∧
((v66.i ≤ 900) ∧
(let v69 := Ff 931 [xI v44.i, xI v47.i, xI v50.i, (xI (bif (!x5) then ((x4 + 1) % 3) else ((x4 + 2) % 3))), (xI (-1))]; (((-900) ≤ v69.i) ∧
((v69.i ≤ 900) ∧
(let v72 := Ff 932 [xI v44.i, xI v47.i, xI v50.i, (xI (bif (!x5) then ((x4 + 1) % 3) else ((x4 + 2) % 3))), (xI (-1))]; (((-900) ≤ v72.i) ∧
((v72.i ≤ 900) ∧
(Px 955 [x0, xI v66.i, xI v69.i, xI v72.i, (xI (bif (!x5) then ((x4 + 1) % 3) else ((x4 + 2) % 3)))] ∧
(((-990) ≤ v44.i) ∧
((v44.i ≤ 990) ∧
(((-990) ≤ v47.i) ∧
((v47.i ≤ 990) ∧
(((-990) ≤ v50.i) ∧
((v50.i ≤ 990) ∧
(cR Ra (Ff 940 A) (ar 3 [xI x1, xI x2, xI x3, v10, v13, v16, v35, v38, v41, v44, v47, v50]) 4 4)))))))))))))))))))))))))))))))))))))))))))))))))))))))))))))))))))))))))))))))))))
theorem Qa (x0 : X) (x1 x2 x3 x4 : Int) (x5 : Bool) (x6 : Int) : (bS (fun j => Ff j [x0, xI x1, xI x2, xI x3, xI x4, xB x5, xI x6]) wy.fs wy.res { ρ0 with x := fun j => [x0, xI x1, xI x2, xI x3, xI x4, xB x5, xI x6].getD j (xI 0) } (bP Tryz.prog (gx none [] [uv, wx] [] bq) Tryz.f19 600 wy.args)) = K5 x0 x1 x2 x3 x4 x5 x6 := by kernel_rfl
set_option maxHeartbeats 4000000 in
theorem Qb (x0 : X) (x1 x2 x3 x4 : Int) (x5 : Bool) (x6 : Int) (g0 : 0 ≤ x0.i ∧ x0.i ≤ 8 ∧ au vY x0.r x0.i.toNat) (g1 : -9 ≤ x1 ∧ x1 ≤ 9) (g2 : -9 ≤ x2 ∧ x2 ≤ 9) (g3 : -9 ≤ x3 ∧ x3 ≤ 9) (g4 : 0 ≤ x4 ∧ x4 ≤ 2) (g6 : 1 ≤ x6 ∧ x6 ≤ 1) (gp : Px wy.pre.get! [x0, xI x1, xI x2, xI x3, xI x4, xB x5, xI x6]) : K5 x0 x1 x2 x3 x4 x5 x6 := by
 unfold K5
 intro A
 obtain ⟨gp, gc⟩ := gp
 have s0 := jq (x1, x2, x3) (bif (!x5) then ((x4 + 2) % 3) else ((x4 + 1) % 3)) (n := 0) (by decide)
 have s1 := jq (x1, x2, x3) (bif (!x5) then ((x4 + 2) % 3) else ((x4 + 1) % 3)) (n := 1) (by decide)
 have s2 := jq (aI (x1, x2, x3) (bif (!x5) then ((x4 + 2) % 3) else ((x4 + 1) % 3)) 1) (bif (!x5) then ((x4 + 1) % 3) else ((x4 + 2) % 3)) (n := 0) (by decide)
 have s3 := jq (aI (x1, x2, x3) (bif (!x5) then ((x4 + 2) % 3) else ((x4 + 1) % 3)) 1) (bif (!x5) then ((x4 + 1) % 3) else ((x4 + 2) % 3)) (n := 1) (by decide)
 have s4 := jq (aI (aI (x1, x2, x3) (bif (!x5) then ((x4 + 2) % 3) else ((x4 + 1) % 3)) 1) (bif (!x5) then ((x4 + 1) % 3) else ((x4 + 2) % 3)) 1) (bif (!x5) then ((x4 + 2) % 3) else ((x4 + 1) % 3)) (n := -1) (by decide)
 have s5 := jq (aI (aI (aI (x1, x2, x3) (bif (!x5) then ((x4 + 2) % 3) else ((x4 + 1) % 3)) 1) (bif (!x5) then ((x4 + 1) % 3) else ((x4 + 2) % 3)) 1) (bif (!x5) then ((x4 + 2) % 3) else ((x4 + 1) % 3)) (-1)) (bif (!x5) then ((x4 + 1) % 3) else ((x4 + 2) % 3)) (n := -1) (by decide)
 dsimp only at s0 s1
 intro v0
 have b0 : v0.i = (aI (x1, x2, x3) (bif (!x5) then ((x4 + 2) % 3) else ((x4 + 1) % 3)) 0).1 := rfl
 refine ab ?_ fun o1 => ?_
 ·omega
 refine ab ?_ fun o2 => ?_
 ·omega
 intro v3
 have b3 : v3.i = (aI (x1, x2, x3) (bif (!x5) then ((x4 + 2) % 3) else ((x4 + 1) % 3)) 0).2.1 := rfl
 refine ab ?_ fun o4 => ?_
 ·omega
 refine ab ?_ fun o5 => ?_
 ·omega
 intro v6
 have b6 : v6.i = (aI (x1, x2, x3) (bif (!x5) then ((x4 + 2) % 3) else ((x4 + 1) % 3)) 0).2.2 := rfl
 refine ab ?_ fun o7 => ?_
 ·omega
 refine ab ?_ fun o8 => ?_
 ·omega
 refine ab ?_ fun o9 => ?_
 ·exact ⟨gp, Qc (x := x1) (y := x2) (z := x3) (by omega) gc⟩
 intro v10
 have b10 : v10.i = (aI (x1, x2, x3) (bif (!x5) then ((x4 + 2) % 3) else ((x4 + 1) % 3)) 1).1 := rfl
 refine ab ?_ fun o11 => ?_
 ·omega
 refine ab ?_ fun o12 => ?_
 ·omega
 intro v13
 have b13 : v13.i = (aI (x1, x2, x3) (bif (!x5) then ((x4 + 2) % 3) else ((x4 + 1) % 3)) 1).2.1 := rfl
 refine ab ?_ fun o14 => ?_
 ·omega
 refine ab ?_ fun o15 => ?_
 ·omega
 intro v16
 have b16 : v16.i = (aI (x1, x2, x3) (bif (!x5) then ((x4 + 2) % 3) else ((x4 + 1) % 3)) 1).2.2 := rfl
 refine ab ?_ fun o17 => ?_
 ·omega
 refine ab ?_ fun o18 => ?_
 ·omega
 intro v19
 have b19 : v19.i = (aI (aI (x1, x2, x3) (bif (!x5) then ((x4 + 2) % 3) else ((x4 + 1) % 3)) 1) (bif (!x5) then ((x4 + 1) % 3) else ((x4 + 2) % 3)) 0).1 := rfl
 refine ab ?_ fun o20 => ?_
 ·omega
 refine ab ?_ fun o21 => ?_
 ·omega
 intro v22
 have b22 : v22.i = (aI (aI (x1, x2, x3) (bif (!x5) then ((x4 + 2) % 3) else ((x4 + 1) % 3)) 1) (bif (!x5) then ((x4 + 1) % 3) else ((x4 + 2) % 3)) 0).2.1 := rfl
 refine ab ?_ fun o23 => ?_
 ·omega
 refine ab ?_ fun o24 => ?_
 ·omega
 intro v25
 have b25 : v25.i = (aI (aI (x1, x2, x3) (bif (!x5) then ((x4 + 2) % 3) else ((x4 + 1) % 3)) 1) (bif (!x5) then ((x4 + 1) % 3) else ((x4 + 2) % 3)) 0).2.2 := rfl
 refine ab ?_ fun o26 => ?_
 ·omega
 refine ab ?_ fun o27 => ?_
 ·omega
 refine ab ?_ fun o28 => ?_
 ·exact ⟨gp, Qe (x := x1) (y := x2) (z := x3) (by omega) gc⟩
 refine ab ?_ fun o29 => ?_
 ·omega
 refine ab ?_ fun o30 => ?_
 ·omega
 refine ab ?_ fun o31 => ?_
 ·omega
 refine ab ?_ fun o32 => ?_
 ·omega
 refine ab ?_ fun o33 => ?_
 ·omega
 refine ab ?_ fun o34 => ?_
 ·omega
 intro v35
 have b35 : v35.i = (aI (aI (x1, x2, x3) (bif (!x5) then ((x4 + 2) % 3) else ((x4 + 1) % 3)) 1) (bif (!x5) then ((x4 + 1) % 3) else ((x4 + 2) % 3)) 1).1 := rfl
 refine ab ?_ fun o36 => ?_
 ·omega
 refine ab ?_ fun o37 => ?_
 ·omega
 intro v38
 have b38 : v38.i = (aI (aI (x1, x2, x3) (bif (!x5) then ((x4 + 2) % 3) else ((x4 + 1) % 3)) 1) (bif (!x5) then ((x4 + 1) % 3) else ((x4 + 2) % 3)) 1).2.1 := rfl
 refine ab ?_ fun o39 => ?_
 ·omega
 refine ab ?_ fun o40 => ?_
 ·omega
 intro v41
 have b41 : v41.i = (aI (aI (x1, x2, x3) (bif (!x5) then ((x4 + 2) % 3) else ((x4 + 1) % 3)) 1) (bif (!x5) then ((x4 + 1) % 3) else ((x4 + 2) % 3)) 1).2.2 := rfl
 refine ab ?_ fun o42 => ?_
 ·omega
 refine ab ?_ fun o43 => ?_
 ·omega
 intro v44
 have b44 : v44.i = (aI (aI (aI (x1, x2, x3) (bif (!x5) then ((x4 + 2) % 3) else ((x4 + 1) % 3)) 1) (bif (!x5) then ((x4 + 1) % 3) else ((x4 + 2) % 3)) 1) (bif (!x5) then ((x4 + 2) % 3) else ((x4 + 1) % 3)) (-1)).1 := rfl
 refine ab ?_ fun o45 => ?_
 ·omega
 refine ab ?_ fun o46 => ?_
 ·omega
 intro v47
 have b47 : v47.i = (aI (aI (aI (x1, x2, x3) (bif (!x5) then ((x4 + 2) % 3) else ((x4 + 1) % 3)) 1) (bif (!x5) then ((x4 + 1) % 3) else ((x4 + 2) % 3)) 1) (bif (!x5) then ((x4 + 2) % 3) else ((x4 + 1) % 3)) (-1)).2.1 := rfl
 refine ab ?_ fun o48 => ?_
 ·omega
 refine ab ?_ fun o49 => ?_
 ·omega
 intro v50
 have b50 : v50.i = (aI (aI (aI (x1, x2, x3) (bif (!x5) then ((x4 + 2) % 3) else ((x4 + 1) % 3)) 1) (bif (!x5) then ((x4 + 1) % 3) else ((x4 + 2) % 3)) 1) (bif (!x5) then ((x4 + 2) % 3) else ((x4 + 1) % 3)) (-1)).2.2 := rfl
 refine ab ?_ fun o51 => ?_
 ·omega
 refine ab ?_ fun o52 => ?_
 ·omega
 refine ab ?_ fun o53 => ?_
 ·exact ⟨gp, Qf (x := x1) (y := x2) (z := x3) (by omega) gc⟩
 refine ab ?_ fun o54 => ?_
 ·omega
 refine ab ?_ fun o55 => ?_
 ·omega
 refine ab ?_ fun o56 => ?_
 ·omega
 refine ab ?_ fun o57 => ?_
 ·omega
 refine ab ?_ fun o58 => ?_
 ·omega
 refine ab ?_ fun o59 => ?_
 ·omega
 refine ab ?_ fun o60 => ?_
 ·omega
 refine ab ?_ fun o61 => ?_
 ·omega
 refine ab ?_ fun o62 => ?_
 ·omega
 refine ab ?_ fun o63 => ?_
 ·omega
 refine ab ?_ fun o64 => ?_
 ·omega
 refine ab ?_ fun o65 => ?_
 ·omega
 intro v66
 have b66 : v66.i = (aI (aI (aI (aI (x1, x2, x3) (bif (!x5) then ((x4 + 2) % 3) else ((x4 + 1) % 3)) 1) (bif (!x5) then ((x4 + 1) % 3) else ((x4 + 2) % 3)) 1) (bif (!x5) then ((x4 + 2) % 3) else ((x4 + 1) % 3)) (-1)) (bif (!x5) then ((x4 + 1) % 3) else ((x4 + 2) % 3)) (-1)).1 := rfl
 refine ab ?_ fun o67 => ?_
 ·omega
 refine ab ?_ fun o68 => ?_
 ·omega
 intro v69
 have b69 : v69.i = (aI (aI (aI (aI (x1, x2, x3) (bif (!x5) then ((x4 + 2) % 3) else ((x4 + 1) % 3)) 1) (bif (!x5) then ((x4 + 1) % 3) else ((x4 + 2) % 3)) 1) (bif (!x5) then ((x4 + 2) % 3) else ((x4 + 1) % 3)) (-1)) (bif (!x5) then ((x4 + 1) % 3) else ((x4 + 2) % 3)) (-1)).2.1 := rfl
 refine ab ?_ fun o70 => ?_
 ·omega
 refine ab ?_ fun o71 => ?_
 ·omega
 intro v72
 have b72 : v72.i = (aI (aI (aI (aI (x1, x2, x3) (bif (!x5) then ((x4 + 2) % 3) else ((x4 + 1) % 3)) 1) (bif (!x5) then ((x4 + 1) % 3) else ((x4 + 2) % 3)) 1) (bif (!x5) then ((x4 + 2) % 3) else ((x4 + 1) % 3)) (-1)) (bif (!x5) then ((x4 + 1) % 3) else ((x4 + 2) % 3)) (-1)).2.2 := rfl
 refine ab ?_ fun o73 => ?_
 ·omega
 refine ab ?_ fun o74 => ?_
 ·omega
 refine ab ?_ fun o75 => ?_
 ·exact ⟨gp, Qg (x := x1) (y := x2) (z := x3) (by omega) gc⟩
 refine ab ?_ fun o76 => ?_
 ·omega
 refine ab ?_ fun o77 => ?_
 ·omega
 refine ab ?_ fun o78 => ?_
 ·omega
 refine ab ?_ fun o79 => ?_
 ·omega
 refine ab ?_ fun o80 => ?_
 ·omega
 refine ab ?_ fun o81 => ?_
 ·omega
 refine fM (dec := cd) (enc := BQ) (fun f => ⟨rfl, rfl, rfl, trivial⟩) (by decide) (by decide) ?_
 cases x5 <;> rfl
theorem Qh : aZ Tryz.prog ρ0 wy := by
 refine dm (cf := gx none [] [uv, wx] [] bq) (cI bt ((bw.cons P9 P').cons Np Nq) kO) Tryz.func19 rfl 600 rfl fun ds hr hp => ?_
 have hr := aA hr
 match ds, hr, hp with
 | [d0, d1, d2, d3, d4, d5, d6], hr, hp =>
  obtain ⟨l0, ⟨e1, l1, u1⟩, ⟨e2, l2, u2⟩, ⟨e3, l3, u3⟩, ⟨e4, l4, u4⟩, e5, ⟨e6, l6, u6⟩, _⟩ := hr
  generalize d0 = x0, d1.i = x1, d2.i = x2, d3.i = x3, d4.i = x4 at *
  obtain ⟨x5, rfl⟩ : ∃ x, d5 = xB x := ⟨_, e5⟩
  generalize d6.i = x6 at *
  subst e1 e2 e3 e4 e6
  exact Eq.mpr (Qa x0 x1 x2 x3 x4 x5 x6) (Qb x0 x1 x2 x3 x4 x5 x6 l0 ⟨l1, u1⟩ ⟨l2, u2⟩ ⟨l3, u3⟩ ⟨l4, u4⟩ ⟨l6, u6⟩ hp)
theorem Qi : Hs wy.f := ⟨_, Tryz.func19, by kernel_rfl, by kernel_rfl⟩
end Vc
end Go.Proofs.YtpmfkelglmgddaaGreatDoor
