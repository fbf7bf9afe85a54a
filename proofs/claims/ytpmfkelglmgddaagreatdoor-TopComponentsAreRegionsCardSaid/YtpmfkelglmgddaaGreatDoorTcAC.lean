/- Contracts of functions, each out of one walk. -/
import Derived.Test.YtpmfkelglmgddaaGreatDoorTcAB
import Derived.Test.YtpmfkelglmgddaaGreatDoorTcO
namespace Go.Proofs.YtpmfkelglmgddaaGreatDoor
namespace Vc
open Go Go.RowKit
set_option linter.unusedVariables false
def Kt (x0 x1 : Int) : Prop :=
((rI ((((IntKind.wrap Go.IntKind.u64 ((bits Go.BinOp.and Go.IntKind.u64 1 4294967295) * (bits Go.BinOp.and Go.IntKind.u64 x1 4294967295))) / 4294967296) / 4294967296) + (((bits Go.BinOp.and Go.IntKind.u64 ((IntKind.wrap Go.IntKind.u64 ((bits Go.BinOp.and Go.IntKind.u64 1 4294967295) * (bits Go.BinOp.and Go.IntKind.u64 x1 4294967295))) / 4294967296) 4294967295) + ((bits Go.BinOp.and Go.IntKind.u64 1 4294967295) * (x1 / 4294967296))) / 4294967296)) (Ff 996 [xI x0, xI x1]).i 0 0) ∧ ((rI x1 (Ff 997 [xI x0, xI x1]).i 0 3072) ∧ True))
theorem O9 (x0 x1 : Int) : (bS (fun j => Ff j [xI x0, xI x1]) yq.fs yq.res { ρ0 with x := fun j => [xI x0, xI x1].getD j (xI 0) } (bP Tryz.prog (gx none [] [] [] bq) Tryz.f56 600 yq.args)) = Kt x0 x1 := by kernel_rfl
set_option maxHeartbeats 4000000 in
theorem O' (x0 x1 : Int) (g0 : 1 ≤ x0 ∧ x0 ≤ 1) (g1 : 0 ≤ x1 ∧ x1 ≤ 3072) : Kt x0 x1 := by
 unfold Kt
 refine ⟨aD ?_ ?_, aD rfl g1, trivial⟩
 ·show (0 : Int) = _
  rw [sR (x := 1) (by omega) (by omega), sR (x := x1) (by omega) (by omega), Int.one_mul, I9 (by omega) (by omega), Int.one_mul, Int.ediv_eq_zero_of_lt (by omega) (by omega : x1 < 4294967296), sR (x := 0) (by omega) (by omega)]
  rfl
 ·rw [sR (x := 1) (by omega) (by omega), sR (x := x1) (by omega) (by omega), Int.one_mul, I9 (by omega) (by omega), Int.one_mul, Int.ediv_eq_zero_of_lt (by omega) (by omega : x1 < 4294967296), sR (x := 0) (by omega) (by omega)]
  decide
theorem Pa : aZ Tryz.prog ρ0 yq := by
 refine db (cf := gx none [] [] [] bq) (cI bt bw kO) Tryz.func56 rfl 600 rfl fun ds hr => ?_
 have hr := aA hr
 match ds, hr with
 | [d0, d1], hr =>
  obtain ⟨⟨e0, l0, u0⟩, ⟨e1, l1, u1⟩, _⟩ := hr
  generalize d0.i = x0, d1.i = x1 at *
  subst e0 e1
  exact Eq.mpr (O9 x0 x1) (O' x0 x1 ⟨l0, u0⟩ ⟨l1, u1⟩)
theorem Pc : Hs yq.f := ⟨_, Tryz.func56, by kernel_rfl, by kernel_rfl⟩
def DK (x0 : X) (x1 : X) : Prop :=
(Px 968 [x0, x1, (xI (x1.i - 1)), (aH (z7 [xI 0]) x0.i)] ∧
(∀ x20 : X, (∀ x21 : X, ((((-1) ≤ x20.i) ∧ (x20.i ≤ 12287)) →
((0 ≤ x21.i ∧ x21.i ≤ 3072 ∧ au Ko x21.r (x21.i).toNat) →
(Px 968 [x0, x1, x20, x21] →
(((0 ≤ x20.i) →
((x20.i < x1.i) ∧
(((x1.r x20.i 5).i < x21.i) ∧
(Px 968 [x0, x1, (xI (x20.i - 1)), (aH (ak x21.r (x1.r x20.i 5).i 0 x20) x21.i)] ∧
(((Ff 998 [x0, x1, (xI (x20.i - 1)), (aH (ak x21.r (x1.r x20.i 5).i 0 x20) x21.i)]).i < (Ff 998 [x0, x1, x20, x21]).i) ∧
(0 < (Ff 998 [x0, x1, x20, x21]).i)))))) ∧
((¬ (0 ≤ x20.i)) →
(let v11 := Ff 997 [xI 1, xI x0.i]; (Px 969 [x0, x1, (xI (min v11.i 1)), (aH (pT (z7 [xI 0]) 0 (min v11.i 1) (ar 1 [(xI (-1))]) 0) v11.i)] ∧
(∀ x30 : X, (∀ x31 : X, (((0 ≤ x30.i) ∧ (x30.i ≤ 3072)) →
((0 ≤ x31.i ∧ x31.i ≤ 3072 ∧ au kQ x31.r (x31.i).toNat) →
(Px 969 [x0, x1, x30, x31] →
(((x30.i < x31.i) →
((x30.i ≤ x31.i) ∧
((x30.i ≤ x31.i) ∧
(((x30.i + (min (x31.i - x30.i) x30.i)) ≤ 3072) ∧
(Px 969 [x0, x1, (xI (x30.i + (min (x31.i - x30.i) x30.i))), (aH (pT x31.r x30.i (min (x31.i - x30.i) x30.i) (de x31.r 0) 0) x31.i)] ∧
(((Ff 999 [x0, x1, (xI (x30.i + (min (x31.i - x30.i) x30.i))), (aH (pT x31.r x30.i (min (x31.i - x30.i) x30.i) (de x31.r 0) 0) x31.i)]).i < (Ff 999 [x0, x1, x30, x31]).i) ∧
(0 < (Ff 999 [x0, x1, x30, x31]).i))))))) ∧
((¬ (x30.i < x31.i)) →
(Px 971 [x0, x1, xI 0, xI 0, x31] ∧
(∀ x40 : X, (∀ x41 : X, (∀ x42 : X, (((0 ≤ x40.i) ∧ (x40.i ≤ 3072)) →
(((0 ≤ x41.i) ∧ (x41.i ≤ 3072)) →
((0 ≤ x42.i ∧ x42.i ≤ 3072 ∧ au kQ x42.r (x42.i).toNat) →
(Px 971 [x0, x1, x40, x41, x42] →
(((x40.i < x31.i) →
((x40.i < x42.i) ∧
((((x42.r x40.i 0).i < 0) →
(Px 958 [x0, x1, x21, x42, x41, x40, x0] ∧
(((x41.i + 1) ≤ 3072) ∧
(let v36 := Ff 995 [x0, x1, x21, x42, x41, x40, x0]; (Px 971 [x0, x1, (xI (x40.i + 1)), (xI (x41.i + 1)), (aH v36.r x42.i)] ∧
(((Ff 1000 [x0, x1, (xI (x40.i + 1)), (xI (x41.i + 1)), (aH v36.r x42.i)]).i < (Ff 1000 [x0, x1, x40, x41, x42]).i) ∧
(0 < (Ff 1000 [x0, x1, x40, x41, x42]).i))))))) ∧
((¬ ((x42.r x40.i 0).i < 0)) →
(Px 971 [x0, x1, (xI (x40.i + 1)), xI x41.i, x42] ∧
(((Ff 1000 [x0, x1, (xI (x40.i + 1)), xI x41.i, x42]).i < (Ff 1000 [x0, x1, x40, x41, x42]).i) ∧
(0 < (Ff 1000 [x0, x1, x40, x41, x42]).i))))))) ∧
((¬ (x40.i < x31.i)) →
(cR kQ (Ff 943 [x0, x1]) x42.r x42.i 3072))))))))))))))))))))))))))))
theorem MT (x0 : X) (x1 : X) : (bS (fun j => Ff j [x0, x1]) lP.fs lP.res { ρ0 with x := fun j => [x0, x1].getD j (xI 0) } (bP Tryz.prog (ui (hZ Ks) none [] [yq] DJ bq) Tryz.f7 600 lP.args)) = DK x0 x1 := by kernel_rfl
set_option maxHeartbeats 4000000 in
theorem MU (x0 : X) (x1 : X) (g0 : 0 ≤ x0.i ∧ x0.i ≤ 3072 ∧ au iO x0.r x0.i.toNat) (g1 : 0 ≤ x1.i ∧ x1.i ≤ 12288 ∧ au su x1.r x1.i.toNat) (gp : Px lP.pre.get! [x0, x1]) : DK x0 x1 := by
 unfold DK
 have hm : ug x0 x1 := gp
 obtain ⟨hH, hA⟩ := DH hm g0.1
 have hl : (ae aQ x0).length = x0.i.toNat := aK _ _
 refine ab ?_ fun o0 => ?_
 ·refine ⟨show -1 ≤ x1.i - 1 by omega, show x1.i - 1 < x1.i by omega, rfl, fun k k0 k1 => ?_⟩
  have k1 : k < x0.i := k1
  show (0 : Int) = if x1.i - 1 < 4 * k + 3 then max (4 * k) (x1.i - 1 + 1) else 0
  rw [if_neg (by omega)]
 intro x20 x21 h1 r2
 have R2 := r2
 intro p3
 refine And.intro ?_ ?_
 ·intro h5
  obtain ⟨i0, i1, i2, i3⟩ : -1 ≤ x20.i ∧ x20.i < x1.i ∧ x21.i = x0.i ∧ ∀ k : Int, 0 ≤ k → k < x0.i → (x21.r k 0).i = if x20.i < 4 * k + 3 then max (4 * k) (x20.i + 1) else 0 := p3
  have a5 := (hA x20.i h5 (by omega)).2.2
  refine ab ?_ fun o6 => ?_
  ·exact i1
  refine ab ?_ fun o7 => ?_
  ·omega
  refine ab ?_ fun o8 => ?_
  ·refine ⟨show -1 ≤ x20.i - 1 by omega, show x20.i - 1 < x1.i by omega, i2, fun k k0 k1 => ?_⟩
   have k1 : k < x0.i := k1
   show (ak x21.r (x1.r x20.i 5).i 0 x20 k 0).i = if x20.i - 1 < 4 * k + 3 then max (4 * k) (x20.i - 1 + 1) else 0
   unfold ak
   by_cases hk : k = (x1.r x20.i 5).i
   ·rw [if_pos ⟨hk, rfl⟩, if_pos (by omega)]
    show x20.i = _
    omega
   ·rw [if_neg fun h => hk h.1, i3 k k0 k1]
    split <;> split <;> omega
  refine ab ?_ fun o9 => ?_
  ·show x20.i - 1 + 2 < x20.i + 2
   omega
  show 0 < x20.i + 2
  omega
 intro h10
 obtain ⟨i0, i1, i2, i3⟩ : -1 ≤ x20.i ∧ x20.i < x1.i ∧ x21.i = x0.i ∧ ∀ k : Int, 0 ≤ k → k < x0.i → (x21.r k 0).i = if x20.i < 4 * k + 3 then max (4 * k) (x20.i + 1) else 0 := p3
 intro v11
 have e11 : v11.i = x0.i := rfl
 refine ab ?_ fun o12 => ?_
 ·refine ⟨fun h => show 1 ≤ min v11.i 1 by have h : 1 ≤ x0.i := h; omega, show min v11.i 1 ≤ x0.i by omega, e11, fun k k0 k1 => ?_⟩
  have k1 : k < min v11.i 1 := k1
  obtain rfl : k = 0 := by omega
  show (pT (z7 [xI 0]) 0 (min v11.i 1) (ar 1 [(xI (-1))]) 0 0 0).i = -1
  unfold pT
  rw [if_pos (by omega)]
  rfl
 intro x30 x31 h13 r14 p15
 refine And.intro ?_ ?_
 ·intro h17
  obtain ⟨j0, j1, j2, j3⟩ : (1 ≤ x0.i → 1 ≤ x30.i) ∧ x30.i ≤ x0.i ∧ x31.i = x0.i ∧ ∀ k : Int, 0 ≤ k → k < x30.i → (x31.r k 0).i = -1 := p15
  refine ab ?_ fun o18 => ?_
  ·omega
  refine ab ?_ fun o19 => ?_
  ·omega
  refine ab ?_ fun o20 => ?_
  ·omega
  refine ab ?_ fun o21 => ?_
  ·refine ⟨fun h => show 1 ≤ x30.i + min (x31.i - x30.i) x30.i by have := j0 h; omega, show x30.i + min (x31.i - x30.i) x30.i ≤ x0.i by omega, j2, fun k k0 k1 => ?_⟩
   have k1 : k < x30.i + min (x31.i - x30.i) x30.i := k1
   show (pT x31.r x30.i (min (x31.i - x30.i) x30.i) (de x31.r 0) 0 k 0).i = -1
   unfold pT
   by_cases hk : x30.i ≤ k
   ·rw [if_pos (by omega)]
    show (x31.r (k - x30.i + 0 + 0) 0).i = -1
    exact j3 _ (by omega) (by omega)
   ·rw [if_neg (by omega)]
    exact j3 _ k0 (by omega)
  refine ab ?_ fun o22 => ?_
  ·have := j0 (by omega)
   show x0.i + 1 - (x30.i + min (x31.i - x30.i) x30.i) < x0.i + 1 - x30.i
   omega
  show 0 < x0.i + 1 - x30.i
  omega
 intro h23
 obtain ⟨j0, j1, j2, j3⟩ : (1 ≤ x0.i → 1 ≤ x30.i) ∧ x30.i ≤ x0.i ∧ x31.i = x0.i ∧ ∀ k : Int, 0 ≤ k → k < x30.i → (x31.r k 0).i = -1 := p15
 refine ab ?_ fun o24 => ?_
 ·refine ⟨Int.le_refl 0, g0.1, j2, ?_⟩
  show (ae cb x31, (0 : Int)) = cP (gN (ae aQ x0)) x0.i.toNat 0
  rw [GZ fun k k0 k1 => j3 k k0 (by omega), j2]
  rfl
 intro x40 x41 x42 h25 h26 r27 p28
 refine And.intro ?_ ?_
 ·intro h30
  obtain ⟨m0, m1, m2, m3⟩ : x41.i ≤ x40.i ∧ x40.i ≤ x0.i ∧ x42.i = x0.i ∧ (ae cb x42, x41.i) = cP (gN (ae aQ x0)) x0.i.toNat x40.i.toNat := p28
  have hgd : (ae cb x42).getD x40.i.toNat 0 = (x42.r x40.i 0).i := pR (by omega) (by omega)
  have hu := kR (gN (ae aQ x0)) x0.i.toNat x40.i.toNat
  rw [← m3] at hu
  dsimp only at hu
  rw [hgd] at hu
  refine ab ?_ fun o31 => ?_
  ·omega
  refine And.intro ?_ ?_
  ·intro h33
   have hs := vX (n := x41.i) (g := x40.i) (k := x0.i.toNat) m2 (by omega)
   rw [if_pos h33, ← hs] at hu
   refine ab ?_ fun o34 => ?_
   ·refine ⟨⟨hm, ⟨i2, fun k k0 k1 => ?_⟩, m2, ⟨h25.1, by omega⟩, h33, ⟨h26.1, by omega⟩, g0.1, ?_⟩, O8 _⟩
    ·rw [i3 k k0 k1, if_pos (by omega)]
     omega
    ·have := GY (ae cb x42)
     rw [aK] at this
     show hY (ae cb x42) ≤ x0.i.toNat
     omega
   refine ab ?_ fun o35 => ?_
   ·omega
   intro v36
   refine ab ?_ fun o37 => ?_
   ·refine ⟨show x41.i + 1 ≤ x40.i + 1 by omega, show x40.i + 1 ≤ x0.i by omega, m2, ?_⟩
    show (_, x41.i + 1) = cP (gN (ae aQ x0)) x0.i.toNat (x40.i + 1).toNat
    rw [show (x40.i + 1).toNat = x40.i.toNat + 1 by omega]
    exact hu.symm
   refine ab ?_ fun o38 => ?_
   ·show x0.i + 1 - (x40.i + 1) < x0.i + 1 - x40.i
    omega
   show 0 < x0.i + 1 - x40.i
   omega
  intro h39
  rw [if_neg h39] at hu
  refine ab ?_ fun o40 => ?_
  ·refine ⟨show x41.i ≤ x40.i + 1 by omega, show x40.i + 1 ≤ x0.i by omega, m2, ?_⟩
   show (ae cb x42, x41.i) = cP (gN (ae aQ x0)) x0.i.toNat (x40.i + 1).toNat
   rw [show (x40.i + 1).toNat = x40.i.toNat + 1 by omega]
   exact hu.symm
  refine ab ?_ fun o41 => ?_
  ·show x0.i + 1 - (x40.i + 1) < x0.i + 1 - x40.i
   omega
  show 0 < x0.i + 1 - x40.i
  omega
 intro h42
 obtain ⟨m0, m1, m2, m3⟩ : x41.i ≤ x40.i ∧ x40.i ≤ x0.i ∧ x42.i = x0.i ∧ (ae cb x42, x41.i) = cP (gN (ae aQ x0)) x0.i.toNat x40.i.toNat := p28
 refine fM (dec := cb) (enc := BN) (fun f => ⟨rfl, trivial⟩) (by omega) (by omega) ?_
 rw [eW]
 show _ = (cP (gN (ae aQ x0)) (ae aQ x0).length (ae aQ x0).length).1
 rw [hl]
 have e := congrArg Prod.fst m3
 rw [show x40.i.toNat = x0.i.toNat by omega] at e
 exact e
theorem I' : aZ Tryz.prog ρ0 lP := by
 refine dm (cf := ui (hZ Ks) none [] [yq] DJ bq) (ib (z6 Ks) bt (bw.cons Pa Pc) kO) Tryz.func7 rfl 600 rfl fun ds hr hp => ?_
 have hr := aA hr
 match ds, hr, hp with
 | [d0, d1], hr, hp =>
  obtain ⟨l0, l1, _⟩ := hr
  generalize d0 = x0, d1 = x1 at *
  exact Eq.mpr (MT x0 x1) (MU x0 x1 l0 l1 hp)
theorem Ja : Hs lP.f := ⟨_, Tryz.func7, by kernel_rfl, by kernel_rfl⟩
end Vc
end Go.Proofs.YtpmfkelglmgddaaGreatDoor
