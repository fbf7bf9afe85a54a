/- Contracts of functions, each out of one walk. -/
import Derived.Test.YtaacclebncplbaaGreatDoorC20N
import Derived.Test.YtaacclebncplbaaGreatDoorC20A
import Derived.Test.YtaacclebncplbaaGreatDoorC04D
import Derived.Test.YtaacclebncplbaaGreatDoorC04E
import Derived.Test.YtaacclebncplbaaGreatDoorC04L
import Derived.Test.YtaacclebncplbaaGreatDoorC07S
namespace Go.Proofs.YtaacclebncplbaaGreatDoor
namespace Vc
open Go Go.RowKit
set_option linter.unusedVariables false
def CmpP (x0 x1 : Int) : Prop :=
(((x0 < x1) →
(rI (-1) (Ff 1069 [xI x0, xI x1]).i (-1) 1)) ∧
((¬ (x0 < x1)) →
(((x1 < x0) →
(rI 1 (Ff 1069 [xI x0, xI x1]).i (-1) 1)) ∧
((¬ (x1 < x0)) →
(rI 0 (Ff 1069 [xI x0, xI x1]).i (-1) 1)))))
theorem CmpL (x0 x1 : Int) : ((walkF Tryz.prog (cf0 []) Tryz.f91 400 (shS cCmp.args 0)).ctr { ρ0 with x := fun j => [xI x0, xI x1].getD j (xI 0) } (fun j => Ff j [xI x0, xI x1]) cCmp.fs cCmp.res) = CmpP x0 x1 := by kernel_rfl
set_option maxHeartbeats 4000000 in
theorem CmpO (x0 x1 : Int) (g0 : -9223372036854775808 ≤ x0 ∧ x0 ≤ 9223372036854775807) (g1 : -9223372036854775808 ≤ x1 ∧ x1 ≤ 9223372036854775807) : CmpP x0 x1 := by
 unfold CmpP
 refine And.intro ?_ ?_
 ·intro h1
  have e : cmI x0 x1 = -1 := if_pos h1
  exact ⟨e.symm, cmI_rng⟩
 intro h2
 refine And.intro ?_ ?_
 ·intro h4
  have e : cmI x0 x1 = 1 := (if_neg h2).trans (if_pos h4)
  exact ⟨e.symm, cmI_rng⟩
 intro h5
 have e : cmI x0 x1 = 0 := (if_neg h2).trans (if_neg h5)
 exact ⟨e.symm, cmI_rng⟩
theorem kCmp : CtrOk Tryz.prog ρ0 cCmp := by
 refine ctr_of (cf := cf0 []) (cf0_ok keep0) Tryz.func91 rfl 400 fun ds hr => ?_
 match ds, hr with
 | [d0, d1], hr =>
  obtain ⟨⟨⟨e0, l0, u0⟩, _⟩, ⟨⟨e1, l1, u1⟩, _⟩, _⟩ := hr
  generalize d0.i = x0, d1.i = x1 at *
  subst e0 e1
  exact Eq.mpr (CmpL x0 x1) (CmpO x0 x1 ⟨l0, u0⟩ ⟨l1, u1⟩)
theorem nCmp : Hs cCmp.f := ⟨_, Tryz.func91, by kernel_rfl, by kernel_rfl⟩
def RepP (x0 x1 x2 x3 x4 x5 : Int) (x6 : X) (x7 x8 x9 x10 x11 x12 : Int) (x13 : X) (x14 x15 x16 x17 x18 x19 : Int) : Prop :=
 let A := [xI x0, xI x1, xI x2, xI x3, xI x4, xI x5, x6, xI x7, xI x8, xI x9, xI x10, xI x11, xI x12, x13, xI x14, xI x15, xI x16, xI x17, xI x18, xI x19]; (((x13.i = 0) →
(((Ff 1034 A).i = 0 ∧ 0 ≤ (2097152 : Int)) ∧ ((rI 1 (Ff 1035 A).i 0 2) ∧ True))) ∧
((¬ (x13.i = 0)) →
(Px 1073 (A ++ [xI 0, (mkX (rwTab 1 []) 0)]) ∧
(∀ x30 : X, (∀ x31 : X, (((0 ≤ x30.i) ∧ (x30.i ≤ 2097152)) →
((0 ≤ x31.i ∧ x31.i ≤ 2097152 ∧ RowOk SCc x31.r (x31.i).toNat) →
(Px 1073 (A ++ [x30, x31]) →
(((x30.i < x6.i) →
((x30.i < x6.i) ∧
(let v10 := Ff 270 [xI x0, xI x1, xI x2, xI x3, xI x4, xI x5, xI x30.i]; let v11 := Ff 271 [xI x0, xI x1, xI x2, xI x3, xI x4, xI x5, xI x30.i]; let v12 := Ff 272 [xI x0, xI x1, xI x2, xI x3, xI x4, xI x5, xI x30.i]; (((¬ ((((((x14 ≤ v10.i) ∧ (v10.i < x17)) ∧ (x15 ≤ v11.i)) ∧ (v11.i < x18)) ∧ (x16 ≤ v12.i)) ∧ (v12.i < x19))) →
(Px 1073 (A ++ [(xI (x30.i + 1)), x31]) ∧
(((Ff 1073 (A ++ [(xI (x30.i + 1)), x31])).i < (Ff 1073 (A ++ [x30, x31])).i) ∧
(0 < (Ff 1073 (A ++ [x30, x31])).i)))) ∧
(((((((x14 ≤ v10.i) ∧ (v10.i < x17)) ∧ (x15 ≤ v11.i)) ∧ (v11.i < x18)) ∧ (x16 ≤ v12.i)) ∧ (v12.i < x19)) →
(let v18 := Ff 205 [xI x7, xI x8, xI x9, xI x10, xI x11, xI x12]; (((x7 + ((v10.i + ((-1) * x14)) % v18.i)) ≤ 1048576) ∧
(let v20 := Ff 206 [xI x7, xI x8, xI x9, xI x10, xI x11, xI x12]; (((x8 + ((v11.i + ((-1) * x15)) % v20.i)) ≤ 1048576) ∧
(let v22 := Ff 207 [xI x7, xI x8, xI x9, xI x10, xI x11, xI x12]; (((x9 + ((v12.i + ((-1) * x16)) % v22.i)) ≤ 1048576) ∧
(Px 710 [xI x7, xI x8, xI x9, xI x10, xI x11, xI x12, x13, (xI (x7 + ((v10.i + ((-1) * x14)) % v18.i))), (xI (x8 + ((v11.i + ((-1) * x15)) % v20.i))), (xI (x9 + ((v12.i + ((-1) * x16)) % v22.i)))] ∧
((0 < v22.i) ∧
((0 ≤ (v12.i + ((-1) * x16))) ∧
((0 < v20.i) ∧
((0 ≤ (v11.i + ((-1) * x15))) ∧
((0 < v18.i) ∧
((0 ≤ (v10.i + ((-1) * x14))) ∧
(let v31 := Ff 908 [xI x7, xI x8, xI x9, xI x10, xI x11, xI x12, x13, (xI (x7 + ((v10.i + ((-1) * x14)) % v18.i))), (xI (x8 + ((v11.i + ((-1) * x15)) % v20.i))), (xI (x9 + ((v12.i + ((-1) * x16)) % v22.i)))]; (((¬ (v31.i = (x6.r x30.i 0).i)) →
(((x31.i + 1) ≤ 2097152) ∧
(Px 1073 (A ++ [(xI (x30.i + 1)), (mkX (rwCat x31.r x31.i (rwTab 5 [v10, v11, v12, (selX x6.r x30.i 0), v31])) (x31.i + 1))]) ∧
(((Ff 1073 (A ++ [(xI (x30.i + 1)), (mkX (rwCat x31.r x31.i (rwTab 5 [v10, v11, v12, (selX x6.r x30.i 0), v31])) (x31.i + 1))])).i < (Ff 1073 (A ++ [x30, x31])).i) ∧
(0 < (Ff 1073 (A ++ [x30, x31])).i))))) ∧
((v31.i = (x6.r x30.i 0).i) →
(Px 1073 (A ++ [(xI (x30.i + 1)), x31]) ∧
(((Ff 1073 (A ++ [(xI (x30.i + 1)), x31])).i < (Ff 1073 (A ++ [x30, x31])).i) ∧
(0 < (Ff 1073 (A ++ [x30, x31])).i)))))))))))))))))))))))) ∧
((¬ (x30.i < x6.i)) →
((rowEq SCc (Ff 1034 A) x31.r x31.i 2097152) ∧ ((rI 0 (Ff 1035 A).i 0 2) ∧ True))))))))))))
theorem RepL (x0 x1 x2 x3 x4 x5 : Int) (x6 : X) (x7 x8 x9 x10 x11 x12 : Int) (x13 : X) (x14 x15 x16 x17 x18 x19 : Int) : (ctrR (fun j => Ff j [xI x0, xI x1, xI x2, xI x3, xI x4, xI x5, x6, xI x7, xI x8, xI x9, xI x10, xI x11, xI x12, x13, xI x14, xI x15, xI x16, xI x17, xI x18, xI x19]) cRep.fs cRep.res { ρ0 with x := fun j => [xI x0, xI x1, xI x2, xI x3, xI x4, xI x5, x6, xI x7, xI x8, xI x9, xI x10, xI x11, xI x12, x13, xI x14, xI x15, xI x16, xI x17, xI x18, xI x19].getD j (xI 0) } (walkR Tryz.prog (cfG none [cAt, cSize] [cGet] lpRep sumC) Tryz.f14 600 shRep)) = RepP x0 x1 x2 x3 x4 x5 x6 x7 x8 x9 x10 x11 x12 x13 x14 x15 x16 x17 x18 x19 := by kernel_rfl
set_option maxHeartbeats 4000000 in
theorem RepO (x0 x1 x2 x3 x4 x5 : Int) (x6 : X) (x7 x8 x9 x10 x11 x12 : Int) (x13 : X) (x14 x15 x16 x17 x18 x19 : Int) (g0 : -1048575 ≤ x0 ∧ x0 ≤ 1048575) (g1 : -1048575 ≤ x1 ∧ x1 ≤ 1048575) (g2 : -1048575 ≤ x2 ∧ x2 ≤ 1048575) (g3 : -1048575 ≤ x3 ∧ x3 ≤ 1048575) (g4 : -1048575 ≤ x4 ∧ x4 ≤ 1048575) (g5 : -1048575 ≤ x5 ∧ x5 ≤ 1048575) (g6 : 0 ≤ x6.i ∧ x6.i ≤ 2097152 ∧ RowOk SMat x6.r x6.i.toNat) (g7 : -10000 ≤ x7 ∧ x7 ≤ 10000) (g8 : -10000 ≤ x8 ∧ x8 ≤ 10000) (g9 : -10000 ≤ x9 ∧ x9 ≤ 10000) (g10 : -10000 ≤ x10 ∧ x10 ≤ 10000) (g11 : -10000 ≤ x11 ∧ x11 ≤ 10000) (g12 : -10000 ≤ x12 ∧ x12 ≤ 10000) (g13 : 0 ≤ x13.i ∧ x13.i ≤ 2097152 ∧ RowOk SMat x13.r x13.i.toNat) (g14 : -10000 ≤ x14 ∧ x14 ≤ 10000) (g15 : -10000 ≤ x15 ∧ x15 ≤ 10000) (g16 : -10000 ≤ x16 ∧ x16 ≤ 10000) (g17 : -10000 ≤ x17 ∧ x17 ≤ 10000) (g18 : -10000 ≤ x18 ∧ x18 ≤ 10000) (g19 : -10000 ≤ x19 ∧ x19 ≤ 10000) (gp : Px cRep.pre.get! [xI x0, xI x1, xI x2, xI x3, xI x4, xI x5, x6, xI x7, xI x8, xI x9, xI x10, xI x11, xI x12, x13, xI x14, xI x15, xI x16, xI x17, xI x18, xI x19]) : RepP x0 x1 x2 x3 x4 x5 x6 x7 x8 x9 x10 x11 x12 x13 x14 x15 x16 x17 x18 x19 := by
 unfold RepP
 intro A
 have gv : validG ⟨(bxI x0 x1 x2 x3 x4 x5), lstX deI x6⟩ = true := gp.1
 have gw : validG ⟨(bxI x7 x8 x9 x10 x11 x12), lstX deI x13⟩ = true := gp.2.1
 have hv := val_len gv
 have hw := val_len gw
 rw [lstX_len] at hv hw
 refine And.intro ?_ ?_
 ·intro h1
  have e : rpE (lstX deI x13) = 1 := if_pos (by rw [lstX_len]; omega)
  refine ⟨⟨?_, by decide⟩, rngI e (by decide), trivial⟩
  show ((rqL (bxI x0 x1 x2 x3 x4 x5) (lstX deI x6) (bxI x7 x8 x9 x10 x11 x12) (lstX deI x13) (bxI x14 x15 x16 x17 x18 x19)).length : Int) = 0
  unfold rqL
  rw [e]
  rfl
 intro h2
 have hn : neX (bxI x7 x8 x9 x10 x11 x12) := ne_of_vol (by
  have hw : (bxI x7 x8 x9 x10 x11 x12).vol = (x13.i.toNat : Nat) := hw
  omega)
 have hn0 : x7 < x10 ∧ x8 < x11 ∧ x9 < x12 := hn
 refine andI ?_ fun o3 => ?_
 ·exact ⟨Int.le_refl _, g6.1, rfl⟩
 intro x30 x31 h4 r5 p6
 obtain ⟨i0, i1, i2⟩ := p6
 have i1 : x30.i ≤ x6.i := i1
 have i2 : lstX deC x31 = (List.range x30.i.toNat).filterMap (chC (bxI x0 x1 x2 x3 x4 x5) (lstX deI x6) (rpF (bxI x7 x8 x9 x10 x11 x12) (lstX deI x13) (bxI x14 x15 x16 x17 x18 x19))) := i2
 refine And.intro ?_ ?_
 ·intro h8
  have hs := chN_step (l := x6) (f := rpF (bxI x7 x8 x9 x10 x11 x12) (lstX deI x13) (bxI x14 x15 x16 x17 x18 x19)) (c := (getL (bxI x7 x8 x9 x10 x11 x12) (lstX deI x13) (x7 + (((bxI x0 x1 x2 x3 x4 x5).at x30.i).1 - x14) % (x10 - x7), x8 + (((bxI x0 x1 x2 x3 x4 x5).at x30.i).2.1 - x15) % (x11 - x8), x9 + (((bxI x0 x1 x2 x3 x4 x5).at x30.i).2.2 - x16) % (x12 - x9)))) (o := (bxI x14 x15 x16 x17 x18 x19).has ((bxI x0 x1 x2 x3 x4 x5).at x30.i)) h4.1 h8 rfl
  rw [← i2] at hs
  refine andI ?_ fun o9 => ?_
  ·exact h8
  intro v10 v11 v12
  refine And.intro ?_ ?_
  ·intro h14
   have hn : ¬ ((bxI x14 x15 x16 x17 x18 x19).has ((bxI x0 x1 x2 x3 x4 x5).at x30.i) = true ∧ ¬ (getL (bxI x7 x8 x9 x10 x11 x12) (lstX deI x13) (x7 + (((bxI x0 x1 x2 x3 x4 x5).at x30.i).1 - x14) % (x10 - x7), x8 + (((bxI x0 x1 x2 x3 x4 x5).at x30.i).2.1 - x15) % (x11 - x8), x9 + (((bxI x0 x1 x2 x3 x4 x5).at x30.i).2.2 - x16) % (x12 - x9))) = (x6.r x30.i 0).i) := fun h => h14 (by
    have := has_def.1 h.1
    exact ⟨⟨⟨⟨⟨this.1.1, this.1.2⟩, this.2.1.1⟩, this.2.1.2⟩, this.2.2.1⟩, this.2.2.2⟩)
   have hs := hs.trans (congrArg (fun t => _ ++ t) (if_neg hn))
   refine andI ?_ fun o15 => ?_
   ·exact ⟨show 0 ≤ x30.i + 1 by omega, show x30.i + 1 ≤ x6.i by omega, (hs.trans (List.append_nil _)).symm⟩
   refine andI ?_ fun o16 => ?_
   ·show x6.i + 1 - (x30.i + 1) < x6.i + 1 - x30.i
    omega
   show 0 < x6.i + 1 - x30.i
   omega
  intro h17
  have hb : (bxI x14 x15 x16 x17 x18 x19).has ((bxI x0 x1 x2 x3 x4 x5).at x30.i) = true := has_def.2 ⟨⟨h17.1.1.1.1.1, h17.1.1.1.1.2⟩, ⟨h17.1.1.1.2, h17.1.1.2⟩, h17.1.2, h17.2⟩
  intro v18
  have s18 : v18.i = x10 - x7 := if_pos hn
  have r18 := Int.emod_lt_of_pos (v10.i + (-1) * x14) (show 0 < v18.i by omega)
  refine andI ?_ fun o19 => ?_
  ·omega
  intro v20
  have s20 : v20.i = x11 - x8 := if_pos hn
  have r20 := Int.emod_lt_of_pos (v11.i + (-1) * x15) (show 0 < v20.i by omega)
  refine andI ?_ fun o21 => ?_
  ·omega
  intro v22
  have s22 : v22.i = x12 - x9 := if_pos hn
  have r22 := Int.emod_lt_of_pos (v12.i + (-1) * x16) (show 0 < v22.i by omega)
  refine andI ?_ fun o23 => ?_
  ·omega
  refine andI ?_ fun o24 => ?_
  ·exact gw
  refine andI ?_ fun o25 => ?_
  ·omega
  refine andI ?_ fun o26 => ?_
  ·omega
  refine andI ?_ fun o27 => ?_
  ·omega
  refine andI ?_ fun o28 => ?_
  ·omega
  refine andI ?_ fun o29 => ?_
  ·omega
  refine andI ?_ fun o30 => ?_
  ·omega
  intro v31
  have m1 : v10.i + (-1) * x14 = v10.i - x14 := by omega
  have m2 : v11.i + (-1) * x15 = v11.i - x15 := by omega
  have m3 : v12.i + (-1) * x16 = v12.i - x16 := by omega
  have e31 : v31.i = (getL (bxI x7 x8 x9 x10 x11 x12) (lstX deI x13) (x7 + (((bxI x0 x1 x2 x3 x4 x5).at x30.i).1 - x14) % (x10 - x7), x8 + (((bxI x0 x1 x2 x3 x4 x5).at x30.i).2.1 - x15) % (x11 - x8), x9 + (((bxI x0 x1 x2 x3 x4 x5).at x30.i).2.2 - x16) % (x12 - x9))) := by
   show getL (bxI x7 x8 x9 x10 x11 x12) (lstX deI x13) (x7 + (v10.i + (-1) * x14) % v18.i, x8 + (v11.i + (-1) * x15) % v20.i, x9 + (v12.i + (-1) * x16) % v22.i) = _
   rw [s18, s20, s22, m1, m2, m3]
   rfl
  rw [← e31] at hs
  refine And.intro ?_ ?_
  ·intro h33
   have hs := hs.trans (congrArg (fun t => _ ++ t) (if_pos ⟨hb, h33⟩))
   have hle := fmN_len (f := chC (bxI x0 x1 x2 x3 x4 x5) (lstX deI x6) (rpF (bxI x7 x8 x9 x10 x11 x12) (lstX deI x13) (bxI x14 x15 x16 x17 x18 x19))) (k := x30.i + 1) (by omega)
   rw [hs, List.length_append, lstX_len, List.length_singleton] at hle
   refine andI ?_ fun o34 => ?_
   ·omega
   refine andI ?_ fun o35 => ?_
   ·exact ⟨show 0 ≤ x30.i + 1 by omega, show x30.i + 1 ≤ x6.i by omega, (lstX_push r5.1 5 _).trans hs.symm⟩
   refine andI ?_ fun o36 => ?_
   ·show x6.i + 1 - (x30.i + 1) < x6.i + 1 - x30.i
    omega
   show 0 < x6.i + 1 - x30.i
   omega
  intro h37
  have hs := hs.trans (congrArg (fun t => _ ++ t) (if_neg fun h => h.2 h37))
  refine andI ?_ fun o38 => ?_
  ·exact ⟨show 0 ≤ x30.i + 1 by omega, show x30.i + 1 ≤ x6.i by omega, (hs.trans (List.append_nil _)).symm⟩
  refine andI ?_ fun o39 => ?_
  ·show x6.i + 1 - (x30.i + 1) < x6.i + 1 - x30.i
   omega
  show 0 < x6.i + 1 - x30.i
  omega
 intro h40
 have e : rpE (lstX deI x13) = 0 := if_neg (by rw [lstX_len]; omega)
 refine ⟨rowEq_of eqEl_C r5.1 r5.2.1 ?_, rngI e (by decide), trivial⟩
 have en : x30.i.toNat = (lstX deI x6).length := by
  rw [lstX_len]
  omega
 rw [en] at i2
 exact i2.trans (if_pos e).symm
theorem kRep : RCtrOk Tryz.prog ρ0 cRep := by
 refine rctr_ofN (cf := cfG none [cAt, cSize] [cGet] lpRep sumC) (cfG_ok ((keep0.cons kSize nSize).cons kAt nAt) (keepR0.cons kGet nGet) noF) Tryz.func14 rfl 600 rfl (sh := shRep) (by kernel_rfl) rep_rsh fun ds hr hp => ?_
 have hr := rshX_flat hr
 match ds, hr, hp with
 | [d0, d1, d2, d3, d4, d5, d6, d7, d8, d9, d10, d11, d12, d13, d14, d15, d16, d17, d18, d19], hr, hp =>
  obtain ⟨⟨e0, l0, u0⟩, ⟨e1, l1, u1⟩, ⟨e2, l2, u2⟩, ⟨e3, l3, u3⟩, ⟨e4, l4, u4⟩, ⟨e5, l5, u5⟩, l6, ⟨e7, l7, u7⟩, ⟨e8, l8, u8⟩, ⟨e9, l9, u9⟩, ⟨e10, l10, u10⟩, ⟨e11, l11, u11⟩, ⟨e12, l12, u12⟩, l13, ⟨e14, l14, u14⟩, ⟨e15, l15, u15⟩, ⟨e16, l16, u16⟩, ⟨e17, l17, u17⟩, ⟨e18, l18, u18⟩, ⟨e19, l19, u19⟩, _⟩ := hr
  generalize d0.i = x0, d1.i = x1, d2.i = x2, d3.i = x3, d4.i = x4, d5.i = x5, d6 = x6, d7.i = x7, d8.i = x8, d9.i = x9, d10.i = x10, d11.i = x11, d12.i = x12, d13 = x13, d14.i = x14, d15.i = x15, d16.i = x16, d17.i = x17, d18.i = x18, d19.i = x19 at *
  subst e0 e1 e2 e3 e4 e5 e7 e8 e9 e10 e11 e12 e14 e15 e16 e17 e18 e19
  exact Eq.mpr (RepL x0 x1 x2 x3 x4 x5 x6 x7 x8 x9 x10 x11 x12 x13 x14 x15 x16 x17 x18 x19) (RepO x0 x1 x2 x3 x4 x5 x6 x7 x8 x9 x10 x11 x12 x13 x14 x15 x16 x17 x18 x19 ⟨l0, u0⟩ ⟨l1, u1⟩ ⟨l2, u2⟩ ⟨l3, u3⟩ ⟨l4, u4⟩ ⟨l5, u5⟩ l6 ⟨l7, u7⟩ ⟨l8, u8⟩ ⟨l9, u9⟩ ⟨l10, u10⟩ ⟨l11, u11⟩ ⟨l12, u12⟩ l13 ⟨l14, u14⟩ ⟨l15, u15⟩ ⟨l16, u16⟩ ⟨l17, u17⟩ ⟨l18, u18⟩ ⟨l19, u19⟩ hp)
theorem nRep : Hs cRep.f := ⟨_, Tryz.func14, by kernel_rfl, by kernel_rfl⟩
def CpyP (x0 x1 x2 x3 x4 x5 : Int) (x6 : X) (x7 x8 x9 x10 x11 x12 x13 x14 x15 x16 : Int) : Prop :=
 let A := [xI x0, xI x1, xI x2, xI x3, xI x4, xI x5, x6, xI x7, xI x8, xI x9, xI x10, xI x11, xI x12, xI x13, xI x14, xI x15, xI x16]; (((¬ ((0 ≤ x13) ∧ (x13 < 48))) →
(((Ff 1030 A).i = 0 ∧ 0 ≤ (2097152 : Int)) ∧ ((rI 1 (Ff 1031 A).i 0 2) ∧ True))) ∧
(((0 ≤ x13) ∧ (x13 < 48)) →
(let v3 := Ff 210 [xI x7, xI x8, xI x9, xI x10, xI x11, xI x12]; (((2097152 < v3.i) →
(((Ff 1030 A).i = 0 ∧ 0 ≤ (2097152 : Int)) ∧ ((rI 2 (Ff 1031 A).i 0 2) ∧ True))) ∧
((¬ (2097152 < v3.i)) →
(Px 1071 (A ++ [xI 0, (mkX (rwTab 1 []) 0)]) ∧
(∀ x30 : X, (∀ x31 : X, (((0 ≤ x30.i) ∧ (x30.i ≤ 2097152)) →
((0 ≤ x31.i ∧ x31.i ≤ 2097152 ∧ RowOk SCc x31.r (x31.i).toNat) →
(Px 1071 (A ++ [x30, x31]) →
(((x30.i < x6.i) →
((x30.i < x6.i) ∧
(let v14 := Ff 270 [xI x0, xI x1, xI x2, xI x3, xI x4, xI x5, xI x30.i]; let v15 := Ff 271 [xI x0, xI x1, xI x2, xI x3, xI x4, xI x5, xI x30.i]; let v16 := Ff 272 [xI x0, xI x1, xI x2, xI x3, xI x4, xI x5, xI x30.i]; (Px 1082 [xI x7, xI x8, xI x9, xI x10, xI x11, xI x12, xI x13, xI x14, xI x15, xI x16, xI v14.i, xI v15.i, xI v16.i] ∧
(let v18 := Ff 1020 [xI x7, xI x8, xI x9, xI x10, xI x11, xI x12, xI x13, xI x14, xI x15, xI x16, xI v14.i, xI v15.i, xI v16.i]; let v19 := Ff 1021 [xI x7, xI x8, xI x9, xI x10, xI x11, xI x12, xI x13, xI x14, xI x15, xI x16, xI v14.i, xI v15.i, xI v16.i]; let v20 := Ff 1022 [xI x7, xI x8, xI x9, xI x10, xI x11, xI x12, xI x13, xI x14, xI x15, xI x16, xI v14.i, xI v15.i, xI v16.i]; (Px 710 [xI x0, xI x1, xI x2, xI x3, xI x4, xI x5, x6, xI v18.i, xI v19.i, xI v20.i] ∧
(let v22 := Ff 1023 [xI x7, xI x8, xI x9, xI x10, xI x11, xI x12, xI x13, xI x14, xI x15, xI x16, xI v14.i, xI v15.i, xI v16.i]; let v23 := Ff 908 [xI x0, xI x1, xI x2, xI x3, xI x4, xI x5, x6, xI v18.i, xI v19.i, xI v20.i]; ((((v22.b = true) ∧ (¬ (v23.i = (x6.r x30.i 0).i))) →
(((x31.i + 1) ≤ 2097152) ∧
(Px 1071 (A ++ [(xI (x30.i + 1)), (mkX (rwCat x31.r x31.i (rwTab 5 [v14, v15, v16, (selX x6.r x30.i 0), v23])) (x31.i + 1))]) ∧
(((Ff 1071 (A ++ [(xI (x30.i + 1)), (mkX (rwCat x31.r x31.i (rwTab 5 [v14, v15, v16, (selX x6.r x30.i 0), v23])) (x31.i + 1))])).i < (Ff 1071 (A ++ [x30, x31])).i) ∧
(0 < (Ff 1071 (A ++ [x30, x31])).i))))) ∧
((¬ ((v22.b = true) ∧ (¬ (v23.i = (x6.r x30.i 0).i)))) →
(Px 1071 (A ++ [(xI (x30.i + 1)), x31]) ∧
(((Ff 1071 (A ++ [(xI (x30.i + 1)), x31])).i < (Ff 1071 (A ++ [x30, x31])).i) ∧
(0 < (Ff 1071 (A ++ [x30, x31])).i)))))))))))) ∧
((¬ (x30.i < x6.i)) →
((rowEq SCc (Ff 1030 A) x31.r x31.i 2097152) ∧ ((rI 0 (Ff 1031 A).i 0 2) ∧ True)))))))))))))))
theorem CpyL (x0 x1 x2 x3 x4 x5 : Int) (x6 : X) (x7 x8 x9 x10 x11 x12 x13 x14 x15 x16 : Int) : (ctrR (fun j => Ff j [xI x0, xI x1, xI x2, xI x3, xI x4, xI x5, x6, xI x7, xI x8, xI x9, xI x10, xI x11, xI x12, xI x13, xI x14, xI x15, xI x16]) cCpy.fs cCpy.res { ρ0 with x := fun j => [xI x0, xI x1, xI x2, xI x3, xI x4, xI x5, x6, xI x7, xI x8, xI x9, xI x10, xI x11, xI x12, xI x13, xI x14, xI x15, xI x16].getD j (xI 0) } (walkR Tryz.prog (cfG none [cVol, cAt] [cSrc, cGet] lpCpy sumC) Tryz.f10 600 shCpy)) = CpyP x0 x1 x2 x3 x4 x5 x6 x7 x8 x9 x10 x11 x12 x13 x14 x15 x16 := by kernel_rfl
set_option maxHeartbeats 4000000 in
theorem CpyO (x0 x1 x2 x3 x4 x5 : Int) (x6 : X) (x7 x8 x9 x10 x11 x12 x13 x14 x15 x16 : Int) (g0 : -1048575 ≤ x0 ∧ x0 ≤ 1048575) (g1 : -1048575 ≤ x1 ∧ x1 ≤ 1048575) (g2 : -1048575 ≤ x2 ∧ x2 ≤ 1048575) (g3 : -1048575 ≤ x3 ∧ x3 ≤ 1048575) (g4 : -1048575 ≤ x4 ∧ x4 ≤ 1048575) (g5 : -1048575 ≤ x5 ∧ x5 ≤ 1048575) (g6 : 0 ≤ x6.i ∧ x6.i ≤ 2097152 ∧ RowOk SMat x6.r x6.i.toNat) (g7 : -10000 ≤ x7 ∧ x7 ≤ 10000) (g8 : -10000 ≤ x8 ∧ x8 ≤ 10000) (g9 : -10000 ≤ x9 ∧ x9 ≤ 10000) (g10 : -10000 ≤ x10 ∧ x10 ≤ 10000) (g11 : -10000 ≤ x11 ∧ x11 ≤ 10000) (g12 : -10000 ≤ x12 ∧ x12 ≤ 10000) (g13 : -9223372036854775808 ≤ x13 ∧ x13 ≤ 9223372036854775807) (g14 : -10000 ≤ x14 ∧ x14 ≤ 10000) (g15 : -10000 ≤ x15 ∧ x15 ≤ 10000) (g16 : -10000 ≤ x16 ∧ x16 ≤ 10000) (gp : Px cCpy.pre.get! [xI x0, xI x1, xI x2, xI x3, xI x4, xI x5, x6, xI x7, xI x8, xI x9, xI x10, xI x11, xI x12, xI x13, xI x14, xI x15, xI x16]) : CpyP x0 x1 x2 x3 x4 x5 x6 x7 x8 x9 x10 x11 x12 x13 x14 x15 x16 := by
 unfold CpyP
 intro A
 have gv : validG ⟨(bxI x0 x1 x2 x3 x4 x5), lstX deI x6⟩ = true := gp.1
 have gp4 := gp.2
 have gp5 := gv
 have hv := val_len gv
 rw [lstX_len] at hv
 have gN := in20_nB (val_in gv)
 refine And.intro ?_ ?_
 ·intro h1
  have e : cpE (bxI x7 x8 x9 x10 x11 x12) x13 = 1 := if_neg h1
  refine ⟨⟨?_, by decide⟩, rngI e (by decide), trivial⟩
  show ((cpL (bxI x0 x1 x2 x3 x4 x5) (lstX deI x6) (bxI x0 x1 x2 x3 x4 x5) (lstX deI x6) (bxI x7 x8 x9 x10 x11 x12) x13 (x14, x15, x16)).length : Int) = 0
  unfold cpL
  rw [e]
  rfl
 intro h2 v3
 refine And.intro ?_ ?_
 ·intro h5
  have e : cpE (bxI x7 x8 x9 x10 x11 x12) x13 = 2 := (if_pos h2).trans (if_pos h5)
  refine ⟨⟨?_, by decide⟩, rngI e (by decide), trivial⟩
  show ((cpL (bxI x0 x1 x2 x3 x4 x5) (lstX deI x6) (bxI x0 x1 x2 x3 x4 x5) (lstX deI x6) (bxI x7 x8 x9 x10 x11 x12) x13 (x14, x15, x16)).length : Int) = 0
  unfold cpL
  rw [e]
  rfl
 intro h6
 refine andI ?_ fun o7 => ?_
 ·exact ⟨Int.le_refl _, g6.1, rfl⟩
 intro x30 x31 h8 r9 p10
 obtain ⟨i0, i1, i2⟩ := p10
 have i1 : x30.i ≤ x6.i := i1
 have i2 : lstX deC x31 = (List.range x30.i.toNat).filterMap (chC (bxI x0 x1 x2 x3 x4 x5) (lstX deI x6) (cpF (bxI x0 x1 x2 x3 x4 x5) (lstX deI x6) (bxI x7 x8 x9 x10 x11 x12) x13 (x14, x15, x16))) := i2
 refine And.intro ?_ ?_
 ·intro h12
  have hs := chN_step (l := x6) h8.1 h12 (cpF_eq (sb := (bxI x0 x1 x2 x3 x4 x5)) (scs := lstX deI x6) (b' := (bxI x7 x8 x9 x10 x11 x12)) (k := x13) (a := (x14, x15, x16)) (q := (bxI x0 x1 x2 x3 x4 x5).at x30.i))
  rw [← i2] at hs
  refine andI ?_ fun o13 => ?_
  ·exact h12
  intro v14 v15 v16
  refine andI ?_ fun o17 => ?_
  ·exact gp4
  intro v18 v19 v20
  refine andI ?_ fun o21 => ?_
  ·exact gp5
  intro v22 v23
  refine And.intro ?_ ?_
  ·intro h25
   have hs := hs.trans (congrArg (fun t => _ ++ t) (if_pos h25))
   have hle := fmN_len (f := chC (bxI x0 x1 x2 x3 x4 x5) (lstX deI x6) (cpF (bxI x0 x1 x2 x3 x4 x5) (lstX deI x6) (bxI x7 x8 x9 x10 x11 x12) x13 (x14, x15, x16))) (k := x30.i + 1) (by omega)
   rw [hs, List.length_append, lstX_len, List.length_singleton] at hle
   refine andI ?_ fun o26 => ?_
   ·omega
   refine andI ?_ fun o27 => ?_
   ·exact ⟨show 0 ≤ x30.i + 1 by omega, show x30.i + 1 ≤ x6.i by omega, (lstX_push r9.1 5 _).trans hs.symm⟩
   refine andI ?_ fun o28 => ?_
   ·show x6.i + 1 - (x30.i + 1) < x6.i + 1 - x30.i
    omega
   show 0 < x6.i + 1 - x30.i
   omega
  intro h29
  have hs := hs.trans (congrArg (fun t => _ ++ t) (if_neg h29))
  refine andI ?_ fun o30 => ?_
  ·exact ⟨show 0 ≤ x30.i + 1 by omega, show x30.i + 1 ≤ x6.i by omega, (hs.trans (List.append_nil _)).symm⟩
  refine andI ?_ fun o31 => ?_
  ·show x6.i + 1 - (x30.i + 1) < x6.i + 1 - x30.i
   omega
  show 0 < x6.i + 1 - x30.i
  omega
 intro h32
 have e : cpE (bxI x7 x8 x9 x10 x11 x12) x13 = 0 := (if_pos h2).trans (if_neg h6)
 refine ⟨rowEq_of eqEl_C r9.1 r9.2.1 ?_, rngI e (by decide), trivial⟩
 have en : x30.i.toNat = (lstX deI x6).length := by
  rw [lstX_len]
  omega
 rw [en] at i2
 exact i2.trans (if_pos e).symm
theorem kCpy : RCtrOk Tryz.prog ρ0 cCpy := by
 refine rctr_ofN (cf := cfG none [cVol, cAt] [cSrc, cGet] lpCpy sumC) (cfG_ok ((keep0.cons kAt nAt).cons kVol nVol) ((keepR0.cons kGet nGet).cons kSrc nSrc) noF) Tryz.func10 rfl 600 rfl (sh := shCpy) (by kernel_rfl) cpy_rsh fun ds hr hp => ?_
 have hr := rshX_flat hr
 match ds, hr, hp with
 | [d0, d1, d2, d3, d4, d5, d6, d7, d8, d9, d10, d11, d12, d13, d14, d15, d16], hr, hp =>
  obtain ⟨⟨e0, l0, u0⟩, ⟨e1, l1, u1⟩, ⟨e2, l2, u2⟩, ⟨e3, l3, u3⟩, ⟨e4, l4, u4⟩, ⟨e5, l5, u5⟩, l6, ⟨e7, l7, u7⟩, ⟨e8, l8, u8⟩, ⟨e9, l9, u9⟩, ⟨e10, l10, u10⟩, ⟨e11, l11, u11⟩, ⟨e12, l12, u12⟩, ⟨e13, l13, u13⟩, ⟨e14, l14, u14⟩, ⟨e15, l15, u15⟩, ⟨e16, l16, u16⟩, _⟩ := hr
  generalize d0.i = x0, d1.i = x1, d2.i = x2, d3.i = x3, d4.i = x4, d5.i = x5, d6 = x6, d7.i = x7, d8.i = x8, d9.i = x9, d10.i = x10, d11.i = x11, d12.i = x12, d13.i = x13, d14.i = x14, d15.i = x15, d16.i = x16 at *
  subst e0 e1 e2 e3 e4 e5 e7 e8 e9 e10 e11 e12 e13 e14 e15 e16
  exact Eq.mpr (CpyL x0 x1 x2 x3 x4 x5 x6 x7 x8 x9 x10 x11 x12 x13 x14 x15 x16) (CpyO x0 x1 x2 x3 x4 x5 x6 x7 x8 x9 x10 x11 x12 x13 x14 x15 x16 ⟨l0, u0⟩ ⟨l1, u1⟩ ⟨l2, u2⟩ ⟨l3, u3⟩ ⟨l4, u4⟩ ⟨l5, u5⟩ l6 ⟨l7, u7⟩ ⟨l8, u8⟩ ⟨l9, u9⟩ ⟨l10, u10⟩ ⟨l11, u11⟩ ⟨l12, u12⟩ ⟨l13, u13⟩ ⟨l14, u14⟩ ⟨l15, u15⟩ ⟨l16, u16⟩ hp)
theorem nCpy : Hs cCpy.f := ⟨_, Tryz.func10, by kernel_rfl, by kernel_rfl⟩
def StmP (x0 x1 x2 x3 x4 x5 : Int) (x6 : X) (x7 x8 x9 x10 x11 x12 : Int) (x13 : X) (x14 x15 x16 x17 : Int) : Prop :=
 let A := [xI x0, xI x1, xI x2, xI x3, xI x4, xI x5, x6, xI x7, xI x8, xI x9, xI x10, xI x11, xI x12, x13, xI x14, xI x15, xI x16, xI x17]; (((¬ ((0 ≤ x14) ∧ (x14 < 48))) →
(((Ff 1032 A).i = 0 ∧ 0 ≤ (2097152 : Int)) ∧ ((rI 1 (Ff 1033 A).i 0 2) ∧ True))) ∧
(((0 ≤ x14) ∧ (x14 < 48)) →
(let v3 := Ff 210 [xI x7, xI x8, xI x9, xI x10, xI x11, xI x12]; (((2097152 < v3.i) →
(((Ff 1032 A).i = 0 ∧ 0 ≤ (2097152 : Int)) ∧ ((rI 2 (Ff 1033 A).i 0 2) ∧ True))) ∧
((¬ (2097152 < v3.i)) →
(Px 1072 (A ++ [xI 0, (mkX (rwTab 1 []) 0)]) ∧
(∀ x30 : X, (∀ x31 : X, (((0 ≤ x30.i) ∧ (x30.i ≤ 2097152)) →
((0 ≤ x31.i ∧ x31.i ≤ 2097152 ∧ RowOk SCc x31.r (x31.i).toNat) →
(Px 1072 (A ++ [x30, x31]) →
(((x30.i < x6.i) →
((x30.i < x6.i) ∧
(let v14 := Ff 270 [xI x0, xI x1, xI x2, xI x3, xI x4, xI x5, xI x30.i]; let v15 := Ff 271 [xI x0, xI x1, xI x2, xI x3, xI x4, xI x5, xI x30.i]; let v16 := Ff 272 [xI x0, xI x1, xI x2, xI x3, xI x4, xI x5, xI x30.i]; (Px 1082 [xI x7, xI x8, xI x9, xI x10, xI x11, xI x12, xI x14, xI x15, xI x16, xI x17, xI v14.i, xI v15.i, xI v16.i] ∧
(let v18 := Ff 1020 [xI x7, xI x8, xI x9, xI x10, xI x11, xI x12, xI x14, xI x15, xI x16, xI x17, xI v14.i, xI v15.i, xI v16.i]; let v19 := Ff 1021 [xI x7, xI x8, xI x9, xI x10, xI x11, xI x12, xI x14, xI x15, xI x16, xI x17, xI v14.i, xI v15.i, xI v16.i]; let v20 := Ff 1022 [xI x7, xI x8, xI x9, xI x10, xI x11, xI x12, xI x14, xI x15, xI x16, xI x17, xI v14.i, xI v15.i, xI v16.i]; (Px 710 [xI x7, xI x8, xI x9, xI x10, xI x11, xI x12, x13, xI v18.i, xI v19.i, xI v20.i] ∧
(let v22 := Ff 1023 [xI x7, xI x8, xI x9, xI x10, xI x11, xI x12, xI x14, xI x15, xI x16, xI x17, xI v14.i, xI v15.i, xI v16.i]; let v23 := Ff 908 [xI x7, xI x8, xI x9, xI x10, xI x11, xI x12, x13, xI v18.i, xI v19.i, xI v20.i]; ((((v22.b = true) ∧ (¬ (v23.i = (x6.r x30.i 0).i))) →
(((x31.i + 1) ≤ 2097152) ∧
(Px 1072 (A ++ [(xI (x30.i + 1)), (mkX (rwCat x31.r x31.i (rwTab 5 [v14, v15, v16, (selX x6.r x30.i 0), v23])) (x31.i + 1))]) ∧
(((Ff 1072 (A ++ [(xI (x30.i + 1)), (mkX (rwCat x31.r x31.i (rwTab 5 [v14, v15, v16, (selX x6.r x30.i 0), v23])) (x31.i + 1))])).i < (Ff 1072 (A ++ [x30, x31])).i) ∧
(0 < (Ff 1072 (A ++ [x30, x31])).i))))) ∧
((¬ ((v22.b = true) ∧ (¬ (v23.i = (x6.r x30.i 0).i)))) →
(Px 1072 (A ++ [(xI (x30.i + 1)), x31]) ∧
(((Ff 1072 (A ++ [(xI (x30.i + 1)), x31])).i < (Ff 1072 (A ++ [x30, x31])).i) ∧
(0 < (Ff 1072 (A ++ [x30, x31])).i)))))))))))) ∧
((¬ (x30.i < x6.i)) →
((rowEq SCc (Ff 1032 A) x31.r x31.i 2097152) ∧ ((rI 0 (Ff 1033 A).i 0 2) ∧ True)))))))))))))))
theorem StmL (x0 x1 x2 x3 x4 x5 : Int) (x6 : X) (x7 x8 x9 x10 x11 x12 : Int) (x13 : X) (x14 x15 x16 x17 : Int) : (ctrR (fun j => Ff j [xI x0, xI x1, xI x2, xI x3, xI x4, xI x5, x6, xI x7, xI x8, xI x9, xI x10, xI x11, xI x12, x13, xI x14, xI x15, xI x16, xI x17]) cStm.fs cStm.res { ρ0 with x := fun j => [xI x0, xI x1, xI x2, xI x3, xI x4, xI x5, x6, xI x7, xI x8, xI x9, xI x10, xI x11, xI x12, x13, xI x14, xI x15, xI x16, xI x17].getD j (xI 0) } (walkR Tryz.prog (cfG none [cVol, cAt] [cSrc, cGet] lpStm sumC) Tryz.f12 600 shStm2)) = StmP x0 x1 x2 x3 x4 x5 x6 x7 x8 x9 x10 x11 x12 x13 x14 x15 x16 x17 := by kernel_rfl
set_option maxHeartbeats 4000000 in
theorem StmO (x0 x1 x2 x3 x4 x5 : Int) (x6 : X) (x7 x8 x9 x10 x11 x12 : Int) (x13 : X) (x14 x15 x16 x17 : Int) (g0 : -1048575 ≤ x0 ∧ x0 ≤ 1048575) (g1 : -1048575 ≤ x1 ∧ x1 ≤ 1048575) (g2 : -1048575 ≤ x2 ∧ x2 ≤ 1048575) (g3 : -1048575 ≤ x3 ∧ x3 ≤ 1048575) (g4 : -1048575 ≤ x4 ∧ x4 ≤ 1048575) (g5 : -1048575 ≤ x5 ∧ x5 ≤ 1048575) (g6 : 0 ≤ x6.i ∧ x6.i ≤ 2097152 ∧ RowOk SMat x6.r x6.i.toNat) (g7 : -10000 ≤ x7 ∧ x7 ≤ 10000) (g8 : -10000 ≤ x8 ∧ x8 ≤ 10000) (g9 : -10000 ≤ x9 ∧ x9 ≤ 10000) (g10 : -10000 ≤ x10 ∧ x10 ≤ 10000) (g11 : -10000 ≤ x11 ∧ x11 ≤ 10000) (g12 : -10000 ≤ x12 ∧ x12 ≤ 10000) (g13 : 0 ≤ x13.i ∧ x13.i ≤ 2097152 ∧ RowOk SMat x13.r x13.i.toNat) (g14 : -9223372036854775808 ≤ x14 ∧ x14 ≤ 9223372036854775807) (g15 : -10000 ≤ x15 ∧ x15 ≤ 10000) (g16 : -10000 ≤ x16 ∧ x16 ≤ 10000) (g17 : -10000 ≤ x17 ∧ x17 ≤ 10000) (gp : Px cStm.pre.get! [xI x0, xI x1, xI x2, xI x3, xI x4, xI x5, x6, xI x7, xI x8, xI x9, xI x10, xI x11, xI x12, x13, xI x14, xI x15, xI x16, xI x17]) : StmP x0 x1 x2 x3 x4 x5 x6 x7 x8 x9 x10 x11 x12 x13 x14 x15 x16 x17 := by
 unfold StmP
 intro A
 have gv : validG ⟨(bxI x0 x1 x2 x3 x4 x5), lstX deI x6⟩ = true := gp.1
 have gp4 := gp.2.2
 have gp5 := gp.2.1
 have hv := val_len gv
 rw [lstX_len] at hv
 have gN := in20_nB (val_in gv)
 refine And.intro ?_ ?_
 ·intro h1
  have e : cpE (bxI x7 x8 x9 x10 x11 x12) x14 = 1 := if_neg h1
  refine ⟨⟨?_, by decide⟩, rngI e (by decide), trivial⟩
  show ((cpL (bxI x0 x1 x2 x3 x4 x5) (lstX deI x6) (bxI x7 x8 x9 x10 x11 x12) (lstX deI x13) (bxI x7 x8 x9 x10 x11 x12) x14 (x15, x16, x17)).length : Int) = 0
  unfold cpL
  rw [e]
  rfl
 intro h2 v3
 refine And.intro ?_ ?_
 ·intro h5
  have e : cpE (bxI x7 x8 x9 x10 x11 x12) x14 = 2 := (if_pos h2).trans (if_pos h5)
  refine ⟨⟨?_, by decide⟩, rngI e (by decide), trivial⟩
  show ((cpL (bxI x0 x1 x2 x3 x4 x5) (lstX deI x6) (bxI x7 x8 x9 x10 x11 x12) (lstX deI x13) (bxI x7 x8 x9 x10 x11 x12) x14 (x15, x16, x17)).length : Int) = 0
  unfold cpL
  rw [e]
  rfl
 intro h6
 refine andI ?_ fun o7 => ?_
 ·exact ⟨Int.le_refl _, g6.1, rfl⟩
 intro x30 x31 h8 r9 p10
 obtain ⟨i0, i1, i2⟩ := p10
 have i1 : x30.i ≤ x6.i := i1
 have i2 : lstX deC x31 = (List.range x30.i.toNat).filterMap (chC (bxI x0 x1 x2 x3 x4 x5) (lstX deI x6) (cpF (bxI x7 x8 x9 x10 x11 x12) (lstX deI x13) (bxI x7 x8 x9 x10 x11 x12) x14 (x15, x16, x17))) := i2
 refine And.intro ?_ ?_
 ·intro h12
  have hs := chN_step (l := x6) h8.1 h12 (cpF_eq (sb := (bxI x7 x8 x9 x10 x11 x12)) (scs := lstX deI x13) (b' := (bxI x7 x8 x9 x10 x11 x12)) (k := x14) (a := (x15, x16, x17)) (q := (bxI x0 x1 x2 x3 x4 x5).at x30.i))
  rw [← i2] at hs
  refine andI ?_ fun o13 => ?_
  ·exact h12
  intro v14 v15 v16
  refine andI ?_ fun o17 => ?_
  ·exact gp4
  intro v18 v19 v20
  refine andI ?_ fun o21 => ?_
  ·exact gp5
  intro v22 v23
  refine And.intro ?_ ?_
  ·intro h25
   have hs := hs.trans (congrArg (fun t => _ ++ t) (if_pos h25))
   have hle := fmN_len (f := chC (bxI x0 x1 x2 x3 x4 x5) (lstX deI x6) (cpF (bxI x7 x8 x9 x10 x11 x12) (lstX deI x13) (bxI x7 x8 x9 x10 x11 x12) x14 (x15, x16, x17))) (k := x30.i + 1) (by omega)
   rw [hs, List.length_append, lstX_len, List.length_singleton] at hle
   refine andI ?_ fun o26 => ?_
   ·omega
   refine andI ?_ fun o27 => ?_
   ·exact ⟨show 0 ≤ x30.i + 1 by omega, show x30.i + 1 ≤ x6.i by omega, (lstX_push r9.1 5 _).trans hs.symm⟩
   refine andI ?_ fun o28 => ?_
   ·show x6.i + 1 - (x30.i + 1) < x6.i + 1 - x30.i
    omega
   show 0 < x6.i + 1 - x30.i
   omega
  intro h29
  have hs := hs.trans (congrArg (fun t => _ ++ t) (if_neg h29))
  refine andI ?_ fun o30 => ?_
  ·exact ⟨show 0 ≤ x30.i + 1 by omega, show x30.i + 1 ≤ x6.i by omega, (hs.trans (List.append_nil _)).symm⟩
  refine andI ?_ fun o31 => ?_
  ·show x6.i + 1 - (x30.i + 1) < x6.i + 1 - x30.i
   omega
  show 0 < x6.i + 1 - x30.i
  omega
 intro h32
 have e : cpE (bxI x7 x8 x9 x10 x11 x12) x14 = 0 := (if_pos h2).trans (if_neg h6)
 refine ⟨rowEq_of eqEl_C r9.1 r9.2.1 ?_, rngI e (by decide), trivial⟩
 have en : x30.i.toNat = (lstX deI x6).length := by
  rw [lstX_len]
  omega
 rw [en] at i2
 exact i2.trans (if_pos e).symm
theorem kStm : RCtrOk Tryz.prog ρ0 cStm := by
 refine rctr_ofN (cf := cfG none [cVol, cAt] [cSrc, cGet] lpStm sumC) (cfG_ok ((keep0.cons kAt nAt).cons kVol nVol) ((keepR0.cons kGet nGet).cons kSrc nSrc) noF) Tryz.func12 rfl 600 rfl (sh := shStm2) (by kernel_rfl) stm_rsh fun ds hr hp => ?_
 have hr := rshX_flat hr
 match ds, hr, hp with
 | [d0, d1, d2, d3, d4, d5, d6, d7, d8, d9, d10, d11, d12, d13, d14, d15, d16, d17], hr, hp =>
  obtain ⟨⟨e0, l0, u0⟩, ⟨e1, l1, u1⟩, ⟨e2, l2, u2⟩, ⟨e3, l3, u3⟩, ⟨e4, l4, u4⟩, ⟨e5, l5, u5⟩, l6, ⟨e7, l7, u7⟩, ⟨e8, l8, u8⟩, ⟨e9, l9, u9⟩, ⟨e10, l10, u10⟩, ⟨e11, l11, u11⟩, ⟨e12, l12, u12⟩, l13, ⟨e14, l14, u14⟩, ⟨e15, l15, u15⟩, ⟨e16, l16, u16⟩, ⟨e17, l17, u17⟩, _⟩ := hr
  generalize d0.i = x0, d1.i = x1, d2.i = x2, d3.i = x3, d4.i = x4, d5.i = x5, d6 = x6, d7.i = x7, d8.i = x8, d9.i = x9, d10.i = x10, d11.i = x11, d12.i = x12, d13 = x13, d14.i = x14, d15.i = x15, d16.i = x16, d17.i = x17 at *
  subst e0 e1 e2 e3 e4 e5 e7 e8 e9 e10 e11 e12 e14 e15 e16 e17
  exact Eq.mpr (StmL x0 x1 x2 x3 x4 x5 x6 x7 x8 x9 x10 x11 x12 x13 x14 x15 x16 x17) (StmO x0 x1 x2 x3 x4 x5 x6 x7 x8 x9 x10 x11 x12 x13 x14 x15 x16 x17 ⟨l0, u0⟩ ⟨l1, u1⟩ ⟨l2, u2⟩ ⟨l3, u3⟩ ⟨l4, u4⟩ ⟨l5, u5⟩ l6 ⟨l7, u7⟩ ⟨l8, u8⟩ ⟨l9, u9⟩ ⟨l10, u10⟩ ⟨l11, u11⟩ ⟨l12, u12⟩ l13 ⟨l14, u14⟩ ⟨l15, u15⟩ ⟨l16, u16⟩ ⟨l17, u17⟩ hp)
theorem nStm : Hs cStm.f := ⟨_, Tryz.func12, by kernel_rfl, by kernel_rfl⟩
def SCmP (x0 : X) (x1 : X) : Prop :=
(Px 1074 [x0, x1, xI 0] ∧
(∀ x20 : X, (((0 ≤ x20.i) ∧ (x20.i ≤ 9223372036854775807)) →
(Px 1074 [x0, x1, x20] →
(((x20.i < x0.i) →
((x20.i < x0.i) ∧
(((x1.i ≤ x20.i) →
(rI 1 (Ff 1068 [x0, x1]).i (-1) 1)) ∧
((¬ (x1.i ≤ x20.i)) →
((x20.i < x1.i) ∧
(let v10 := Ff 1069 [(xI (x0.r x20.i 0).i), (xI (x1.r x20.i 0).i)]; (((¬ (v10.i = 0)) →
(rI v10.i (Ff 1068 [x0, x1]).i (-1) 1)) ∧
((v10.i = 0) →
(Px 1074 [x0, x1, (xI (x20.i + 1))] ∧
(((Ff 1074 [x0, x1, (xI (x20.i + 1))]).i < (Ff 1074 [x0, x1, x20]).i) ∧
(0 < (Ff 1074 [x0, x1, x20]).i))))))))))) ∧
((¬ (x20.i < x0.i)) →
(((x0.i < x1.i) →
(rI (-1) (Ff 1068 [x0, x1]).i (-1) 1)) ∧
((¬ (x0.i < x1.i)) →
(rI 0 (Ff 1068 [x0, x1]).i (-1) 1)))))))))
theorem SCmL (x0 : X) (x1 : X) : (ctrR (fun j => Ff j [x0, x1]) cSCm.fs cSCm.res { ρ0 with x := fun j => [x0, x1].getD j (xI 0) } (walkR Tryz.prog (cfG none [cCmp] [] lpSCm sumC) Tryz.f92 400 cSCm.args)) = SCmP x0 x1 := by kernel_rfl
set_option maxHeartbeats 4000000 in
theorem SCmO (x0 : X) (x1 : X) (g0 : 0 ≤ x0.i ∧ x0.i ≤ 9223372036854775807 ∧ RowOk [.int .i64 (-9223372036854775808) (9223372036854775807)] x0.r x0.i.toNat) (g1 : 0 ≤ x1.i ∧ x1.i ≤ 9223372036854775807 ∧ RowOk [.int .i64 (-9223372036854775808) (9223372036854775807)] x1.r x1.i.toNat) : SCmP x0 x1 := by
 unfold SCmP
 have R := cmL_rng (l := lstX deI x0) (l' := lstX deI x1)
 have n0 := lstX_len deI x0
 have n1 := lstX_len deI x1
 refine andI ?_ fun o0 => ?_
 ·exact ⟨Int.le_refl _, g0.1, g1.1, rfl⟩
 intro x20 h1 p2
 obtain ⟨i0, i1, i2, i3⟩ := p2
 have i1 : x20.i ≤ x0.i := i1
 have i2 : x20.i ≤ x1.i := i2
 refine And.intro ?_ ?_
 ·intro h4
  refine andI ?_ fun o5 => ?_
  ·exact h4
  refine And.intro ?_ ?_
  ·intro h7
   exact ⟨(cm_gt i3 (by omega) (by omega)).symm, R⟩
  intro h8
  refine andI ?_ fun o9 => ?_
  ·omega
  intro v10
  have e10 : v10.i = cmI ((lstX deI x0).getD x20.i.toNat 0) ((lstX deI x1).getD x20.i.toNat 0) := by
   rw [lxI_at h1.1 h4, lxI_at h1.1 (by omega)]
   rfl
  refine And.intro ?_ ?_
  ·intro h12
   refine ⟨?_, R⟩
   have hn : ¬ cmI ((lstX deI x0).getD x20.i.toNat 0) ((lstX deI x1).getD x20.i.toNat 0) = 0 := fun h => h12 (e10.trans h)
   exact e10.trans (cm_next i3 (by omega) (by omega) hn).symm
  intro h13
  refine andI ?_ fun o14 => ?_
  ·refine ⟨show 0 ≤ x20.i + 1 by omega, show x20.i + 1 ≤ x0.i by omega, show x20.i + 1 ≤ x1.i by omega, ?_⟩
   show (lstX deI x0).take (x20.i + 1).toNat = (lstX deI x1).take (x20.i + 1).toNat
   rw [lx_take h1.1 h4, lx_take h1.1 (by omega)]
   have e : (x0.r x20.i 0).i = (x1.r x20.i 0).i := cmI_0.1 h13
   have i3 : (lstX deI x0).take x20.i.toNat = (lstX deI x1).take x20.i.toNat := i3
   rw [i3]
   show _ ++ [(x0.r x20.i 0).i] = _ ++ [(x1.r x20.i 0).i]
   rw [e]
  refine andI ?_ fun o15 => ?_
  ·show x0.i + 1 - (x20.i + 1) < x0.i + 1 - x20.i
   omega
  show 0 < x0.i + 1 - x20.i
  omega
 intro h16
 refine And.intro ?_ ?_
 ·intro h18
  exact ⟨(cm_lt i3 (by omega) (by omega)).symm, R⟩
 intro h19
 exact ⟨(cm_eq i3 (by omega) (by omega)).symm, R⟩
theorem kSCm : RCtrOk Tryz.prog ρ0 cSCm := by
 refine rctr_of (cf := cfG none [cCmp] [] lpSCm sumC) (cfG_ok (keep0.cons kCmp nCmp) keepR0 noF) Tryz.func92 rfl 400 rfl fun ds hr => ?_
 have hr := rshX_flat hr
 match ds, hr with
 | [d0, d1], hr =>
  obtain ⟨l0, l1, _⟩ := hr
  generalize d0 = x0, d1 = x1 at *
  exact Eq.mpr (SCmL x0 x1) (SCmO x0 x1 l0 l1)
theorem nSCm : Hs cSCm.f := ⟨_, Tryz.func92, by kernel_rfl, by kernel_rfl⟩
def OrdP (x0 x1 x2 x3 x4 x5 : Int) (x6 : X) (x7 x8 x9 x10 x11 x12 : Int) (x13 : X) : Prop :=
 let A := [xI x0, xI x1, xI x2, xI x3, xI x4, xI x5, x6, xI x7, xI x8, xI x9, xI x10, xI x11, xI x12, x13]; (let v0 := Ff 1069 [xI x3, xI x10]; (((¬ (v0.i = 0)) →
(rI v0.i (Ff 1040 A).i (-1) 1)) ∧
((v0.i = 0) →
(let v4 := Ff 1069 [xI x4, xI x11]; (((¬ (v4.i = 0)) →
(rI v4.i (Ff 1040 A).i (-1) 1)) ∧
((v4.i = 0) →
(let v8 := Ff 1069 [xI x5, xI x12]; (((¬ (v8.i = 0)) →
(rI v8.i (Ff 1040 A).i (-1) 1)) ∧
((v8.i = 0) →
(let v12 := Ff 1068 [x6, x13]; (((¬ (v12.i = 0)) →
(rI v12.i (Ff 1040 A).i (-1) 1)) ∧
((v12.i = 0) →
(rI 0 (Ff 1040 A).i (-1) 1)))))))))))))
theorem OrdL (x0 x1 x2 x3 x4 x5 : Int) (x6 : X) (x7 x8 x9 x10 x11 x12 : Int) (x13 : X) : (ctrR (fun j => Ff j [xI x0, xI x1, xI x2, xI x3, xI x4, xI x5, x6, xI x7, xI x8, xI x9, xI x10, xI x11, xI x12, x13]) cOrd.fs cOrd.res { ρ0 with x := fun j => [xI x0, xI x1, xI x2, xI x3, xI x4, xI x5, x6, xI x7, xI x8, xI x9, xI x10, xI x11, xI x12, x13].getD j (xI 0) } (walkR Tryz.prog (cfG none [cCmp] [cSCm] [] sumC) Tryz.f61 600 cOrd.args)) = OrdP x0 x1 x2 x3 x4 x5 x6 x7 x8 x9 x10 x11 x12 x13 := by kernel_rfl
set_option maxHeartbeats 4000000 in
theorem OrdO (x0 x1 x2 x3 x4 x5 : Int) (x6 : X) (x7 x8 x9 x10 x11 x12 : Int) (x13 : X) (g0 : -9223372036854775808 ≤ x0 ∧ x0 ≤ 9223372036854775807) (g1 : -9223372036854775808 ≤ x1 ∧ x1 ≤ 9223372036854775807) (g2 : -9223372036854775808 ≤ x2 ∧ x2 ≤ 9223372036854775807) (g3 : -9223372036854775808 ≤ x3 ∧ x3 ≤ 9223372036854775807) (g4 : -9223372036854775808 ≤ x4 ∧ x4 ≤ 9223372036854775807) (g5 : -9223372036854775808 ≤ x5 ∧ x5 ≤ 9223372036854775807) (g6 : 0 ≤ x6.i ∧ x6.i ≤ 9223372036854775807 ∧ RowOk [.int .i64 (-9223372036854775808) (9223372036854775807)] x6.r x6.i.toNat) (g7 : -9223372036854775808 ≤ x7 ∧ x7 ≤ 9223372036854775807) (g8 : -9223372036854775808 ≤ x8 ∧ x8 ≤ 9223372036854775807) (g9 : -9223372036854775808 ≤ x9 ∧ x9 ≤ 9223372036854775807) (g10 : -9223372036854775808 ≤ x10 ∧ x10 ≤ 9223372036854775807) (g11 : -9223372036854775808 ≤ x11 ∧ x11 ≤ 9223372036854775807) (g12 : -9223372036854775808 ≤ x12 ∧ x12 ≤ 9223372036854775807) (g13 : 0 ≤ x13.i ∧ x13.i ≤ 9223372036854775807 ∧ RowOk [.int .i64 (-9223372036854775808) (9223372036854775807)] x13.r x13.i.toNat) : OrdP x0 x1 x2 x3 x4 x5 x6 x7 x8 x9 x10 x11 x12 x13 := by
 unfold OrdP
 intro A
 have R := odB_rng (b := (bxI x0 x1 x2 x3 x4 x5)) (cs := lstX deI x6) (b' := (bxI x7 x8 x9 x10 x11 x12)) (scs := lstX deI x13)
 intro v0
 refine And.intro ?_ ?_
 ·intro h2
  exact ⟨(orI_l h2).symm, R⟩
 intro h3 v4
 refine And.intro ?_ ?_
 ·intro h6
  exact ⟨((orI_r h3).trans (orI_l h6)).symm, R⟩
 intro h7 v8
 refine And.intro ?_ ?_
 ·intro h10
  exact ⟨((orI_r h3).trans ((orI_r h7).trans (orI_l h10))).symm, R⟩
 intro h11 v12
 refine And.intro ?_ ?_
 ·intro h14
  exact ⟨((orI_r h3).trans ((orI_r h7).trans (orI_r h11))).symm, R⟩
 intro h15
 exact ⟨((orI_r h3).trans ((orI_r h7).trans ((orI_r h11).trans h15))).symm, R⟩
theorem kOrd : RCtrOk Tryz.prog ρ0 cOrd := by
 refine rctr_of (cf := cfG none [cCmp] [cSCm] [] sumC) (cfG_ok (keep0.cons kCmp nCmp) (keepR0.cons kSCm nSCm) noF) Tryz.func61 rfl 600 rfl fun ds hr => ?_
 have hr := rshX_flat hr
 match ds, hr with
 | [d0, d1, d2, d3, d4, d5, d6, d7, d8, d9, d10, d11, d12, d13], hr =>
  obtain ⟨⟨e0, l0, u0⟩, ⟨e1, l1, u1⟩, ⟨e2, l2, u2⟩, ⟨e3, l3, u3⟩, ⟨e4, l4, u4⟩, ⟨e5, l5, u5⟩, l6, ⟨e7, l7, u7⟩, ⟨e8, l8, u8⟩, ⟨e9, l9, u9⟩, ⟨e10, l10, u10⟩, ⟨e11, l11, u11⟩, ⟨e12, l12, u12⟩, l13, _⟩ := hr
  generalize d0.i = x0, d1.i = x1, d2.i = x2, d3.i = x3, d4.i = x4, d5.i = x5, d6 = x6, d7.i = x7, d8.i = x8, d9.i = x9, d10.i = x10, d11.i = x11, d12.i = x12, d13 = x13 at *
  subst e0 e1 e2 e3 e4 e5 e7 e8 e9 e10 e11 e12
  exact Eq.mpr (OrdL x0 x1 x2 x3 x4 x5 x6 x7 x8 x9 x10 x11 x12 x13) (OrdO x0 x1 x2 x3 x4 x5 x6 x7 x8 x9 x10 x11 x12 x13 ⟨l0, u0⟩ ⟨l1, u1⟩ ⟨l2, u2⟩ ⟨l3, u3⟩ ⟨l4, u4⟩ ⟨l5, u5⟩ l6 ⟨l7, u7⟩ ⟨l8, u8⟩ ⟨l9, u9⟩ ⟨l10, u10⟩ ⟨l11, u11⟩ ⟨l12, u12⟩ l13)
theorem nOrd : Hs cOrd.f := ⟨_, Tryz.func61, by kernel_rfl, by kernel_rfl⟩
def PatP (x0 x1 x2 x3 x4 x5 x6 : Int) (x7 : X) : Prop :=
 let A := [xI x0, xI x1, xI x2, xI x3, xI x4, xI x5, xI x6, x7]; (Px 947 A ∧
(let v1 := Ff 940 A; let v2 := Ff 941 A; let v3 := Ff 942 A; let v4 := Ff 943 A; let v5 := Ff 944 A; let v6 := Ff 945 A; let v7 := Ff 946 A; (Px 710 [xI v1.i, xI v2.i, xI v3.i, xI v4.i, xI v5.i, xI v6.i, v7, (xI ((-1) * v1.i)), (xI ((-1) * v2.i)), (xI ((-1) * v3.i))] ∧
(let v9 := Ff 930 [xI v1.i, xI v2.i, xI v3.i, xI v4.i, xI v5.i, xI v6.i, v7, (xI ((-1) * v1.i)), (xI ((-1) * v2.i)), (xI ((-1) * v3.i))]; let v10 := Ff 931 [xI v1.i, xI v2.i, xI v3.i, xI v4.i, xI v5.i, xI v6.i, v7, (xI ((-1) * v1.i)), (xI ((-1) * v2.i)), (xI ((-1) * v3.i))]; let v11 := Ff 932 [xI v1.i, xI v2.i, xI v3.i, xI v4.i, xI v5.i, xI v6.i, v7, (xI ((-1) * v1.i)), (xI ((-1) * v2.i)), (xI ((-1) * v3.i))]; let v12 := Ff 933 [xI v1.i, xI v2.i, xI v3.i, xI v4.i, xI v5.i, xI v6.i, v7, (xI ((-1) * v1.i)), (xI ((-1) * v2.i)), (xI ((-1) * v3.i))]; let v13 := Ff 934 [xI v1.i, xI v2.i, xI v3.i, xI v4.i, xI v5.i, xI v6.i, v7, (xI ((-1) * v1.i)), (xI ((-1) * v2.i)), (xI ((-1) * v3.i))]; let v14 := Ff 935 [xI v1.i, xI v2.i, xI v3.i, xI v4.i, xI v5.i, xI v6.i, v7, (xI ((-1) * v1.i)), (xI ((-1) * v2.i)), (xI ((-1) * v3.i))]; let v15 := Ff 936 [xI v1.i, xI v2.i, xI v3.i, xI v4.i, xI v5.i, xI v6.i, v7, (xI ((-1) * v1.i)), (xI ((-1) * v2.i)), (xI ((-1) * v3.i))]; ((rI v9.i (Ff 1051 A).i (-2097151) 2097151) ∧ ((rI v10.i (Ff 1052 A).i (-2097151) 2097151) ∧ ((rI v11.i (Ff 1053 A).i (-2097151) 2097151) ∧ ((rI v12.i (Ff 1054 A).i (-2097151) 2097151) ∧ ((rI v13.i (Ff 1055 A).i (-2097151) 2097151) ∧ ((rI v14.i (Ff 1056 A).i (-2097151) 2097151) ∧ (rowEq SMat (Ff 1057 A) v15.r v15.i 2097152)))))))))))
theorem PatL (x0 x1 x2 x3 x4 x5 x6 : Int) (x7 : X) : (ctrR (fun j => Ff j [xI x0, xI x1, xI x2, xI x3, xI x4, xI x5, xI x6, x7]) cPat.fs cPat.res { ρ0 with x := fun j => [xI x0, xI x1, xI x2, xI x3, xI x4, xI x5, xI x6, x7].getD j (xI 0) } (walkR Tryz.prog (cfG none [] [cTur, cShf] [] sumC) Tryz.f60 400 shTur)) = PatP x0 x1 x2 x3 x4 x5 x6 x7 := by kernel_rfl
set_option maxHeartbeats 4000000 in
theorem PatO (x0 x1 x2 x3 x4 x5 x6 : Int) (x7 : X) (g0 : -9223372036854775808 ≤ x0 ∧ x0 ≤ 9223372036854775807) (g1 : -1048575 ≤ x1 ∧ x1 ≤ 1048575) (g2 : -1048575 ≤ x2 ∧ x2 ≤ 1048575) (g3 : -1048575 ≤ x3 ∧ x3 ≤ 1048575) (g4 : -1048575 ≤ x4 ∧ x4 ≤ 1048575) (g5 : -1048575 ≤ x5 ∧ x5 ≤ 1048575) (g6 : -1048575 ≤ x6 ∧ x6 ≤ 1048575) (g7 : 0 ≤ x7.i ∧ x7.i ≤ 2097152 ∧ RowOk SMat x7.r x7.i.toNat) (gp : Px cPat.pre.get! [xI x0, xI x1, xI x2, xI x3, xI x4, xI x5, xI x6, x7]) : PatP x0 x1 x2 x3 x4 x5 x6 x7 := by
 unfold PatP
 intro A
 have gv : validG ⟨(bxI x1 x2 x3 x4 x5 x6), lstX deI x7⟩ = true := gp
 have R := pt_rng (k := x0) (cs := lstX deI x7) (in20_nB (val_in gv))
 refine andI ?_ fun o0 => ?_
 ·exact gp
 intro v1 v2 v3 v4 v5 v6 v7
 have e7 : lstX deI v7 = turL x0 (bxI x1 x2 x3 x4 x5 x6) (lstX deI x7) := lst_rowI
 refine andI ?_ fun o8 => ?_
 ·show validG ⟨turB x0 (bxI x1 x2 x3 x4 x5 x6), lstX deI v7⟩ = true
  rw [e7]
  exact tur_val gv
 intro v9 v10 v11 v12 v13 v14 v15
 have e : shfB (turB x0 (bxI x1 x2 x3 x4 x5 x6)) (lstX deI v7) ((-1) * (turB x0 (bxI x1 x2 x3 x4 x5 x6)).a, (-1) * (turB x0 (bxI x1 x2 x3 x4 x5 x6)).b, (-1) * (turB x0 (bxI x1 x2 x3 x4 x5 x6)).c) = ptB x0 (bxI x1 x2 x3 x4 x5 x6) (lstX deI x7) := by
  rw [e7, pt_eq]
 have hn : ((turL x0 (bxI x1 x2 x3 x4 x5 x6) (lstX deI x7)).length : Int) ≤ 2097152 := by
  rw [turL_len, lstX_len]
  omega
 refine ⟨⟨congrArg Bx.a e, R.1.1⟩, ⟨congrArg Bx.b e, R.1.2.1⟩, ⟨congrArg Bx.c e, R.1.2.2⟩, ⟨congrArg Bx.d e, R.2.1⟩, ⟨congrArg Bx.e e, R.2.2.1⟩, ⟨congrArg Bx.f e, R.2.2.2⟩, ?_⟩
 have h15 : lstX deI v15 = turL x0 (bxI x1 x2 x3 x4 x5 x6) (lstX deI x7) := lst_rowI.trans e7
 have i15 : v15.i = ((turL x0 (bxI x1 x2 x3 x4 x5 x6) (lstX deI x7)).length : Int) := by
  show ((lstX deI v7).length : Int) = _
  rw [e7]
 exact rowEq_of eqEl_int (by omega) (by omega) h15
theorem kPat : RCtrOk Tryz.prog ρ0 cPat := by
 refine rctr_ofN (cf := cfG none [] [cTur, cShf] [] sumC) (cfG_ok keep0 ((keepR0.cons kShf nShf).cons kTur nTur) noF) Tryz.func60 rfl 400 rfl (sh := shTur) (by kernel_rfl) tur_rsh fun ds hr hp => ?_
 have hr := rshX_flat hr
 match ds, hr, hp with
 | [d0, d1, d2, d3, d4, d5, d6, d7], hr, hp =>
  obtain ⟨⟨e0, l0, u0⟩, ⟨e1, l1, u1⟩, ⟨e2, l2, u2⟩, ⟨e3, l3, u3⟩, ⟨e4, l4, u4⟩, ⟨e5, l5, u5⟩, ⟨e6, l6, u6⟩, l7, _⟩ := hr
  generalize d0.i = x0, d1.i = x1, d2.i = x2, d3.i = x3, d4.i = x4, d5.i = x5, d6.i = x6, d7 = x7 at *
  subst e0 e1 e2 e3 e4 e5 e6
  exact Eq.mpr (PatL x0 x1 x2 x3 x4 x5 x6 x7) (PatO x0 x1 x2 x3 x4 x5 x6 x7 ⟨l0, u0⟩ ⟨l1, u1⟩ ⟨l2, u2⟩ ⟨l3, u3⟩ ⟨l4, u4⟩ ⟨l5, u5⟩ ⟨l6, u6⟩ l7 hp)
theorem nPat : Hs cPat.f := ⟨_, Tryz.func60, by kernel_rfl, by kernel_rfl⟩
def TnsP (x0 x1 x2 x3 x4 x5 : Int) (x6 : X) : Prop :=
 let A := [xI x0, xI x1, xI x2, xI x3, xI x4, xI x5, x6]; (Px 947 [xI 0, xI x0, xI x1, xI x2, xI x3, xI x4, xI x5, x6] ∧
(Px 1075 (A ++ [xI 0, (mkX (rwTab 1 []) 0)]) ∧
(∀ x20 : X, (∀ x21 : X, (((0 ≤ x20.i) ∧ (x20.i ≤ 48)) →
((0 ≤ x21.i ∧ x21.i ≤ 48 ∧ RowOk S48 x21.r (x21.i).toNat) →
(Px 1075 (A ++ [x20, x21]) →
(((x20.i < 48) →
(Px 947 [xI x20.i, xI x0, xI x1, xI x2, xI x3, xI x4, xI x5, x6] ∧
(let v8 := Ff 1051 [xI x20.i, xI x0, xI x1, xI x2, xI x3, xI x4, xI x5, x6]; let v9 := Ff 1052 [xI x20.i, xI x0, xI x1, xI x2, xI x3, xI x4, xI x5, x6]; let v10 := Ff 1053 [xI x20.i, xI x0, xI x1, xI x2, xI x3, xI x4, xI x5, x6]; let v11 := Ff 1054 [xI x20.i, xI x0, xI x1, xI x2, xI x3, xI x4, xI x5, x6]; let v12 := Ff 1055 [xI x20.i, xI x0, xI x1, xI x2, xI x3, xI x4, xI x5, x6]; let v13 := Ff 1056 [xI x20.i, xI x0, xI x1, xI x2, xI x3, xI x4, xI x5, x6]; let v14 := Ff 1057 [xI x20.i, xI x0, xI x1, xI x2, xI x3, xI x4, xI x5, x6]; let v15 := Ff 1051 [xI 0, xI x0, xI x1, xI x2, xI x3, xI x4, xI x5, x6]; let v16 := Ff 1052 [xI 0, xI x0, xI x1, xI x2, xI x3, xI x4, xI x5, x6]; let v17 := Ff 1053 [xI 0, xI x0, xI x1, xI x2, xI x3, xI x4, xI x5, x6]; let v18 := Ff 1054 [xI 0, xI x0, xI x1, xI x2, xI x3, xI x4, xI x5, x6]; let v19 := Ff 1055 [xI 0, xI x0, xI x1, xI x2, xI x3, xI x4, xI x5, x6]; let v20 := Ff 1056 [xI 0, xI x0, xI x1, xI x2, xI x3, xI x4, xI x5, x6]; let v21 := Ff 1057 [xI 0, xI x0, xI x1, xI x2, xI x3, xI x4, xI x5, x6]; let v22 := Ff 1040 [xI v8.i, xI v9.i, xI v10.i, xI v11.i, xI v12.i, xI v13.i, v14, xI v15.i, xI v16.i, xI v17.i, xI v18.i, xI v19.i, xI v20.i, v21]; (((v22.i = 0) →
(((x21.i + 1) ≤ 48) ∧
(Px 1075 (A ++ [(xI (x20.i + 1)), (mkX (rwCat x21.r x21.i (rwTab 1 [x20])) (x21.i + 1))]) ∧
(((Ff 1075 (A ++ [(xI (x20.i + 1)), (mkX (rwCat x21.r x21.i (rwTab 1 [x20])) (x21.i + 1))])).i < (Ff 1075 (A ++ [x20, x21])).i) ∧
(0 < (Ff 1075 (A ++ [x20, x21])).i))))) ∧
((¬ (v22.i = 0)) →
(Px 1075 (A ++ [(xI (x20.i + 1)), x21]) ∧
(((Ff 1075 (A ++ [(xI (x20.i + 1)), x21])).i < (Ff 1075 (A ++ [x20, x21])).i) ∧
(0 < (Ff 1075 (A ++ [x20, x21])).i)))))))) ∧
((¬ (x20.i < 48)) →
(rowEq S48 (Ff 1041 A) x21.r x21.i 48))))))))))
theorem TnsL (x0 x1 x2 x3 x4 x5 : Int) (x6 : X) : (ctrR (fun j => Ff j [xI x0, xI x1, xI x2, xI x3, xI x4, xI x5, x6]) cTns.fs cTns.res { ρ0 with x := fun j => [xI x0, xI x1, xI x2, xI x3, xI x4, xI x5, x6].getD j (xI 0) } (walkR Tryz.prog (cfG none [] [cPat, cOrd] lpTns sumC) Tryz.f20 400 shG)) = TnsP x0 x1 x2 x3 x4 x5 x6 := by kernel_rfl
set_option maxHeartbeats 4000000 in
theorem TnsO (x0 x1 x2 x3 x4 x5 : Int) (x6 : X) (g0 : -1048575 ≤ x0 ∧ x0 ≤ 1048575) (g1 : -1048575 ≤ x1 ∧ x1 ≤ 1048575) (g2 : -1048575 ≤ x2 ∧ x2 ≤ 1048575) (g3 : -1048575 ≤ x3 ∧ x3 ≤ 1048575) (g4 : -1048575 ≤ x4 ∧ x4 ≤ 1048575) (g5 : -1048575 ≤ x5 ∧ x5 ≤ 1048575) (g6 : 0 ≤ x6.i ∧ x6.i ≤ 2097152 ∧ RowOk SMat x6.r x6.i.toNat) (gp : Px cTns.pre.get! [xI x0, xI x1, xI x2, xI x3, xI x4, xI x5, x6]) : TnsP x0 x1 x2 x3 x4 x5 x6 := by
 unfold TnsP
 intro A
 refine andI ?_ fun o0 => ?_
 ·exact gp
 refine andI ?_ fun o1 => ?_
 ·exact ⟨Int.le_refl _, by decide, rfl⟩
 intro x20 x21 h2 r3 p4
 obtain ⟨i0, i1, i2⟩ := p4
 have i2 : lstX deI x21 = tnL (bxI x0 x1 x2 x3 x4 x5) (lstX deI x6) x20.i.toNat := i2
 refine And.intro ?_ ?_
 ·intro h6
  refine andI ?_ fun o7 => ?_
  ·exact gp
  intro v8 v9 v10 v11 v12 v13 v14 v15 v16 v17 v18 v19 v20 v21 v22
  have e14 : lstX deI v14 = turL x20.i (bxI x0 x1 x2 x3 x4 x5) (lstX deI x6) := lst_rowI
  have e21 : lstX deI v21 = turL 0 (bxI x0 x1 x2 x3 x4 x5) (lstX deI x6) := lst_rowI
  have e22 : v22.i = tnO (bxI x0 x1 x2 x3 x4 x5) (lstX deI x6) x20.i.toNat := by
   show odB (ptB x20.i (bxI x0 x1 x2 x3 x4 x5) (lstX deI x6)) (lstX deI v14) (ptB 0 (bxI x0 x1 x2 x3 x4 x5) (lstX deI x6)) (lstX deI v21) = odB (ptB (x20.i.toNat : Nat) (bxI x0 x1 x2 x3 x4 x5) (lstX deI x6)) (turL (x20.i.toNat : Nat) (bxI x0 x1 x2 x3 x4 x5) (lstX deI x6)) (ptB 0 (bxI x0 x1 x2 x3 x4 x5) (lstX deI x6)) (turL 0 (bxI x0 x1 x2 x3 x4 x5) (lstX deI x6))
   rw [e14, e21, Int.toNat_of_nonneg h2.1]
  have hs := fmN_step (f := fun k : Nat => if tnO (bxI x0 x1 x2 x3 x4 x5) (lstX deI x6) k = 0 then some (k : Int) else none) h2.1
  have hs : tnL (bxI x0 x1 x2 x3 x4 x5) (lstX deI x6) (x20.i + 1).toNat = lstX deI x21 ++ (if v22.i = 0 then some ((x20.i.toNat : Nat) : Int) else none).toList := by
   rw [e22, i2]
   exact hs
  refine And.intro ?_ ?_
  ·intro h24
   have hs := hs.trans (congrArg (fun t => _ ++ Option.toList t) (if_pos h24))
   have hle := fmN_len (f := fun k : Nat => if tnO (bxI x0 x1 x2 x3 x4 x5) (lstX deI x6) k = 0 then some (k : Int) else none) (k := x20.i + 1) (by omega)
   have hle : ((tnL (bxI x0 x1 x2 x3 x4 x5) (lstX deI x6) (x20.i + 1).toNat).length : Int) ≤ x20.i + 1 := hle
   rw [hs, List.length_append, lstX_len, Option.toList_some, List.length_singleton] at hle
   refine andI ?_ fun o25 => ?_
   ·omega
   refine andI ?_ fun o26 => ?_
   ·refine ⟨show 0 ≤ x20.i + 1 by omega, show x20.i + 1 ≤ 48 by omega, (lstX_push r3.1 1 _).trans ?_⟩
    rw [Int.toNat_of_nonneg h2.1] at hs
    exact hs.symm
   refine andI ?_ fun o27 => ?_
   ·show 49 - (x20.i + 1) < 49 - x20.i
    omega
   show 0 < 49 - x20.i
   omega
  intro h28
  have hs := hs.trans (congrArg (fun t => _ ++ Option.toList t) (if_neg h28))
  refine andI ?_ fun o29 => ?_
  ·exact ⟨show 0 ≤ x20.i + 1 by omega, show x20.i + 1 ≤ 48 by omega, (hs.trans (List.append_nil _)).symm⟩
  refine andI ?_ fun o30 => ?_
  ·show 49 - (x20.i + 1) < 49 - x20.i
   omega
  show 0 < 49 - x20.i
  omega
 intro h31
 refine rowEq_of eqEl_int r3.1 r3.2.1 ?_
 have e : x20.i.toNat = 48 := by omega
 rw [e] at i2
 exact i2
theorem kTns : RCtrOk Tryz.prog ρ0 cTns := by
 refine rctr_ofN (cf := cfG none [] [cPat, cOrd] lpTns sumC) (cfG_ok keep0 ((keepR0.cons kOrd nOrd).cons kPat nPat) noF) Tryz.func20 rfl 400 rfl (sh := shG) (by kernel_rfl) val_rsh fun ds hr hp => ?_
 have hr := rshX_flat hr
 match ds, hr, hp with
 | [d0, d1, d2, d3, d4, d5, d6], hr, hp =>
  obtain ⟨⟨e0, l0, u0⟩, ⟨e1, l1, u1⟩, ⟨e2, l2, u2⟩, ⟨e3, l3, u3⟩, ⟨e4, l4, u4⟩, ⟨e5, l5, u5⟩, l6, _⟩ := hr
  generalize d0.i = x0, d1.i = x1, d2.i = x2, d3.i = x3, d4.i = x4, d5.i = x5, d6 = x6 at *
  subst e0 e1 e2 e3 e4 e5
  exact Eq.mpr (TnsL x0 x1 x2 x3 x4 x5 x6) (TnsO x0 x1 x2 x3 x4 x5 x6 ⟨l0, u0⟩ ⟨l1, u1⟩ ⟨l2, u2⟩ ⟨l3, u3⟩ ⟨l4, u4⟩ ⟨l5, u5⟩ l6 hp)
theorem nTns : Hs cTns.f := ⟨_, Tryz.func20, by kernel_rfl, by kernel_rfl⟩
def CanP (x0 x1 x2 x3 x4 x5 : Int) (x6 : X) : Prop :=
 let A := [xI x0, xI x1, xI x2, xI x3, xI x4, xI x5, x6]; (Px 947 [xI 0, xI x0, xI x1, xI x2, xI x3, xI x4, xI x5, x6] ∧
(let v1 := Ff 1051 [xI 0, xI x0, xI x1, xI x2, xI x3, xI x4, xI x5, x6]; let v2 := Ff 1052 [xI 0, xI x0, xI x1, xI x2, xI x3, xI x4, xI x5, x6]; let v3 := Ff 1053 [xI 0, xI x0, xI x1, xI x2, xI x3, xI x4, xI x5, x6]; let v4 := Ff 1054 [xI 0, xI x0, xI x1, xI x2, xI x3, xI x4, xI x5, x6]; let v5 := Ff 1055 [xI 0, xI x0, xI x1, xI x2, xI x3, xI x4, xI x5, x6]; let v6 := Ff 1056 [xI 0, xI x0, xI x1, xI x2, xI x3, xI x4, xI x5, x6]; let v7 := Ff 1057 [xI 0, xI x0, xI x1, xI x2, xI x3, xI x4, xI x5, x6]; (Px 1076 (A ++ [xI 0, xI 0, xI v1.i, xI v2.i, xI v3.i, xI v4.i, xI v5.i, xI v6.i, v7]) ∧
(∀ x20 : X, (∀ x21 : X, (∀ x22 : X, (∀ x23 : X, (∀ x24 : X, (∀ x25 : X, (∀ x26 : X, (∀ x27 : X, (∀ x28 : X, (((0 ≤ x20.i) ∧ (x20.i ≤ 48)) →
(((0 ≤ x21.i) ∧ (x21.i ≤ 47)) →
((((-2097151) ≤ x22.i) ∧ (x22.i ≤ 2097151)) →
((((-2097151) ≤ x23.i) ∧ (x23.i ≤ 2097151)) →
((((-2097151) ≤ x24.i) ∧ (x24.i ≤ 2097151)) →
((((-2097151) ≤ x25.i) ∧ (x25.i ≤ 2097151)) →
((((-2097151) ≤ x26.i) ∧ (x26.i ≤ 2097151)) →
((((-2097151) ≤ x27.i) ∧ (x27.i ≤ 2097151)) →
((0 ≤ x28.i ∧ x28.i ≤ 2097152 ∧ RowOk SMat x28.r (x28.i).toNat) →
(Px 1076 (A ++ [x20, x21, x22, x23, x24, x25, x26, x27, x28]) →
(((x20.i < 48) →
(Px 947 [xI x20.i, xI x0, xI x1, xI x2, xI x3, xI x4, xI x5, x6] ∧
(let v22 := Ff 1051 [xI x20.i, xI x0, xI x1, xI x2, xI x3, xI x4, xI x5, x6]; let v23 := Ff 1052 [xI x20.i, xI x0, xI x1, xI x2, xI x3, xI x4, xI x5, x6]; let v24 := Ff 1053 [xI x20.i, xI x0, xI x1, xI x2, xI x3, xI x4, xI x5, x6]; let v25 := Ff 1054 [xI x20.i, xI x0, xI x1, xI x2, xI x3, xI x4, xI x5, x6]; let v26 := Ff 1055 [xI x20.i, xI x0, xI x1, xI x2, xI x3, xI x4, xI x5, x6]; let v27 := Ff 1056 [xI x20.i, xI x0, xI x1, xI x2, xI x3, xI x4, xI x5, x6]; let v28 := Ff 1057 [xI x20.i, xI x0, xI x1, xI x2, xI x3, xI x4, xI x5, x6]; let v29 := Ff 1040 [xI v22.i, xI v23.i, xI v24.i, xI v25.i, xI v26.i, xI v27.i, v28, xI x22.i, xI x23.i, xI x24.i, xI x25.i, xI x26.i, xI x27.i, x28]; (((v29.i < 0) →
(Px 1076 (A ++ [(xI (x20.i + 1)), xI x20.i, xI v22.i, xI v23.i, xI v24.i, xI v25.i, xI v26.i, xI v27.i, v28]) ∧
(((Ff 1076 (A ++ [(xI (x20.i + 1)), xI x20.i, xI v22.i, xI v23.i, xI v24.i, xI v25.i, xI v26.i, xI v27.i, v28])).i < (Ff 1076 (A ++ [x20, x21, x22, x23, x24, x25, x26, x27, x28])).i) ∧
(0 < (Ff 1076 (A ++ [x20, x21, x22, x23, x24, x25, x26, x27, x28])).i)))) ∧
((¬ (v29.i < 0)) →
(Px 1076 (A ++ [(xI (x20.i + 1)), xI x21.i, xI x22.i, xI x23.i, xI x24.i, xI x25.i, xI x26.i, xI x27.i, x28]) ∧
(((Ff 1076 (A ++ [(xI (x20.i + 1)), xI x21.i, xI x22.i, xI x23.i, xI x24.i, xI x25.i, xI x26.i, xI x27.i, x28])).i < (Ff 1076 (A ++ [x20, x21, x22, x23, x24, x25, x26, x27, x28])).i) ∧
(0 < (Ff 1076 (A ++ [x20, x21, x22, x23, x24, x25, x26, x27, x28])).i)))))))) ∧
((¬ (x20.i < 48)) →
(((rI x22.i (Ff 1042 A).i (-2097151) 2097151) ∧ ((rI x23.i (Ff 1043 A).i (-2097151) 2097151) ∧ ((rI x24.i (Ff 1044 A).i (-2097151) 2097151) ∧ ((rI x25.i (Ff 1045 A).i (-2097151) 2097151) ∧ ((rI x26.i (Ff 1046 A).i (-2097151) 2097151) ∧ ((rI x27.i (Ff 1047 A).i (-2097151) 2097151) ∧ (rowEq SMat (Ff 1048 A) x28.r x28.i 2097152))))))) ∧ ((rI x21.i (Ff 1049 A).i 0 47) ∧ True))))))))))))))))))))))))))
theorem CanL (x0 x1 x2 x3 x4 x5 : Int) (x6 : X) : (ctrR (fun j => Ff j [xI x0, xI x1, xI x2, xI x3, xI x4, xI x5, x6]) cCan.fs cCan.res { ρ0 with x := fun j => [xI x0, xI x1, xI x2, xI x3, xI x4, xI x5, x6].getD j (xI 0) } (walkR Tryz.prog (cfG none [] [cPat, cOrd] lpCan sumC) Tryz.f17 400 shG)) = CanP x0 x1 x2 x3 x4 x5 x6 := by kernel_rfl
set_option maxHeartbeats 4000000 in
theorem CanO (x0 x1 x2 x3 x4 x5 : Int) (x6 : X) (g0 : -1048575 ≤ x0 ∧ x0 ≤ 1048575) (g1 : -1048575 ≤ x1 ∧ x1 ≤ 1048575) (g2 : -1048575 ≤ x2 ∧ x2 ≤ 1048575) (g3 : -1048575 ≤ x3 ∧ x3 ≤ 1048575) (g4 : -1048575 ≤ x4 ∧ x4 ≤ 1048575) (g5 : -1048575 ≤ x5 ∧ x5 ≤ 1048575) (g6 : 0 ≤ x6.i ∧ x6.i ≤ 2097152 ∧ RowOk SMat x6.r x6.i.toNat) (gp : Px cCan.pre.get! [xI x0, xI x1, xI x2, xI x3, xI x4, xI x5, x6]) : CanP x0 x1 x2 x3 x4 x5 x6 := by
 unfold CanP
 intro A
 refine andI ?_ fun o0 => ?_
 ·exact gp
 intro v1 v2 v3 v4 v5 v6 v7
 have e7 : lstX deI v7 = turL 0 (bxI x0 x1 x2 x3 x4 x5) (lstX deI x6) := lst_rowI
 refine andI ?_ fun o8 => ?_
 ·refine ⟨Int.le_refl _, by decide, Eq.trans caN_0 ?_⟩
  show ((⟨ptB 0 (bxI x0 x1 x2 x3 x4 x5) (lstX deI x6), turL 0 (bxI x0 x1 x2 x3 x4 x5) (lstX deI x6)⟩ : Gr), (0 : Int)) = ((⟨ptB 0 (bxI x0 x1 x2 x3 x4 x5) (lstX deI x6), lstX deI v7⟩ : Gr), (0 : Int))
  rw [e7]
 intro x20 x21 x22 x23 x24 x25 x26 x27 x28 h9 h10 h11 h12 h13 h14 h15 h16 r17 p18
 obtain ⟨i0, i1, i2⟩ := p18
 have i2 : caN (bxI x0 x1 x2 x3 x4 x5) (lstX deI x6) x20.i.toNat = ((⟨⟨x22.i, x23.i, x24.i, x25.i, x26.i, x27.i⟩, lstX deI x28⟩ : Gr), x21.i) := i2
 have hs : caN (bxI x0 x1 x2 x3 x4 x5) (lstX deI x6) (x20.i + 1).toNat = if odB (ptB x20.i (bxI x0 x1 x2 x3 x4 x5) (lstX deI x6)) (turL x20.i (bxI x0 x1 x2 x3 x4 x5) (lstX deI x6)) ⟨x22.i, x23.i, x24.i, x25.i, x26.i, x27.i⟩ (lstX deI x28) < 0 then ((⟨ptB x20.i (bxI x0 x1 x2 x3 x4 x5) (lstX deI x6), turL x20.i (bxI x0 x1 x2 x3 x4 x5) (lstX deI x6)⟩ : Gr), x20.i) else ((⟨⟨x22.i, x23.i, x24.i, x25.i, x26.i, x27.i⟩, lstX deI x28⟩ : Gr), x21.i) := by
  rw [toS7 h9.1, caN_s, Int.toNat_of_nonneg h9.1, i2]
 refine And.intro ?_ ?_
 ·intro h20
  refine andI ?_ fun o21 => ?_
  ·exact gp
  intro v22 v23 v24 v25 v26 v27 v28 v29
  have e28 : lstX deI v28 = turL x20.i (bxI x0 x1 x2 x3 x4 x5) (lstX deI x6) := lst_rowI
  have e29 : v29.i = odB (ptB x20.i (bxI x0 x1 x2 x3 x4 x5) (lstX deI x6)) (turL x20.i (bxI x0 x1 x2 x3 x4 x5) (lstX deI x6)) ⟨x22.i, x23.i, x24.i, x25.i, x26.i, x27.i⟩ (lstX deI x28) := by
   show odB (ptB x20.i (bxI x0 x1 x2 x3 x4 x5) (lstX deI x6)) (lstX deI v28) ⟨x22.i, x23.i, x24.i, x25.i, x26.i, x27.i⟩ (lstX deI x28) = _
   rw [e28]
  rw [← e29] at hs
  refine And.intro ?_ ?_
  ·intro h31
   refine andI ?_ fun o32 => ?_
   ·refine ⟨show 0 ≤ x20.i + 1 by omega, show x20.i + 1 ≤ 48 by omega, (hs.trans (if_pos h31)).trans ?_⟩
    show ((⟨ptB x20.i (bxI x0 x1 x2 x3 x4 x5) (lstX deI x6), turL x20.i (bxI x0 x1 x2 x3 x4 x5) (lstX deI x6)⟩ : Gr), x20.i) = ((⟨ptB x20.i (bxI x0 x1 x2 x3 x4 x5) (lstX deI x6), lstX deI v28⟩ : Gr), x20.i)
    rw [e28]
   refine andI ?_ fun o33 => ?_
   ·show 49 - (x20.i + 1) < 49 - x20.i
    omega
   show 0 < 49 - x20.i
   omega
  intro h34
  refine andI ?_ fun o35 => ?_
  ·exact ⟨show 0 ≤ x20.i + 1 by omega, show x20.i + 1 ≤ 48 by omega, hs.trans (if_neg h34)⟩
  refine andI ?_ fun o36 => ?_
  ·show 49 - (x20.i + 1) < 49 - x20.i
   omega
  show 0 < 49 - x20.i
  omega
 intro h37
 have e : x20.i.toNat = 48 := by omega
 rw [e] at i2
 have i3 : caN (bxX (xI x0) (xI x1) (xI x2) (xI x3) (xI x4) (xI x5)) (lstX deI x6) 48 = ((⟨⟨x22.i, x23.i, x24.i, x25.i, x26.i, x27.i⟩, lstX deI x28⟩ : Gr), x21.i) := i2
 have c0 : (caN (bxX (xI x0) (xI x1) (xI x2) (xI x3) (xI x4) (xI x5)) (lstX deI x6) 48).1.bx.a = x22.i := by rw [i3]
 have c1 : (caN (bxX (xI x0) (xI x1) (xI x2) (xI x3) (xI x4) (xI x5)) (lstX deI x6) 48).1.bx.b = x23.i := by rw [i3]
 have c2 : (caN (bxX (xI x0) (xI x1) (xI x2) (xI x3) (xI x4) (xI x5)) (lstX deI x6) 48).1.bx.c = x24.i := by rw [i3]
 have c3 : (caN (bxX (xI x0) (xI x1) (xI x2) (xI x3) (xI x4) (xI x5)) (lstX deI x6) 48).1.bx.d = x25.i := by rw [i3]
 have c4 : (caN (bxX (xI x0) (xI x1) (xI x2) (xI x3) (xI x4) (xI x5)) (lstX deI x6) 48).1.bx.e = x26.i := by rw [i3]
 have c5 : (caN (bxX (xI x0) (xI x1) (xI x2) (xI x3) (xI x4) (xI x5)) (lstX deI x6) 48).1.bx.f = x27.i := by rw [i3]
 have c6 : (caN (bxX (xI x0) (xI x1) (xI x2) (xI x3) (xI x4) (xI x5)) (lstX deI x6) 48).1.cs = lstX deI x28 := by rw [i3]
 have c7 : (caN (bxX (xI x0) (xI x1) (xI x2) (xI x3) (xI x4) (xI x5)) (lstX deI x6) 48).2 = x21.i := by rw [i3]
 have c8 : rowEq [.int .i64 0 255] (rowG enI (caN (bxX (xI x0) (xI x1) (xI x2) (xI x3) (xI x4) (xI x5)) (lstX deI x6) 48).1.cs) x28.r x28.i 2097152 := by
  rw [c6]
  exact rowEq_of eqEl_int r17.1 r17.2.1 rfl
 exact ⟨⟨rngI c0 h11, rngI c1 h12, rngI c2 h13, rngI c3 h14, rngI c4 h15, rngI c5 h16, c8⟩, rngI c7 h10, trivial⟩
theorem kCan : RCtrOk Tryz.prog ρ0 cCan := by
 refine rctr_ofN (cf := cfG none [] [cPat, cOrd] lpCan sumC) (cfG_ok keep0 ((keepR0.cons kOrd nOrd).cons kPat nPat) noF) Tryz.func17 rfl 400 rfl (sh := shG) (by kernel_rfl) val_rsh fun ds hr hp => ?_
 have hr := rshX_flat hr
 match ds, hr, hp with
 | [d0, d1, d2, d3, d4, d5, d6], hr, hp =>
  obtain ⟨⟨e0, l0, u0⟩, ⟨e1, l1, u1⟩, ⟨e2, l2, u2⟩, ⟨e3, l3, u3⟩, ⟨e4, l4, u4⟩, ⟨e5, l5, u5⟩, l6, _⟩ := hr
  generalize d0.i = x0, d1.i = x1, d2.i = x2, d3.i = x3, d4.i = x4, d5.i = x5, d6 = x6 at *
  subst e0 e1 e2 e3 e4 e5
  exact Eq.mpr (CanL x0 x1 x2 x3 x4 x5 x6) (CanO x0 x1 x2 x3 x4 x5 x6 ⟨l0, u0⟩ ⟨l1, u1⟩ ⟨l2, u2⟩ ⟨l3, u3⟩ ⟨l4, u4⟩ ⟨l5, u5⟩ l6 hp)
theorem nCan : Hs cCan.f := ⟨_, Tryz.func17, by kernel_rfl, by kernel_rfl⟩
def LikP (x0 x1 x2 x3 x4 x5 : Int) (x6 : X) (x7 x8 x9 x10 x11 x12 : Int) (x13 : X) : Prop :=
 let A := [xI x0, xI x1, xI x2, xI x3, xI x4, xI x5, x6, xI x7, xI x8, xI x9, xI x10, xI x11, xI x12, x13]; (Px 710 [xI x0, xI x1, xI x2, xI x3, xI x4, xI x5, x6] ∧
(Px 710 [xI x7, xI x8, xI x9, xI x10, xI x11, xI x12, x13] ∧
(let v2 := Ff 1042 [xI x0, xI x1, xI x2, xI x3, xI x4, xI x5, x6]; let v3 := Ff 1043 [xI x0, xI x1, xI x2, xI x3, xI x4, xI x5, x6]; let v4 := Ff 1044 [xI x0, xI x1, xI x2, xI x3, xI x4, xI x5, x6]; let v5 := Ff 1045 [xI x0, xI x1, xI x2, xI x3, xI x4, xI x5, x6]; let v6 := Ff 1046 [xI x0, xI x1, xI x2, xI x3, xI x4, xI x5, x6]; let v7 := Ff 1047 [xI x0, xI x1, xI x2, xI x3, xI x4, xI x5, x6]; let v8 := Ff 1048 [xI x0, xI x1, xI x2, xI x3, xI x4, xI x5, x6]; let v9 := Ff 1042 [xI x7, xI x8, xI x9, xI x10, xI x11, xI x12, x13]; let v10 := Ff 1043 [xI x7, xI x8, xI x9, xI x10, xI x11, xI x12, x13]; let v11 := Ff 1044 [xI x7, xI x8, xI x9, xI x10, xI x11, xI x12, x13]; let v12 := Ff 1045 [xI x7, xI x8, xI x9, xI x10, xI x11, xI x12, x13]; let v13 := Ff 1046 [xI x7, xI x8, xI x9, xI x10, xI x11, xI x12, x13]; let v14 := Ff 1047 [xI x7, xI x8, xI x9, xI x10, xI x11, xI x12, x13]; let v15 := Ff 1048 [xI x7, xI x8, xI x9, xI x10, xI x11, xI x12, x13]; let v16 := Ff 1040 [xI v2.i, xI v3.i, xI v4.i, xI v5.i, xI v6.i, xI v7.i, v8, xI v9.i, xI v10.i, xI v11.i, xI v12.i, xI v13.i, xI v14.i, v15]; ((v16.i = 0) ↔ (Ff 1050 A).b = true))))
theorem LikL (x0 x1 x2 x3 x4 x5 : Int) (x6 : X) (x7 x8 x9 x10 x11 x12 : Int) (x13 : X) : (ctrR (fun j => Ff j [xI x0, xI x1, xI x2, xI x3, xI x4, xI x5, x6, xI x7, xI x8, xI x9, xI x10, xI x11, xI x12, x13]) cLik.fs cLik.res { ρ0 with x := fun j => [xI x0, xI x1, xI x2, xI x3, xI x4, xI x5, x6, xI x7, xI x8, xI x9, xI x10, xI x11, xI x12, x13].getD j (xI 0) } (walkR Tryz.prog (cfG none [] [cCan, cOrd] [] sumC) Tryz.f23 400 shPaste)) = LikP x0 x1 x2 x3 x4 x5 x6 x7 x8 x9 x10 x11 x12 x13 := by kernel_rfl
set_option maxHeartbeats 4000000 in
theorem LikO (x0 x1 x2 x3 x4 x5 : Int) (x6 : X) (x7 x8 x9 x10 x11 x12 : Int) (x13 : X) (g0 : -1048575 ≤ x0 ∧ x0 ≤ 1048575) (g1 : -1048575 ≤ x1 ∧ x1 ≤ 1048575) (g2 : -1048575 ≤ x2 ∧ x2 ≤ 1048575) (g3 : -1048575 ≤ x3 ∧ x3 ≤ 1048575) (g4 : -1048575 ≤ x4 ∧ x4 ≤ 1048575) (g5 : -1048575 ≤ x5 ∧ x5 ≤ 1048575) (g6 : 0 ≤ x6.i ∧ x6.i ≤ 2097152 ∧ RowOk SMat x6.r x6.i.toNat) (g7 : -1048575 ≤ x7 ∧ x7 ≤ 1048575) (g8 : -1048575 ≤ x8 ∧ x8 ≤ 1048575) (g9 : -1048575 ≤ x9 ∧ x9 ≤ 1048575) (g10 : -1048575 ≤ x10 ∧ x10 ≤ 1048575) (g11 : -1048575 ≤ x11 ∧ x11 ≤ 1048575) (g12 : -1048575 ≤ x12 ∧ x12 ≤ 1048575) (g13 : 0 ≤ x13.i ∧ x13.i ≤ 2097152 ∧ RowOk SMat x13.r x13.i.toNat) (gp : Px cLik.pre.get! [xI x0, xI x1, xI x2, xI x3, xI x4, xI x5, x6, xI x7, xI x8, xI x9, xI x10, xI x11, xI x12, x13]) : LikP x0 x1 x2 x3 x4 x5 x6 x7 x8 x9 x10 x11 x12 x13 := by
 unfold LikP
 intro A
 refine andI ?_ fun o0 => ?_
 ·exact gp.1
 refine andI ?_ fun o1 => ?_
 ·exact gp.2
 intro v2 v3 v4 v5 v6 v7 v8 v9 v10 v11 v12 v13 v14 v15 v16
 have e8 : lstX deI v8 = (caN (bxX (xI x0) (xI x1) (xI x2) (xI x3) (xI x4) (xI x5)) (lstX deI x6) 48).1.cs := lst_rowI (l := (caN (bxX (xI x0) (xI x1) (xI x2) (xI x3) (xI x4) (xI x5)) (lstX deI x6) 48).1.cs)
 have e15 : lstX deI v15 = (caN (bxX (xI x7) (xI x8) (xI x9) (xI x10) (xI x11) (xI x12)) (lstX deI x13) 48).1.cs := lst_rowI (l := (caN (bxX (xI x7) (xI x8) (xI x9) (xI x10) (xI x11) (xI x12)) (lstX deI x13) 48).1.cs)
 have e : v16.i = odB (caN (bxX (xI x0) (xI x1) (xI x2) (xI x3) (xI x4) (xI x5)) (lstX deI x6) 48).1.bx (caN (bxX (xI x0) (xI x1) (xI x2) (xI x3) (xI x4) (xI x5)) (lstX deI x6) 48).1.cs (caN (bxX (xI x7) (xI x8) (xI x9) (xI x10) (xI x11) (xI x12)) (lstX deI x13) 48).1.bx (caN (bxX (xI x7) (xI x8) (xI x9) (xI x10) (xI x11) (xI x12)) (lstX deI x13) 48).1.cs := by
  show odB (caN (bxX (xI x0) (xI x1) (xI x2) (xI x3) (xI x4) (xI x5)) (lstX deI x6) 48).1.bx (lstX deI v8) (caN (bxX (xI x7) (xI x8) (xI x9) (xI x10) (xI x11) (xI x12)) (lstX deI x13) 48).1.bx (lstX deI v15) = _
  rw [e8, e15]
 rw [e]
 exact decide_eq_true_iff.symm
theorem kLik : RCtrOk Tryz.prog ρ0 cLik := by
 refine rctr_ofN (cf := cfG none [] [cCan, cOrd] [] sumC) (cfG_ok keep0 ((keepR0.cons kOrd nOrd).cons kCan nCan) noF) Tryz.func23 rfl 400 rfl (sh := shPaste) (by kernel_rfl) pas_rsh fun ds hr hp => ?_
 have hr := rshX_flat hr
 match ds, hr, hp with
 | [d0, d1, d2, d3, d4, d5, d6, d7, d8, d9, d10, d11, d12, d13], hr, hp =>
  obtain ⟨⟨e0, l0, u0⟩, ⟨e1, l1, u1⟩, ⟨e2, l2, u2⟩, ⟨e3, l3, u3⟩, ⟨e4, l4, u4⟩, ⟨e5, l5, u5⟩, l6, ⟨e7, l7, u7⟩, ⟨e8, l8, u8⟩, ⟨e9, l9, u9⟩, ⟨e10, l10, u10⟩, ⟨e11, l11, u11⟩, ⟨e12, l12, u12⟩, l13, _⟩ := hr
  generalize d0.i = x0, d1.i = x1, d2.i = x2, d3.i = x3, d4.i = x4, d5.i = x5, d6 = x6, d7.i = x7, d8.i = x8, d9.i = x9, d10.i = x10, d11.i = x11, d12.i = x12, d13 = x13 at *
  subst e0 e1 e2 e3 e4 e5 e7 e8 e9 e10 e11 e12
  exact Eq.mpr (LikL x0 x1 x2 x3 x4 x5 x6 x7 x8 x9 x10 x11 x12 x13) (LikO x0 x1 x2 x3 x4 x5 x6 x7 x8 x9 x10 x11 x12 x13 ⟨l0, u0⟩ ⟨l1, u1⟩ ⟨l2, u2⟩ ⟨l3, u3⟩ ⟨l4, u4⟩ ⟨l5, u5⟩ l6 ⟨l7, u7⟩ ⟨l8, u8⟩ ⟨l9, u9⟩ ⟨l10, u10⟩ ⟨l11, u11⟩ ⟨l12, u12⟩ l13 hp)
theorem nLik : Hs cLik.f := ⟨_, Tryz.func23, by kernel_rfl, by kernel_rfl⟩
end Vc
end Go.Proofs.YtaacclebncplbaaGreatDoor
