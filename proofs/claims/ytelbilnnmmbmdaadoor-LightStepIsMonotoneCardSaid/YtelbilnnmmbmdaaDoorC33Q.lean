/- Contracts of functions, each out of one walk. -/
import Derived.Test.YtelbilnnmmbmdaaDoorC33N
import Derived.Test.YtelbilnnmmbmdaaDoorC33L
import Derived.Test.YtelbilnnmmbmdaaDoorC04D
import Derived.Test.YtelbilnnmmbmdaaDoorC04E
namespace Go.Proofs.YtelbilnnmmbmdaaDoor
namespace Vc
open Go Go.RowKit
set_option linter.unusedVariables false
def IsP (x0 x1 x2 x3 x4 x5 : Int) (x6 : X) (x7 : X) (x8 : X) (x9 : X) (x10 : Int) : Prop :=
 let A := [xI x0, xI x1, xI x2, xI x3, xI x4, xI x5, x6, x7, x8, x9, xI x10]; (((¬ (x7.i = 0)) →
(0 ≤ x10)) ∧
(((¬ (x7.i = 0)) →
(x10 < x7.i)) ∧
(((x7.i = 0) ∨ ((x7.r x10 0).b = true)) ↔ (Ff 1223 A).b = true)))
theorem IsL (x0 x1 x2 x3 x4 x5 : Int) (x6 : X) (x7 : X) (x8 : X) (x9 : X) (x10 : Int) : (ctrR (fun j => Ff j [xI x0, xI x1, xI x2, xI x3, xI x4, xI x5, x6, x7, x8, x9, xI x10]) cIs.fs cIs.res { ρ0 with x := fun j => [xI x0, xI x1, xI x2, xI x3, xI x4, xI x5, x6, x7, x8, x9, xI x10].getD j (xI 0) } (walkR Tryd.prog (cfG none [] [] [] []) Tryd.f36 400 cIs.args)) = IsP x0 x1 x2 x3 x4 x5 x6 x7 x8 x9 x10 := by kernel_rfl
set_option maxHeartbeats 4000000 in
theorem IsO (x0 x1 x2 x3 x4 x5 : Int) (x6 : X) (x7 : X) (x8 : X) (x9 : X) (x10 : Int) (g0 : -1048575 ≤ x0 ∧ x0 ≤ 1048575) (g1 : -1048575 ≤ x1 ∧ x1 ≤ 1048575) (g2 : -1048575 ≤ x2 ∧ x2 ≤ 1048575) (g3 : -1048575 ≤ x3 ∧ x3 ≤ 1048575) (g4 : -1048575 ≤ x4 ∧ x4 ≤ 1048575) (g5 : -1048575 ≤ x5 ∧ x5 ≤ 1048575) (g6 : 0 ≤ x6.i ∧ x6.i ≤ 2097152 ∧ RowOk SMat x6.r x6.i.toNat) (g7 : 0 ≤ x7.i ∧ x7.i ≤ 9223372036854775807 ∧ RowOk [.bool] x7.r x7.i.toNat) (g8 : 0 ≤ x8.i ∧ x8.i ≤ 2097152 ∧ RowOk SFd x8.r x8.i.toNat) (g9 : 0 ≤ x9.i ∧ x9.i ≤ 2097152 ∧ RowOk SEm x9.r x9.i.toNat) (g10 : -9223372036854775808 ≤ x10 ∧ x10 ≤ 9223372036854775807) (gp : Px cIs.pre.get! [xI x0, xI x1, xI x2, xI x3, xI x4, xI x5, x6, x7, x8, x9, xI x10]) : IsP x0 x1 x2 x3 x4 x5 x6 x7 x8 x9 x10 := by
 unfold IsP
 intro A
 obtain ⟨p0, p1⟩ : 0 ≤ x10 ∧ (x7.i = 0 ∨ x10 < x7.i) := gp
 refine And.intro ?_ ?_
 ·intro h1
  omega
 refine And.intro ?_ ?_
 ·intro h3
  omega
 show _ ↔ (decide (x7.i = 0) || (x7.r x10 0).b) = true
 rw [Bool.or_eq_true, decide_eq_true_eq]
theorem kIs : RCtrOk Tryd.prog ρ0 cIs := by
 refine rctr_ofP (cf := cfG none [] [] [] []) (cfG_ok keep0 keepR0 noF) Tryd.func36 rfl 400 rfl fun ds hr hp => ?_
 have hr := rshX_flat hr
 match ds, hr, hp with
 | [d0, d1, d2, d3, d4, d5, d6, d7, d8, d9, d10], hr, hp =>
  obtain ⟨⟨e0, l0, u0⟩, ⟨e1, l1, u1⟩, ⟨e2, l2, u2⟩, ⟨e3, l3, u3⟩, ⟨e4, l4, u4⟩, ⟨e5, l5, u5⟩, l6, l7, l8, l9, ⟨e10, l10, u10⟩, _⟩ := hr
  generalize d0.i = x0, d1.i = x1, d2.i = x2, d3.i = x3, d4.i = x4, d5.i = x5, d6 = x6, d7 = x7, d8 = x8, d9 = x9, d10.i = x10 at *
  subst e0 e1 e2 e3 e4 e5 e10
  exact Eq.mpr (IsL x0 x1 x2 x3 x4 x5 x6 x7 x8 x9 x10) (IsO x0 x1 x2 x3 x4 x5 x6 x7 x8 x9 x10 ⟨l0, u0⟩ ⟨l1, u1⟩ ⟨l2, u2⟩ ⟨l3, u3⟩ ⟨l4, u4⟩ ⟨l5, u5⟩ l6 l7 l8 l9 ⟨l10, u10⟩ hp)
theorem nIs : Hs cIs.f := ⟨_, Tryd.func36, by kernel_rfl, by kernel_rfl⟩
def PassP (x0 x1 x2 x3 x4 x5 : Int) (x6 : X) (x7 : X) (x8 : X) (x9 : X) (x10 x11 x12 x13 : Int) : Prop :=
 let A := [xI x0, xI x1, xI x2, xI x3, xI x4, xI x5, x6, x7, x8, x9, xI x10, xI x11, xI x12, xI x13]; (((((x11 = 3) ∧ (x13 = 4)) ∧ (x12 = 15)) →
(0 ≤ x10)) ∧
(((((x11 = 3) ∧ (x13 = 4)) ∧ (x12 = 15)) →
(x10 < x8.i)) ∧
((((((x11 = 3) ∧ (x13 = 4)) ∧ (x12 = 15)) ∧ ((x8.r x10 0).i = 1)) →
(rI 15 (Ff 1224 A).i (-16) 15)) ∧
((¬ ((((x11 = 3) ∧ (x13 = 4)) ∧ (x12 = 15)) ∧ ((x8.r x10 0).i = 1))) →
((0 ≤ x10) ∧
((x10 < x8.i) ∧
(rI (x12 - (x8.r x10 0).i) (Ff 1224 A).i (-16) 15)))))))
theorem PassL (x0 x1 x2 x3 x4 x5 : Int) (x6 : X) (x7 : X) (x8 : X) (x9 : X) (x10 x11 x12 x13 : Int) : (ctrR (fun j => Ff j [xI x0, xI x1, xI x2, xI x3, xI x4, xI x5, x6, x7, x8, x9, xI x10, xI x11, xI x12, xI x13]) cPass.fs cPass.res { ρ0 with x := fun j => [xI x0, xI x1, xI x2, xI x3, xI x4, xI x5, x6, x7, x8, x9, xI x10, xI x11, xI x12, xI x13].getD j (xI 0) } (walkR Tryd.prog (cfG none [] [] [] []) Tryd.f40 400 cPass.args)) = PassP x0 x1 x2 x3 x4 x5 x6 x7 x8 x9 x10 x11 x12 x13 := by kernel_rfl
set_option maxHeartbeats 4000000 in
theorem PassO (x0 x1 x2 x3 x4 x5 : Int) (x6 : X) (x7 : X) (x8 : X) (x9 : X) (x10 x11 x12 x13 : Int) (g0 : -1048575 ≤ x0 ∧ x0 ≤ 1048575) (g1 : -1048575 ≤ x1 ∧ x1 ≤ 1048575) (g2 : -1048575 ≤ x2 ∧ x2 ≤ 1048575) (g3 : -1048575 ≤ x3 ∧ x3 ≤ 1048575) (g4 : -1048575 ≤ x4 ∧ x4 ≤ 1048575) (g5 : -1048575 ≤ x5 ∧ x5 ≤ 1048575) (g6 : 0 ≤ x6.i ∧ x6.i ≤ 2097152 ∧ RowOk SMat x6.r x6.i.toNat) (g7 : 0 ≤ x7.i ∧ x7.i ≤ 9223372036854775807 ∧ RowOk [.bool] x7.r x7.i.toNat) (g8 : 0 ≤ x8.i ∧ x8.i ≤ 2097152 ∧ RowOk SFd x8.r x8.i.toNat) (g9 : 0 ≤ x9.i ∧ x9.i ≤ 2097152 ∧ RowOk SEm x9.r x9.i.toNat) (g10 : -9223372036854775808 ≤ x10 ∧ x10 ≤ 9223372036854775807) (g11 : 0 ≤ x11 ∧ x11 ≤ 3) (g12 : 0 ≤ x12 ∧ x12 ≤ 15) (g13 : -9223372036854775808 ≤ x13 ∧ x13 ≤ 9223372036854775807) (gp : Px cPass.pre.get! [xI x0, xI x1, xI x2, xI x3, xI x4, xI x5, x6, x7, x8, x9, xI x10, xI x11, xI x12, xI x13]) : PassP x0 x1 x2 x3 x4 x5 x6 x7 x8 x9 x10 x11 x12 x13 := by
 unfold PassP
 intro A
 obtain ⟨p0, p1, p2⟩ : 0 ≤ x10 ∧ x10 < x8.i ∧ x10 < x9.i := gp
 obtain ⟨fr, _⟩ := g8.2.2 x10.toNat (by omega)
 rw [Int.toNat_of_nonneg p0] at fr
 have fr : 1 ≤ (x8.r x10 0).i ∧ (x8.r x10 0).i ≤ 16 := fr
 refine And.intro ?_ ?_
 ·intro h1
  omega
 refine And.intro ?_ ?_
 ·intro h3
  omega
 refine And.intro ?_ ?_
 ·intro h5
  have e : pssB (x8.r x10 0).i x11 (if x13 = 4 then 5 else 0) x12 = x12 := if_pos ⟨h5.1.1.1, by rw [if_pos h5.1.1.2], h5.1.2, h5.2⟩
  exact ⟨(e.trans h5.1.2).symm, by show -16 ≤ pssB (x8.r x10 0).i x11 (if x13 = 4 then 5 else 0) x12 ∧ pssB (x8.r x10 0).i x11 (if x13 = 4 then 5 else 0) x12 ≤ 15; omega⟩
 intro h6
 refine andI ?_ fun o7 => ?_
 ·omega
 refine andI ?_ fun o8 => ?_
 ·omega
 have e : pssB (x8.r x10 0).i x11 (if x13 = 4 then 5 else 0) x12 = x12 - (x8.r x10 0).i := if_neg fun hc => h6 ⟨⟨⟨hc.1, by by_cases h : x13 = 4; exact h; rw [if_neg h] at hc; omega⟩, hc.2.2.1⟩, hc.2.2.2⟩
 exact ⟨e.symm, by show -16 ≤ pssB (x8.r x10 0).i x11 (if x13 = 4 then 5 else 0) x12 ∧ pssB (x8.r x10 0).i x11 (if x13 = 4 then 5 else 0) x12 ≤ 15; omega⟩
theorem kPass : RCtrOk Tryd.prog ρ0 cPass := by
 refine rctr_ofP (cf := cfG none [] [] [] []) (cfG_ok keep0 keepR0 noF) Tryd.func40 rfl 400 rfl fun ds hr hp => ?_
 have hr := rshX_flat hr
 match ds, hr, hp with
 | [d0, d1, d2, d3, d4, d5, d6, d7, d8, d9, d10, d11, d12, d13], hr, hp =>
  obtain ⟨⟨e0, l0, u0⟩, ⟨e1, l1, u1⟩, ⟨e2, l2, u2⟩, ⟨e3, l3, u3⟩, ⟨e4, l4, u4⟩, ⟨e5, l5, u5⟩, l6, l7, l8, l9, ⟨e10, l10, u10⟩, ⟨e11, l11, u11⟩, ⟨e12, l12, u12⟩, ⟨e13, l13, u13⟩, _⟩ := hr
  generalize d0.i = x0, d1.i = x1, d2.i = x2, d3.i = x3, d4.i = x4, d5.i = x5, d6 = x6, d7 = x7, d8 = x8, d9 = x9, d10.i = x10, d11.i = x11, d12.i = x12, d13.i = x13 at *
  subst e0 e1 e2 e3 e4 e5 e10 e11 e12 e13
  exact Eq.mpr (PassL x0 x1 x2 x3 x4 x5 x6 x7 x8 x9 x10 x11 x12 x13) (PassO x0 x1 x2 x3 x4 x5 x6 x7 x8 x9 x10 x11 x12 x13 ⟨l0, u0⟩ ⟨l1, u1⟩ ⟨l2, u2⟩ ⟨l3, u3⟩ ⟨l4, u4⟩ ⟨l5, u5⟩ l6 l7 l8 l9 ⟨l10, u10⟩ ⟨l11, u11⟩ ⟨l12, u12⟩ ⟨l13, u13⟩ hp)
theorem nPass : Hs cPass.f := ⟨_, Tryd.func40, by kernel_rfl, by kernel_rfl⟩
def OwnP (x0 x1 x2 x3 x4 x5 : Int) (x6 : X) (x7 : X) (x8 : X) (x9 : X) (x10 x11 : Int) : Prop :=
 let A := [xI x0, xI x1, xI x2, xI x3, xI x4, xI x5, x6, x7, x8, x9, xI x10, xI x11]; (((¬ (x11 = 3)) →
((0 ≤ x10) ∧
((x10 < x9.i) ∧
(((x11 = 0) →
(rI ((x9.r x10 0).i) (Ff 1225 A).i 0 15)) ∧
(((x11 = 1) →
(rI ((x9.r x10 1).i) (Ff 1225 A).i 0 15)) ∧
(((x11 = 2) →
(rI ((x9.r x10 2).i) (Ff 1225 A).i 0 15)) ∧
(((x11 = 3) →
 False) ∧
 True))))))) ∧
((x11 = 3) →
(let v13 := Ff 272 [xI x0, xI x1, xI x2, xI x3, xI x4, xI x5, xI x10]; (((v13.i = (x5 - 1)) →
(Px 1236 [xI x0, xI x1, xI x2, xI x3, xI x4, xI x5, x6, x7, x8, x9, xI x10, xI 3, xI 15, xI 4] ∧
(let v17 := Ff 1224 [xI x0, xI x1, xI x2, xI x3, xI x4, xI x5, x6, x7, x8, x9, xI x10, xI 3, xI 15, xI 4]; (rI (max 0 v17.i) (Ff 1225 A).i 0 15)))) ∧
((¬ (v13.i = (x5 - 1))) →
(rI 0 (Ff 1225 A).i 0 15))))))
theorem OwnL (x0 x1 x2 x3 x4 x5 : Int) (x6 : X) (x7 : X) (x8 : X) (x9 : X) (x10 x11 : Int) : (ctrR (fun j => Ff j [xI x0, xI x1, xI x2, xI x3, xI x4, xI x5, x6, x7, x8, x9, xI x10, xI x11]) cOwn.fs cOwn.res { ρ0 with x := fun j => [xI x0, xI x1, xI x2, xI x3, xI x4, xI x5, x6, x7, x8, x9, xI x10, xI x11].getD j (xI 0) } (walkR Tryd.prog (cfG none [cAt] [cPass] [] []) Tryd.f37 400 cOwn.args)) = OwnP x0 x1 x2 x3 x4 x5 x6 x7 x8 x9 x10 x11 := by kernel_rfl
set_option maxHeartbeats 4000000 in
theorem OwnO (x0 x1 x2 x3 x4 x5 : Int) (x6 : X) (x7 : X) (x8 : X) (x9 : X) (x10 x11 : Int) (g0 : -1048575 ≤ x0 ∧ x0 ≤ 1048575) (g1 : -1048575 ≤ x1 ∧ x1 ≤ 1048575) (g2 : -1048575 ≤ x2 ∧ x2 ≤ 1048575) (g3 : -1048575 ≤ x3 ∧ x3 ≤ 1048575) (g4 : -1048575 ≤ x4 ∧ x4 ≤ 1048575) (g5 : -1048575 ≤ x5 ∧ x5 ≤ 1048575) (g6 : 0 ≤ x6.i ∧ x6.i ≤ 2097152 ∧ RowOk SMat x6.r x6.i.toNat) (g7 : 0 ≤ x7.i ∧ x7.i ≤ 9223372036854775807 ∧ RowOk [.bool] x7.r x7.i.toNat) (g8 : 0 ≤ x8.i ∧ x8.i ≤ 2097152 ∧ RowOk SFd x8.r x8.i.toNat) (g9 : 0 ≤ x9.i ∧ x9.i ≤ 2097152 ∧ RowOk SEm x9.r x9.i.toNat) (g10 : -9223372036854775808 ≤ x10 ∧ x10 ≤ 9223372036854775807) (g11 : 0 ≤ x11 ∧ x11 ≤ 3) (gp : Px cOwn.pre.get! [xI x0, xI x1, xI x2, xI x3, xI x4, xI x5, x6, x7, x8, x9, xI x10, xI x11]) : OwnP x0 x1 x2 x3 x4 x5 x6 x7 x8 x9 x10 x11 := by
 unfold OwnP
 intro A
 obtain ⟨p0, p1, p2⟩ : 0 ≤ x10 ∧ x10 < x8.i ∧ x10 < x9.i := gp
 obtain ⟨er0, er1, er2, _⟩ := g9.2.2 x10.toNat (by omega)
 rw [Int.toNat_of_nonneg p0] at er0 er1 er2
 obtain ⟨fr, _⟩ := g8.2.2 x10.toNat (by omega)
 rw [Int.toNat_of_nonneg p0] at fr
 have fr : 1 ≤ (x8.r x10 0).i ∧ (x8.r x10 0).i ≤ 16 := fr
 refine And.intro ?_ ?_
 ·intro h1
  refine andI ?_ fun o2 => ?_
  ·omega
  refine andI ?_ fun o3 => ?_
  ·omega
  refine And.intro ?_ ?_
  ·intro h5
   subst h5
   exact ⟨rfl, er0⟩
  refine And.intro ?_ ?_
  ·intro h7
   subst h7
   exact ⟨rfl, er1⟩
  refine And.intro ?_ ?_
  ·intro h9
   subst h9
   exact ⟨rfl, er2⟩
  refine And.intro ?_ ?_
  ·intro h11
   exact h1 h11
  trivial
 intro h12 v13
 refine And.intro ?_ ?_
 ·intro h15
  refine andI ?_ fun o16 => ?_
  ·exact ⟨p0, p1, p2⟩
  intro v17
  have et : topB (bxI x0 x1 x2 x3 x4 x5) x10 = true := decide_eq_true h15
  have e : ownS (bxI x0 x1 x2 x3 x4 x5) x8 x9 x10 x11 = max 0 (pssB (x8.r x10 0).i 3 5 15) := by unfold ownS; rw [if_pos h12, et]; rfl
  have ep : pssB (x8.r x10 0).i 3 5 15 ≤ 15 := by unfold pssB; split <;> omega
  exact ⟨e.symm, by show 0 ≤ ownS (bxI x0 x1 x2 x3 x4 x5) x8 x9 x10 x11 ∧ ownS (bxI x0 x1 x2 x3 x4 x5) x8 x9 x10 x11 ≤ 15; omega⟩
 intro h18
 have et : topB (bxI x0 x1 x2 x3 x4 x5) x10 = false := decide_eq_false h18
 have e : ownS (bxI x0 x1 x2 x3 x4 x5) x8 x9 x10 x11 = 0 := by unfold ownS; rw [if_pos h12, et]; rfl
 exact ⟨e.symm, by show 0 ≤ ownS (bxI x0 x1 x2 x3 x4 x5) x8 x9 x10 x11 ∧ ownS (bxI x0 x1 x2 x3 x4 x5) x8 x9 x10 x11 ≤ 15; omega⟩
theorem kOwn : RCtrOk Tryd.prog ρ0 cOwn := by
 refine rctr_ofP (cf := cfG none [cAt] [cPass] [] []) (cfG_ok (keep0.cons kAt nAt) (keepR0.cons kPass nPass) noF) Tryd.func37 rfl 400 rfl fun ds hr hp => ?_
 have hr := rshX_flat hr
 match ds, hr, hp with
 | [d0, d1, d2, d3, d4, d5, d6, d7, d8, d9, d10, d11], hr, hp =>
  obtain ⟨⟨e0, l0, u0⟩, ⟨e1, l1, u1⟩, ⟨e2, l2, u2⟩, ⟨e3, l3, u3⟩, ⟨e4, l4, u4⟩, ⟨e5, l5, u5⟩, l6, l7, l8, l9, ⟨e10, l10, u10⟩, ⟨e11, l11, u11⟩, _⟩ := hr
  generalize d0.i = x0, d1.i = x1, d2.i = x2, d3.i = x3, d4.i = x4, d5.i = x5, d6 = x6, d7 = x7, d8 = x8, d9 = x9, d10.i = x10, d11.i = x11 at *
  subst e0 e1 e2 e3 e4 e5 e10 e11
  exact Eq.mpr (OwnL x0 x1 x2 x3 x4 x5 x6 x7 x8 x9 x10 x11) (OwnO x0 x1 x2 x3 x4 x5 x6 x7 x8 x9 x10 x11 ⟨l0, u0⟩ ⟨l1, u1⟩ ⟨l2, u2⟩ ⟨l3, u3⟩ ⟨l4, u4⟩ ⟨l5, u5⟩ l6 l7 l8 l9 ⟨l10, u10⟩ ⟨l11, u11⟩ hp)
theorem nOwn : Hs cOwn.f := ⟨_, Tryd.func37, by kernel_rfl, by kernel_rfl⟩
end Vc
end Go.Proofs.YtelbilnnmmbmdaaDoor
