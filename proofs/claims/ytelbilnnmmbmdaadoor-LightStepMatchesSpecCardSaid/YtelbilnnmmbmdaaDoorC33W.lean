/- Contracts of functions, each out of one walk. -/
import Derived.Test.YtelbilnnmmbmdaaDoorC33V
import Derived.Test.YtelbilnnmmbmdaaDoorC33U
import Derived.Test.YtelbilnnmmbmdaaDoorC33G
import Derived.Test.YtelbilnnmmbmdaaDoorC33H
import Derived.Test.YtelbilnnmmbmdaaDoorC33K
namespace Go.Proofs.YtelbilnnmmbmdaaDoor
namespace Vc
open Go Go.RowKit
set_option linter.unusedVariables false
def ValidP (x0 x1 x2 x3 x4 x5 : Int) (x6 : X) : Prop :=
 let A := [xI x0, xI x1, xI x2, xI x3, xI x4, xI x5, x6]; ((((¬ ((¬ ((x0 < (-1048575)) ∨ (1048575 < x0))) ∧ ((¬ ((x1 < (-1048575)) ∨ (1048575 < x1))) ∧ ((¬ ((x2 < (-1048575)) ∨ (1048575 < x2))) ∧ ((¬ ((x3 < (-1048575)) ∨ (1048575 < x3))) ∧ ((¬ ((x4 < (-1048575)) ∨ (1048575 < x4))) ∧ (¬ ((x5 < (-1048575)) ∨ (1048575 < x5))))))))) ∨ ((¬ ((((((x0 ≤ x0) ∧ (x0 < x3)) ∧ (x1 ≤ x1)) ∧ (x1 < x4)) ∧ (x2 ≤ x2)) ∧ (x2 < x5))) ∧ (¬ ((x0 = 0) ∧ ((x1 = 0) ∧ ((x2 = 0) ∧ ((x3 = 0) ∧ ((x4 = 0) ∧ (x5 = 0))))))))) →
((false = true) ↔ (Ff 700 A).b = true)) ∧
((¬ ((¬ ((¬ ((x0 < (-1048575)) ∨ (1048575 < x0))) ∧ ((¬ ((x1 < (-1048575)) ∨ (1048575 < x1))) ∧ ((¬ ((x2 < (-1048575)) ∨ (1048575 < x2))) ∧ ((¬ ((x3 < (-1048575)) ∨ (1048575 < x3))) ∧ ((¬ ((x4 < (-1048575)) ∨ (1048575 < x4))) ∧ (¬ ((x5 < (-1048575)) ∨ (1048575 < x5))))))))) ∨ ((¬ ((((((x0 ≤ x0) ∧ (x0 < x3)) ∧ (x1 ≤ x1)) ∧ (x1 < x4)) ∧ (x2 ≤ x2)) ∧ (x2 < x5))) ∧ (¬ ((x0 = 0) ∧ ((x1 = 0) ∧ ((x2 = 0) ∧ ((x3 = 0) ∧ ((x4 = 0) ∧ (x5 = 0)))))))))) →
(let v3 := Ff 210 [xI x0, xI x1, xI x2, xI x3, xI x4, xI x5]; ((((v3.i ≤ 2097152) ∧ (v3.i = x6.i)) →
(Px 720 (A ++ [xI 0]) ∧
(∀ x20 : X, (((0 ≤ x20.i) ∧ (x20.i ≤ 2097152)) →
(Px 720 (A ++ [x20]) →
(((x20.i < x6.i) →
((x20.i < x6.i) ∧
(((¬ ((0 ≤ (x6.r x20.i 0).i) ∧ ((x6.r x20.i 0).i < 256))) →
((false = true) ↔ (Ff 700 A).b = true)) ∧
(((0 ≤ (x6.r x20.i 0).i) ∧ ((x6.r x20.i 0).i < 256)) →
(((x20.i + 1) ≤ 2097152) ∧
(Px 720 (A ++ [(xI (x20.i + 1))]) ∧
(let v17 := Ff 750 (A ++ [(xI (x20.i + 1))]); let v18 := Ff 750 (A ++ [x20]); ((v17.i < v18.i) ∧
(0 < v18.i))))))))) ∧
((¬ (x20.i < x6.i)) →
((true = true) ↔ (Ff 700 A).b = true)))))))) ∧
((¬ ((v3.i ≤ 2097152) ∧ (v3.i = x6.i))) →
((false = true) ↔ (Ff 700 A).b = true))))))
theorem ValidL (x0 x1 x2 x3 x4 x5 : Int) (x6 : X) : (ctrR (fun j => Ff j [xI x0, xI x1, xI x2, xI x3, xI x4, xI x5, x6]) cValid.fs cValid.res { ρ0 with x := fun j => [xI x0, xI x1, xI x2, xI x3, xI x4, xI x5, x6].getD j (xI 0) } (walkR Tryd.prog (cfG none [cVol, cEmpty] [] lpValid sumL) Tryd.f42 400 cValid.args)) = ValidP x0 x1 x2 x3 x4 x5 x6 := by kernel_rfl
set_option maxHeartbeats 4000000 in
theorem ValidO (x0 x1 x2 x3 x4 x5 : Int) (x6 : X) (g0 : -9223372036854775808 ≤ x0 ∧ x0 ≤ 9223372036854775807) (g1 : -9223372036854775808 ≤ x1 ∧ x1 ≤ 9223372036854775807) (g2 : -9223372036854775808 ≤ x2 ∧ x2 ≤ 9223372036854775807) (g3 : -9223372036854775808 ≤ x3 ∧ x3 ≤ 9223372036854775807) (g4 : -9223372036854775808 ≤ x4 ∧ x4 ≤ 9223372036854775807) (g5 : -9223372036854775808 ≤ x5 ∧ x5 ≤ 9223372036854775807) (g6 : 0 ≤ x6.i ∧ x6.i ≤ 9223372036854775807 ∧ RowOk [.int .i64 (-9223372036854775808) (9223372036854775807)] x6.r x6.i.toNat) : ValidP x0 x1 x2 x3 x4 x5 x6 := by
 unfold ValidP
 intro A
 have v7 := v700 (a := x0) (b := x1) (c := x2) (d := x3) (e := x4) (f := x5) (l := x6) g6.1
 refine And.intro ?_ ?_
 ·intro h1
  refine iff_of_false Bool.false_ne_true fun hv => ?_
  obtain ⟨k1, k2, _⟩ := v7.1 hv
  have hn : ¬ (x0 < x3 ∧ x1 < x4 ∧ x2 < x5) → volB x0 x1 x2 x3 x4 x5 = 0 := fun h => if_neg h
  by_cases hc : x0 < x3 ∧ x1 < x4 ∧ x2 < x5
  ·omega
  ·have := hn hc
   omega
 intro h2 v3
 have e3 : v3.i = volB x0 x1 x2 x3 x4 x5 := rfl
 refine And.intro ?_ ?_
 ·intro h5
  refine andI ?_ fun o6 => ?_
  ·exact ⟨Int.le_refl _, g6.1, rfl⟩
  intro x20 h7 p8
  refine And.intro ?_ ?_
  ·intro h10
   refine andI ?_ fun o11 => ?_
   ·omega
   refine And.intro ?_ ?_
   ·intro h13
    refine iff_of_false Bool.false_ne_true fun hv => h13 ?_
    exact matB_iff.1 (lxI_allA h7.1 (by omega) (v7.1 hv).2.2.2.2)
   intro h14
   refine andI ?_ fun o15 => ?_
   ·omega
   refine andI ?_ fun o16 => ?_
   ·exact ⟨Int.le_trans h7.1 (Int.le_of_lt (Int.lt_succ _)), show x20.i + 1 ≤ x6.i by omega, lxI_allS h7.1 (by omega) p8.2.2 (matB_iff.2 h14)⟩
   intro v17 v18
   refine andI ?_ fun o19 => ?_
   ·show x6.i + 1 - (x20.i + 1) < x6.i + 1 - x20.i
    omega
   show 0 < x6.i + 1 - x20.i
   omega
  intro h20
  have hp : x0 < x3 ∧ x1 < x4 ∧ x2 < x5 → 0 < volB x0 x1 x2 x3 x4 x5 := fun h => vol_pos h
  refine iff_of_true rfl (v7.2 ⟨by omega, ?_, by omega, by omega, ?_⟩)
  ·by_cases hc : x0 < x3 ∧ x1 < x4 ∧ x2 < x5
   ·have := hp hc
    omega
   ·omega
  ·have := p8.2.2
   rwa [lx_all (by omega)] at this
 intro h21
 refine iff_of_false Bool.false_ne_true fun hv => ?_
 obtain ⟨_, _, k2, k3, _⟩ := v7.1 hv
 omega
theorem kValid : RCtrOk Tryd.prog ρ0 cValid := by
 refine rctr_of (cf := cfG none [cVol, cEmpty] [] lpValid sumL) (cfG_ok ((keep0.cons kEmpty nEmpty).cons kVol nVol) keepR0 noF) Tryd.func42 rfl 400 rfl fun ds hr => ?_
 have hr := rshX_flat hr
 match ds, hr with
 | [d0, d1, d2, d3, d4, d5, d6], hr =>
  obtain ⟨⟨e0, l0, u0⟩, ⟨e1, l1, u1⟩, ⟨e2, l2, u2⟩, ⟨e3, l3, u3⟩, ⟨e4, l4, u4⟩, ⟨e5, l5, u5⟩, l6, _⟩ := hr
  generalize d0.i = x0, d1.i = x1, d2.i = x2, d3.i = x3, d4.i = x4, d5.i = x5, d6 = x6 at *
  subst e0 e1 e2 e3 e4 e5
  exact Eq.mpr (ValidL x0 x1 x2 x3 x4 x5 x6) (ValidO x0 x1 x2 x3 x4 x5 x6 ⟨l0, u0⟩ ⟨l1, u1⟩ ⟨l2, u2⟩ ⟨l3, u3⟩ ⟨l4, u4⟩ ⟨l5, u5⟩ l6)
theorem nValid : Hs cValid.f := ⟨_, Tryd.func42, by kernel_rfl, by kernel_rfl⟩
def ChLP (x0 x1 x2 x3 x4 x5 : Int) (x6 : X) (x7 : X) (x8 : X) : Prop :=
 let A := [xI x0, xI x1, xI x2, xI x3, xI x4, xI x5, x6, x7, x8]; (let v0 := Ff 863 [x7]; let v1 := Ff 700 [xI x0, xI x1, xI x2, xI x3, xI x4, xI x5, x6]; (((((¬ (v0.i = 0)) ∨ (¬ (v1.b = true))) ∨ ((¬ (x8.i = 0)) ∧ (¬ (x8.i = x6.i)))) →
(rI 1 (Ff 1202 A).i 0 1)) ∧
((¬ (((¬ (v0.i = 0)) ∨ (¬ (v1.b = true))) ∨ ((¬ (x8.i = 0)) ∧ (¬ (x8.i = x6.i))))) →
(rI 0 (Ff 1202 A).i 0 1))))
theorem ChLL (x0 x1 x2 x3 x4 x5 : Int) (x6 : X) (x7 : X) (x8 : X) : (ctrR (fun j => Ff j [xI x0, xI x1, xI x2, xI x3, xI x4, xI x5, x6, x7, x8]) cChL.fs cChL.res { ρ0 with x := fun j => [xI x0, xI x1, xI x2, xI x3, xI x4, xI x5, x6, x7, x8].getD j (xI 0) } (walkR Tryd.prog (cfG none [] [cChkM, cValid] [] []) Tryd.f14 600 cChL.args)) = ChLP x0 x1 x2 x3 x4 x5 x6 x7 x8 := by kernel_rfl
set_option maxHeartbeats 4000000 in
theorem ChLO (x0 x1 x2 x3 x4 x5 : Int) (x6 : X) (x7 : X) (x8 : X) (g0 : -9223372036854775808 ≤ x0 ∧ x0 ≤ 9223372036854775807) (g1 : -9223372036854775808 ≤ x1 ∧ x1 ≤ 9223372036854775807) (g2 : -9223372036854775808 ≤ x2 ∧ x2 ≤ 9223372036854775807) (g3 : -9223372036854775808 ≤ x3 ∧ x3 ≤ 9223372036854775807) (g4 : -9223372036854775808 ≤ x4 ∧ x4 ≤ 9223372036854775807) (g5 : -9223372036854775808 ≤ x5 ∧ x5 ≤ 9223372036854775807) (g6 : 0 ≤ x6.i ∧ x6.i ≤ 9223372036854775807 ∧ RowOk [.int .i64 (-9223372036854775808) (9223372036854775807)] x6.r x6.i.toNat) (g7 : 0 ≤ x7.i ∧ x7.i ≤ 9223372036854775807 ∧ RowOk SMt x7.r x7.i.toNat) (g8 : 0 ≤ x8.i ∧ x8.i ≤ 9223372036854775807 ∧ RowOk [.bool] x8.r x8.i.toNat) : ChLP x0 x1 x2 x3 x4 x5 x6 x7 x8 := by
 unfold ChLP
 intro A
 have el : ((lstX deI x6).length : Int) = x6.i := by rw [lstX_len]; omega
 have hk := okC_iff (g := grX (xI x0) (xI x1) (xI x2) (xI x3) (xI x4) (xI x5) x6) (t := x7) (k := x8)
 rw [show (((grX (xI x0) (xI x1) (xI x2) (xI x3) (xI x4) (xI x5) x6).cs.length : Nat) : Int) = x6.i from el] at hk
 intro v0 v1
 have e0 : v0.i = (chkT x7).2 := rfl
 have e1 : v1.b = validG (grX (xI x0) (xI x1) (xI x2) (xI x3) (xI x4) (xI x5) x6) := rfl
 rw [← e0, ← e1] at hk
 refine And.intro ?_ ?_
 ·intro h3
  refine rngI (if_neg fun hc => ?_) (by decide)
  obtain ⟨a, b, c⟩ := hk.1 hc
  rcases h3 with (h3 | h3) | h3
  ·exact h3 b
  ·exact h3 a
  ·omega
 intro h4
 refine rngI (if_pos (hk.2 ⟨?_, ?_, ?_⟩)) (by decide)
 ·exact Decidable.byContradiction fun hc => h4 (.inl (.inr hc))
 ·exact Decidable.byContradiction fun hc => h4 (.inl (.inl hc))
 ·omega
theorem kChL : RCtrOk Tryd.prog ρ0 cChL := by
 refine rctr_of (cf := cfG none [] [cChkM, cValid] [] []) (cfG_ok keep0 ((keepR0.cons kValid nValid).cons kChkM nChkM) noF) Tryd.func14 rfl 600 rfl fun ds hr => ?_
 have hr := rshX_flat hr
 match ds, hr with
 | [d0, d1, d2, d3, d4, d5, d6, d7, d8], hr =>
  obtain ⟨⟨e0, l0, u0⟩, ⟨e1, l1, u1⟩, ⟨e2, l2, u2⟩, ⟨e3, l3, u3⟩, ⟨e4, l4, u4⟩, ⟨e5, l5, u5⟩, l6, l7, l8, _⟩ := hr
  generalize d0.i = x0, d1.i = x1, d2.i = x2, d3.i = x3, d4.i = x4, d5.i = x5, d6 = x6, d7 = x7, d8 = x8 at *
  subst e0 e1 e2 e3 e4 e5
  exact Eq.mpr (ChLL x0 x1 x2 x3 x4 x5 x6 x7 x8) (ChLO x0 x1 x2 x3 x4 x5 x6 x7 x8 ⟨l0, u0⟩ ⟨l1, u1⟩ ⟨l2, u2⟩ ⟨l3, u3⟩ ⟨l4, u4⟩ ⟨l5, u5⟩ l6 l7 l8)
theorem nChL : Hs cChL.f := ⟨_, Tryd.func14, by kernel_rfl, by kernel_rfl⟩
def LstP (x0 : Int) (x1 : X) : Prop :=
(Px 1266 [xI x0, x1, xI 0, (mkX (rwRep [xI 0, xI 0, xI 0, xI 0]) x0)] ∧
(∀ x30 : X, (∀ x31 : X, (((0 ≤ x30.i) ∧ (x30.i ≤ 2097152)) →
((0 ≤ x31.i ∧ x31.i ≤ 2097152 ∧ RowOk SLv x31.r (x31.i).toNat) →
(Px 1266 [xI x0, x1, x30, x31] →
((((x30.i < x0) ∧ (x30.i < x1.i)) →
((x30.i < x31.i) ∧
((x30.i < x1.i) ∧
((x30.i < x31.i) ∧
((x30.i < x1.i) ∧
((x30.i < x31.i) ∧
((x30.i < x1.i) ∧
((x30.i < x31.i) ∧
((x30.i < x1.i) ∧
(Px 1266 [xI x0, x1, (xI (x30.i + 1)), (mkX (rwSet (rwSet (rwSet (rwSet x31.r x30.i 0 (xI (max 0 (min 15 (x1.r x30.i 0).i)))) x30.i 1 (xI (max 0 (min 15 (x1.r x30.i 1).i)))) x30.i 2 (xI (max 0 (min 15 (x1.r x30.i 2).i)))) x30.i 3 (xI (max 0 (min 15 (x1.r x30.i 3).i)))) x31.i)] ∧
(let v15 := Ff 1266 [xI x0, x1, (xI (x30.i + 1)), (mkX (rwSet (rwSet (rwSet (rwSet x31.r x30.i 0 (xI (max 0 (min 15 (x1.r x30.i 0).i)))) x30.i 1 (xI (max 0 (min 15 (x1.r x30.i 1).i)))) x30.i 2 (xI (max 0 (min 15 (x1.r x30.i 2).i)))) x30.i 3 (xI (max 0 (min 15 (x1.r x30.i 3).i)))) x31.i)]; let v16 := Ff 1266 [xI x0, x1, x30, x31]; ((v15.i < v16.i) ∧
(0 < v16.i))))))))))))) ∧
((¬ ((x30.i < x0) ∧ (x30.i < x1.i))) →
(rowEq SLv (Ff 1211 [xI x0, x1]) x31.r x31.i 2097152)))))))))
theorem LstL (x0 : Int) (x1 : X) : (ctrR (fun j => Ff j [xI x0, x1]) cLst.fs cLst.res { ρ0 with x := fun j => [xI x0, x1].getD j (xI 0) } (walkR Tryd.prog (cfG none [] [] lpLst smLv) Tryd.f16 600 cLst.args)) = LstP x0 x1 := by kernel_rfl
set_option maxHeartbeats 4000000 in
theorem LstO (x0 : Int) (x1 : X) (g0 : 0 ≤ x0 ∧ x0 ≤ 2097152) (g1 : 0 ≤ x1.i ∧ x1.i ≤ 9223372036854775807 ∧ RowOk [.int .i64 (-9223372036854775808) (9223372036854775807), .int .i64 (-9223372036854775808) (9223372036854775807), .int .i64 (-9223372036854775808) (9223372036854775807), .int .i64 (-9223372036854775808) (9223372036854775807)] x1.r x1.i.toNat) : LstP x0 x1 := by
 unfold LstP
 refine andI ?_ fun o0 => ?_
 ·exact ⟨Int.le_refl _, g0.1, rfl, fun j hj => ⟨(if_neg (show ¬ (j : Int) < 0 by omega)).symm, (if_neg (show ¬ (j : Int) < 0 by omega)).symm, (if_neg (show ¬ (j : Int) < 0 by omega)).symm, (if_neg (show ¬ (j : Int) < 0 by omega)).symm⟩⟩
 intro x30 x31 h1 r2 p3
 obtain ⟨q0, q1, q2, q3⟩ : 0 ≤ x30.i ∧ x30.i ≤ x0 ∧ x31.i = x0 ∧ ∀ j : Nat, (j : Int) < x0 → rowQ x31 j fun ch => if (j : Int) < x30.i then lstF x1 j ch else 0 := p3
 refine And.intro ?_ ?_
 ·intro h5
  refine andI ?_ fun o6 => ?_
  ·omega
  refine andI ?_ fun o7 => ?_
  ·omega
  refine andI ?_ fun o8 => ?_
  ·omega
  refine andI ?_ fun o9 => ?_
  ·omega
  refine andI ?_ fun o10 => ?_
  ·omega
  refine andI ?_ fun o11 => ?_
  ·omega
  refine andI ?_ fun o12 => ?_
  ·omega
  refine andI ?_ fun o13 => ?_
  ·omega
  refine andI ?_ fun o14 => ?_
  ·refine ⟨by show 0 ≤ x30.i + 1; omega, by show x30.i + 1 ≤ x0; omega, q2, fun j hj => ?_⟩
   show rowQ _ j fun ch => if (j : Int) < x30.i + 1 then lstF x1 j ch else 0
   refine rowQ_set4 (fun hne => rowQ_congr (q3 j hj) fun c _ _ => ?_) fun hji => ?_
   ·by_cases hl : (j : Int) < x30.i
    ·rw [if_pos hl, if_pos (by omega)]
    ·rw [if_neg hl, if_neg (by omega)]
   ·simp only [hji, if_pos (Int.lt_succ x30.i)]
    unfold lstF
    rw [if_pos h5.2, if_pos h5.2, if_pos h5.2, if_pos h5.2]
    exact ⟨rfl, rfl, rfl, rfl⟩
  intro v15 v16
  refine andI ?_ fun o17 => ?_
  ·show x0 + 1 - (x30.i + 1) < x0 + 1 - x30.i
   omega
  show 0 < x0 + 1 - x30.i
  omega
 intro h18
 refine rowEq_lv (n := x0) (F := lstF x1) q2 g0.1 (by omega) fun j hj => rowQ_congr (q3 j hj) fun c _ _ => ?_
 by_cases hl : (j : Int) < x30.i
 ·exact if_pos hl
 ·rw [if_neg hl]
  exact (if_neg (by omega)).symm
theorem kLst : RCtrOk Tryd.prog ρ0 cLst := by
 refine rctr_of (cf := cfG none [] [] lpLst smLv) (cfG_ok keep0 keepR0 noF) Tryd.func16 rfl 600 rfl fun ds hr => ?_
 have hr := rshX_flat hr
 match ds, hr with
 | [d0, d1], hr =>
  obtain ⟨⟨e0, l0, u0⟩, l1, _⟩ := hr
  generalize d0.i = x0, d1 = x1 at *
  subst e0
  exact Eq.mpr (LstL x0 x1) (LstO x0 x1 ⟨l0, u0⟩ l1)
theorem nLst : Hs cLst.f := ⟨_, Tryd.func16, by kernel_rfl, by kernel_rfl⟩
def FewP (x0 : X) : Prop :=
(((300 < x0.i) →
((false = true) ↔ (Ff 1222 [x0]).b = true)) ∧
((¬ (300 < x0.i)) →
(Px 1267 [x0, xI 0] ∧
(∀ x30 : X, (((0 ≤ x30.i) ∧ (x30.i ≤ 300)) →
(Px 1267 [x0, x30] →
(((x30.i < x0.i) →
((x30.i < x0.i) ∧
(((60 < (x0.r x30.i 0).i) →
((false = true) ↔ (Ff 1222 [x0]).b = true)) ∧
((¬ (60 < (x0.r x30.i 0).i)) →
(Px 1267 [x0, (xI (x30.i + 1))] ∧
(let v13 := Ff 1267 [x0, (xI (x30.i + 1))]; let v14 := Ff 1267 [x0, x30]; ((v13.i < v14.i) ∧
(0 < v14.i)))))))) ∧
((¬ (x30.i < x0.i)) →
((true = true) ↔ (Ff 1222 [x0]).b = true)))))))))
theorem FewL (x0 : X) : (ctrR (fun j => Ff j [x0]) cFew.fs cFew.res { ρ0 with x := fun j => [x0].getD j (xI 0) } (walkR Tryd.prog (cfG none [] [] lpFew []) Tryd.f33 600 cFew.args)) = FewP x0 := by kernel_rfl
set_option maxHeartbeats 4000000 in
theorem FewO (x0 : X) (g0 : 0 ≤ x0.i ∧ x0.i ≤ 9223372036854775807 ∧ RowOk SMt x0.r x0.i.toNat) : FewP x0 := by
 unfold FewP
 have hf : fewM x0 = true ↔ x0.i ≤ 300 ∧ ∀ i : Nat, i < x0.i.toNat → (x0.r i 0).i ≤ 60 := by
  unfold fewM
  simp only [Bool.and_eq_true, decide_eq_true_eq, List.all_eq_true, List.mem_range]
 refine And.intro ?_ ?_
 ·intro h1
  refine iff_of_false Bool.false_ne_true fun hc => ?_
  have := (hf.1 hc).1
  omega
 intro h2
 refine andI ?_ fun o3 => ?_
 ·exact ⟨Int.le_refl _, g0.1, fun k hk => absurd hk (by show ¬ (k : Int) < 0; omega)⟩
 intro x30 h4 p5
 obtain ⟨q0, q1, q2⟩ : 0 ≤ x30.i ∧ x30.i ≤ x0.i ∧ ∀ j : Nat, (j : Int) < x30.i → (x0.r j 0).i ≤ 60 := p5
 refine And.intro ?_ ?_
 ·intro h7
  refine andI ?_ fun o8 => ?_
  ·omega
  refine And.intro ?_ ?_
  ·intro h10
   refine iff_of_false Bool.false_ne_true fun hc => ?_
   have := (hf.1 hc).2 x30.i.toNat (by omega)
   rw [Int.toNat_of_nonneg q0] at this
   omega
  intro h11
  refine andI ?_ fun o12 => ?_
  ·refine ⟨by show 0 ≤ x30.i + 1; omega, by show x30.i + 1 ≤ x0.i; omega, fun k hk => ?_⟩
   have hk : (k : Int) < x30.i + 1 := hk
   by_cases e : (k : Int) = x30.i
   ·rw [e]; omega
   ·exact q2 k (by omega)
  intro v13 v14
  refine andI ?_ fun o15 => ?_
  ·show x0.i + 1 - (x30.i + 1) < x0.i + 1 - x30.i
   omega
  show 0 < x0.i + 1 - x30.i
  omega
 intro h16
 exact iff_of_true rfl (hf.2 ⟨by omega, fun i hi => q2 i (by omega)⟩)
theorem kFew : RCtrOk Tryd.prog ρ0 cFew := by
 refine rctr_of (cf := cfG none [] [] lpFew []) (cfG_ok keep0 keepR0 noF) Tryd.func33 rfl 600 rfl fun ds hr => ?_
 have hr := rshX_flat hr
 match ds, hr with
 | [d0], hr =>
  obtain ⟨l0, _⟩ := hr
  generalize d0 = x0 at *
  exact Eq.mpr (FewL x0) (FewO x0 l0)
theorem nFew : Hs cFew.f := ⟨_, Tryd.func33, by kernel_rfl, by kernel_rfl⟩
def FixPP (x0 x1 x2 x3 x4 x5 : Int) (x6 : X) (x7 : X) (x8 : X) (x9 : X) : Prop :=
 let A := [xI x0, xI x1, xI x2, xI x3, xI x4, xI x5, x6, x7, x8, x9]; (Px 1230 A ∧
(let v1 := Ff 1200 A; let v2 := Ff 1209 [v1, x9]; ((v2.b = true) ↔ (Ff 1226 A).b = true)))
theorem FixPL (x0 x1 x2 x3 x4 x5 : Int) (x6 : X) (x7 : X) (x8 : X) (x9 : X) : (ctrR (fun j => Ff j [xI x0, xI x1, xI x2, xI x3, xI x4, xI x5, x6, x7, x8, x9]) cFixP.fs cFixP.res { ρ0 with x := fun j => [xI x0, xI x1, xI x2, xI x3, xI x4, xI x5, x6, x7, x8, x9].getD j (xI 0) } (walkR Tryd.prog (cfG none [] [cStP, cSmeP] [] []) Tryd.f20 600 shSt)) = FixPP x0 x1 x2 x3 x4 x5 x6 x7 x8 x9 := by kernel_rfl
set_option maxHeartbeats 4000000 in
theorem FixPO (x0 x1 x2 x3 x4 x5 : Int) (x6 : X) (x7 : X) (x8 : X) (x9 : X) (g0 : -1048575 ≤ x0 ∧ x0 ≤ 1048575) (g1 : -1048575 ≤ x1 ∧ x1 ≤ 1048575) (g2 : -1048575 ≤ x2 ∧ x2 ≤ 1048575) (g3 : -1048575 ≤ x3 ∧ x3 ≤ 1048575) (g4 : -1048575 ≤ x4 ∧ x4 ≤ 1048575) (g5 : -1048575 ≤ x5 ∧ x5 ≤ 1048575) (g6 : 0 ≤ x6.i ∧ x6.i ≤ 2097152 ∧ RowOk SMat x6.r x6.i.toNat) (g7 : 0 ≤ x7.i ∧ x7.i ≤ 9223372036854775807 ∧ RowOk SMt x7.r x7.i.toNat) (g8 : 0 ≤ x8.i ∧ x8.i ≤ 9223372036854775807 ∧ RowOk [.bool] x8.r x8.i.toNat) (g9 : 0 ≤ x9.i ∧ x9.i ≤ 9223372036854775807 ∧ RowOk SLv x9.r x9.i.toNat) (gp : Px cFixP.pre.get! [xI x0, xI x1, xI x2, xI x3, xI x4, xI x5, x6, x7, x8, x9]) : FixPP x0 x1 x2 x3 x4 x5 x6 x7 x8 x9 := by
 unfold FixPP
 intro A
 refine andI ?_ fun o0 => ?_
 ·exact gp
 intro v1 v2
 exact Iff.rfl
theorem kFixP : RCtrOk Tryd.prog ρ0 cFixP := by
 refine rctr_ofN (cf := cfG none [] [cStP, cSmeP] [] []) (cfG_ok keep0 ((keepR0.cons kSmeP nSmeP).cons kStP nStP) noF) Tryd.func20 rfl 600 rfl (sh := shSt) (by kernel_rfl) st_rsh fun ds hr hp => ?_
 have hr := rshX_flat hr
 match ds, hr, hp with
 | [d0, d1, d2, d3, d4, d5, d6, d7, d8, d9], hr, hp =>
  obtain ⟨⟨e0, l0, u0⟩, ⟨e1, l1, u1⟩, ⟨e2, l2, u2⟩, ⟨e3, l3, u3⟩, ⟨e4, l4, u4⟩, ⟨e5, l5, u5⟩, l6, l7, l8, l9, _⟩ := hr
  generalize d0.i = x0, d1.i = x1, d2.i = x2, d3.i = x3, d4.i = x4, d5.i = x5, d6 = x6, d7 = x7, d8 = x8, d9 = x9 at *
  subst e0 e1 e2 e3 e4 e5
  exact Eq.mpr (FixPL x0 x1 x2 x3 x4 x5 x6 x7 x8 x9) (FixPO x0 x1 x2 x3 x4 x5 x6 x7 x8 x9 ⟨l0, u0⟩ ⟨l1, u1⟩ ⟨l2, u2⟩ ⟨l3, u3⟩ ⟨l4, u4⟩ ⟨l5, u5⟩ l6 l7 l8 l9 hp)
theorem nFixP : Hs cFixP.f := ⟨_, Tryd.func20, by kernel_rfl, by kernel_rfl⟩
end Vc
end Go.Proofs.YtelbilnnmmbmdaaDoor
