/- Contracts of functions, each out of one walk. -/
import Derived.Test.YtpmfkelglmgddaaGreatDoorTcO
import Derived.Test.YtpmfkelglmgddaaGreatDoorTcK
namespace Go.Proofs.YtpmfkelglmgddaaGreatDoor
namespace Vc
open Go Go.RowKit
set_option linter.unusedVariables false
def yH (x0 : X) (x1 : X) (x2 : X) : Prop :=
(Px 952 [x0, x1, x2] ∧
(Px 963 [x0, x1, x2, xI 0, (aH (ar 1 []) 0), (aH (ar 1 []) 0)] ∧
(∀ x20 : X, (∀ x21 : X, (∀ x22 : X, (((0 ≤ x20.i) ∧ (x20.i ≤ 3072)) →
((0 ≤ x21.i ∧ x21.i ≤ 12288 ∧ au su x21.r (x21.i).toNat) →
(Px 963 [x0, x1, x2, x20, x21, x22] →
(let v5 := Ff 920 [x0, x1, x2]; (((x20.i < v5.i) →
((x20.i < v5.i) ∧
(Px 954 [x0, (xI (v5.r x20.i 0).i), (xI (v5.r x20.i 1).i), (xI (v5.r x20.i 2).i), (xI (v5.r x20.i 3).i), (xB (v5.r x20.i 4).b), xI 1] ∧
(Px 964 [x0, x1, x2, xI x20.i, xI 0, x21, x22] ∧
(∀ x30 : X, (∀ x31 : X, (∀ x32 : X, (((0 ≤ x30.i) ∧ (x30.i ≤ 4)) →
((0 ≤ x31.i ∧ x31.i ≤ 12288 ∧ au su x31.r (x31.i).toNat) →
(Px 964 [x0, x1, x2, xI x20.i, x30, x31, x32] →
(let v14 := Ff 940 [x0, (xI (v5.r x20.i 0).i), (xI (v5.r x20.i 1).i), (xI (v5.r x20.i 2).i), (xI (v5.r x20.i 3).i), (xB (v5.r x20.i 4).b), xI 1]; (((x30.i < v14.i) →
((x30.i < v14.i) ∧
((0 < v14.i) ∧
((((x30.i + 1) % v14.i) < v14.i) ∧
((((x30.i + 1) % v14.i) < v14.i) ∧
((((x30.i + 1) % v14.i) < v14.i) ∧
((((x30.i + 1) % v14.i) < v14.i) ∧
((x32.i < 1000000) ∧
((((x30.i + 1) % v14.i) < v14.i) ∧
((((x30.i + 1) % v14.i) < v14.i) ∧
(((x31.i + 1) ≤ 12288) ∧
(Px 964 [x0, x1, x2, xI x20.i, (xI (x30.i + 1)), (aH (aE x31.r x31.i (ar 6 [(cp v14.r x30.i 0), (cp v14.r x30.i 1), (cp v14.r x30.i 2), (xI (x21.i + ((x30.i + 1) % v14.i))), xI 0, x20])) (x31.i + 1)), (aH (ak (ak (ak (ak (ak (ak (ak x32.r x32.i 0 (cp v14.r x30.i 0)) x32.i 1 (cp v14.r x30.i 1)) x32.i 2 (cp v14.r x30.i 2)) x32.i 3 (cp v14.r ((x30.i + 1) % v14.i) 0)) x32.i 4 (cp v14.r ((x30.i + 1) % v14.i) 1)) x32.i 5 (cp v14.r ((x30.i + 1) % v14.i) 2)) x32.i 6 x31) (x32.i + 1))] ∧
(((Ff 989 [x0, x1, x2, xI x20.i, (xI (x30.i + 1)), (aH (aE x31.r x31.i (ar 6 [(cp v14.r x30.i 0), (cp v14.r x30.i 1), (cp v14.r x30.i 2), (xI (x21.i + ((x30.i + 1) % v14.i))), xI 0, x20])) (x31.i + 1)), (aH (ak (ak (ak (ak (ak (ak (ak x32.r x32.i 0 (cp v14.r x30.i 0)) x32.i 1 (cp v14.r x30.i 1)) x32.i 2 (cp v14.r x30.i 2)) x32.i 3 (cp v14.r ((x30.i + 1) % v14.i) 0)) x32.i 4 (cp v14.r ((x30.i + 1) % v14.i) 1)) x32.i 5 (cp v14.r ((x30.i + 1) % v14.i) 2)) x32.i 6 x31) (x32.i + 1))]).i < (Ff 989 [x0, x1, x2, xI x20.i, x30, x31, x32]).i) ∧
(0 < (Ff 989 [x0, x1, x2, xI x20.i, x30, x31, x32]).i)))))))))))))) ∧
((¬ (x30.i < v14.i)) →
(Px 963 [x0, x1, x2, (xI (x20.i + 1)), x31, x32] ∧
(((Ff 988 [x0, x1, x2, (xI (x20.i + 1)), x31, x32]).i < (Ff 988 [x0, x1, x2, x20, x21, x22]).i) ∧
(0 < (Ff 988 [x0, x1, x2, x20, x21, x22]).i)))))))))))))))) ∧
((¬ (x20.i < v5.i)) →
(Px 965 [x0, x1, x2, xI 0, x21] ∧
(∀ x40 : X, (∀ x41 : X, (((0 ≤ x40.i) ∧ (x40.i ≤ 12288)) →
((0 ≤ x41.i ∧ x41.i ≤ 12288 ∧ au su x41.r (x41.i).toNat) →
(Px 965 [x0, x1, x2, x40, x41] →
(((x40.i < x21.i) →
(Px 956 [v5, x41, xI x40.i] ∧
((x40.i < x41.i) ∧
(((x41.r x40.i 5).i < v5.i) ∧
((x40.i < x41.i) ∧
(let v43 := Ff 945 [v5, x41, xI x40.i]; let v44 := Ff 946 [v5, x41, xI x40.i]; let v45 := Ff 947 [v5, x41, xI x40.i]; let v46 := Ff 990 [x22, v43, v44, v45, (cp x41.r x40.i 0), (cp x41.r x40.i 1), (cp x41.r x40.i 2)]; (((1 < v46.i) →
(Px 966 [x0, x1, x2, x40, xI 0] ∧
(∀ x50 : X, (((0 ≤ x50.i) ∧ (x50.i ≤ 1000000)) →
(Px 966 [x0, x1, x2, x40, x50] →
(((x50.i < v46.i) →
((x50.i < v46.i) ∧
(((x41.r (v46.r x50.i 0).i 5).i < v5.i) ∧
(((v46.r x50.i 0).i < x41.i) ∧
(let v57 := Ff 948 [(xI (v5.r (x41.r (v46.r x50.i 0).i 5).i 0).i), (xI (v5.r (x41.r (v46.r x50.i 0).i 5).i 1).i), (xI (v5.r (x41.r (v46.r x50.i 0).i 5).i 2).i), (xI (v5.r (x41.r (v46.r x50.i 0).i 5).i 3).i), (xB (v5.r (x41.r (v46.r x50.i 0).i 5).i 4).b), xI 1, (xI (x41.r x40.i 0).i), (xI (x41.r x40.i 1).i), (xI (x41.r x40.i 2).i), xI v43.i, xI v44.i, xI v45.i]; let v58 := Ff 948 [(xI (v5.r (x41.r x40.i 5).i 0).i), (xI (v5.r (x41.r x40.i 5).i 1).i), (xI (v5.r (x41.r x40.i 5).i 2).i), (xI (v5.r (x41.r x40.i 5).i 3).i), (xB (v5.r (x41.r x40.i 5).i 4).b), xI 1, (xI (x41.r x40.i 0).i), (xI (x41.r x40.i 1).i), (xI (x41.r x40.i 2).i), xI v43.i, xI v44.i, xI v45.i]; let v59 := Ff 949 [(xI (v5.r (x41.r (v46.r x50.i 0).i 5).i 0).i), (xI (v5.r (x41.r (v46.r x50.i 0).i 5).i 1).i), (xI (v5.r (x41.r (v46.r x50.i 0).i 5).i 2).i), (xI (v5.r (x41.r (v46.r x50.i 0).i 5).i 3).i), (xB (v5.r (x41.r (v46.r x50.i 0).i 5).i 4).b), xI 1, (xI (x41.r x40.i 0).i), (xI (x41.r x40.i 1).i), (xI (x41.r x40.i 2).i), xI v43.i, xI v44.i, xI v45.i]; let v60 := Ff 949 [(xI (v5.r (x41.r x40.i 5).i 0).i), (xI (v5.r (x41.r x40.i 5).i 1).i), (xI (v5.r (x41.r x40.i 5).i 2).i), (xI (v5.r (x41.r x40.i 5).i 3).i), (xB (v5.r (x41.r x40.i 5).i 4).b), xI 1, (xI (x41.r x40.i 0).i), (xI (x41.r x40.i 1).i), (xI (x41.r x40.i 2).i), xI v43.i, xI v44.i, xI v45.i]; let v61 := Ff 950 [(xI (v5.r (x41.r (v46.r x50.i 0).i 5).i 0).i), (xI (v5.r (x41.r (v46.r x50.i 0).i 5).i 1).i), (xI (v5.r (x41.r (v46.r x50.i 0).i 5).i 2).i), (xI (v5.r (x41.r (v46.r x50.i 0).i 5).i 3).i), (xB (v5.r (x41.r (v46.r x50.i 0).i 5).i 4).b), xI 1, (xI (x41.r x40.i 0).i), (xI (x41.r x40.i 1).i), (xI (x41.r x40.i 2).i), xI v43.i, xI v44.i, xI v45.i]; let v62 := Ff 950 [(xI (v5.r (x41.r x40.i 5).i 0).i), (xI (v5.r (x41.r x40.i 5).i 1).i), (xI (v5.r (x41.r x40.i 5).i 2).i), (xI (v5.r (x41.r x40.i 5).i 3).i), (xB (v5.r (x41.r x40.i 5).i 4).b), xI 1, (xI (x41.r x40.i 0).i), (xI (x41.r x40.i 1).i), (xI (x41.r x40.i 2).i), xI v43.i, xI v44.i, xI v45.i]; ((((v57.i = v58.i) ∧ ((v59.i = v60.i) ∧ (v61.i = v62.i))) →
(((0 < v46.i) →
((x40.i < x41.i) ∧
((x50.i < v46.i) ∧
(Px 965 [x0, x1, x2, (xI (x40.i + 1)), (aH (ak x41.r x40.i 4 (cp v46.r x50.i 0)) x41.i)] ∧
(((Ff 992 [x0, x1, x2, (xI (x40.i + 1)), (aH (ak x41.r x40.i 4 (cp v46.r x50.i 0)) x41.i)]).i < (Ff 992 [x0, x1, x2, x40, x41]).i) ∧
(0 < (Ff 992 [x0, x1, x2, x40, x41]).i)))))) ∧
((¬ (0 < v46.i)) →
(Px 965 [x0, x1, x2, (xI (x40.i + 1)), x41] ∧
(((Ff 992 [x0, x1, x2, (xI (x40.i + 1)), x41]).i < (Ff 992 [x0, x1, x2, x40, x41]).i) ∧
(0 < (Ff 992 [x0, x1, x2, x40, x41]).i)))))) ∧
((¬ ((v57.i = v58.i) ∧ ((v59.i = v60.i) ∧ (v61.i = v62.i)))) →
(Px 966 [x0, x1, x2, x40, (xI (x50.i + 1))] ∧
(((Ff 993 [x0, x1, x2, x40, (xI (x50.i + 1))]).i < (Ff 993 [x0, x1, x2, x40, x50]).i) ∧
(0 < (Ff 993 [x0, x1, x2, x40, x50]).i)))))))))) ∧
((¬ (x50.i < v46.i)) →
(((0 < v46.i) →
((x40.i < x41.i) ∧
((0 < v46.i) ∧
(Px 965 [x0, x1, x2, (xI (x40.i + 1)), (aH (ak x41.r x40.i 4 (cp v46.r 0 0)) x41.i)] ∧
(((Ff 992 [x0, x1, x2, (xI (x40.i + 1)), (aH (ak x41.r x40.i 4 (cp v46.r 0 0)) x41.i)]).i < (Ff 992 [x0, x1, x2, x40, x41]).i) ∧
(0 < (Ff 992 [x0, x1, x2, x40, x41]).i)))))) ∧
((¬ (0 < v46.i)) →
(Px 965 [x0, x1, x2, (xI (x40.i + 1)), x41] ∧
(((Ff 992 [x0, x1, x2, (xI (x40.i + 1)), x41]).i < (Ff 992 [x0, x1, x2, x40, x41]).i) ∧
(0 < (Ff 992 [x0, x1, x2, x40, x41]).i)))))))))))) ∧
((¬ (1 < v46.i)) →
(((0 < v46.i) →
((x40.i < x41.i) ∧
((0 < v46.i) ∧
(Px 965 [x0, x1, x2, (xI (x40.i + 1)), (aH (ak x41.r x40.i 4 (cp v46.r 0 0)) x41.i)] ∧
(((Ff 992 [x0, x1, x2, (xI (x40.i + 1)), (aH (ak x41.r x40.i 4 (cp v46.r 0 0)) x41.i)]).i < (Ff 992 [x0, x1, x2, x40, x41]).i) ∧
(0 < (Ff 992 [x0, x1, x2, x40, x41]).i)))))) ∧
((¬ (0 < v46.i)) →
(Px 965 [x0, x1, x2, (xI (x40.i + 1)), x41] ∧
(((Ff 992 [x0, x1, x2, (xI (x40.i + 1)), x41]).i < (Ff 992 [x0, x1, x2, x40, x41]).i) ∧
(0 < (Ff 992 [x0, x1, x2, x40, x41]).i))))))))))))) ∧
((¬ (x40.i < x21.i)) →
((cR iO (Ff 941 [x0, x1, x2]) v5.r v5.i 3072) ∧ (cR su (Ff 942 [x0, x1, x2]) x41.r x41.i 12288)))))))))))))))))))))
theorem Lq (x0 : X) (x1 : X) (x2 : X) : (bS (fun j => Ff j [x0, x1, x2]) ng.fs ng.res { ρ0 with x := fun j => [x0, x1, x2].getD j (xI 0) } (bP Tryz.prog (ui ij none [] [jo, wy, DW, yB] Ar bq) Tryz.f6 600 ng.args)) = yH x0 x1 x2 := by kernel_rfl
set_option maxHeartbeats 4000000 in
theorem Lr (x0 : X) (x1 : X) (x2 : X) (g0 : 0 ≤ x0.i ∧ x0.i ≤ 8 ∧ au vY x0.r x0.i.toNat) (g1 : Eo 0 x1) (g2 : 0 ≤ x2.i ∧ x2.i ≤ 9223372036854775807 ∧ au Gp x2.r x2.i.toNat) (gp : Px ng.pre.get! [x0, x1, x2]) : yH x0 x1 x2 := by
 unfold yH
 have hp : dQ x0 := gp.1
 have hlen := KN (d := x1) (T := x2) hp
 refine ab ?_ fun o0 => ?_
 ·exact gp
 refine ab ?_ fun o1 => ?_
 ·exact ⟨Int.le_refl 0, Int.natCast_nonneg _, rfl, rfl⟩
 intro x20 x21 x22 h2 r3 p4 v5
 have Vi : v5.i = ((bo x0 x1 x2).length : Nat) := rfl
 obtain ⟨q1, q2, q3, q4⟩ : 0 ≤ x22.i ∧ x20.i ≤ ((bo x0 x1 x2).length : Nat) ∧ ae fA x21 = (List.range (4 * x20.i.toNat)).map (DD (bo x0 x1 x2)) ∧ ae oz x22 = (List.range (4 * x20.i.toNat)).map (DE (bo x0 x1 x2)) := p4
 have e21 : x21.i.toNat = 4 * x20.i.toNat := (oG.1 q3).1
 refine And.intro ?_ ?_
 ·intro h7
  have hq := lW (l := (bo x0 x1 x2)) h2.1 h7
  refine ab ?_ fun o8 => ?_
  ·exact h7
  refine ab ?_ fun o9 => ?_
  ·refine ⟨hp, ?_⟩
   have := KM hp hq.2
   rw [← hq.1] at this
   exact this
  refine ab ?_ fun o10 => ?_
  ·exact ⟨q1, q3, q4⟩
  intro x30 x31 x32 h11 r12 p13 v14
  have c4 : v14.i = 4 := rfl
  have hv : v14.r = (bh BQ (gA ((bo x0 x1 x2).getD x20.i.toNat dq))).r := by rw [← hq.1]; rfl
  obtain ⟨r1, r3', r4⟩ : 0 ≤ x32.i ∧ ae fA x31 = (List.range (4 * x20.i.toNat + x30.i.toNat)).map (DD (bo x0 x1 x2)) ∧ ae oz x32 = (List.range (4 * x20.i.toNat + x30.i.toNat)).map (DE (bo x0 x1 x2)) := p13
  have e31 : x31.i.toNat = 4 * x20.i.toNat + x30.i.toNat := (oG.1 r3').1
  have e32 : x32.i.toNat = 4 * x20.i.toNat + x30.i.toNat := (oG.1 r4).1
  refine And.intro ?_ ?_
  ·intro h16
   refine ab ?_ fun o17 => ?_
   ·exact h16
   refine ab ?_ fun o18 => ?_
   ·omega
   refine ab ?_ fun o19 => ?_
   ·rw [c4]
    omega
   refine ab ?_ fun o20 => ?_
   ·rw [c4]
    omega
   refine ab ?_ fun o21 => ?_
   ·rw [c4]
    omega
   refine ab ?_ fun o22 => ?_
   ·rw [c4]
    omega
   refine ab ?_ fun o23 => ?_
   ·omega
   refine ab ?_ fun o24 => ?_
   ·rw [c4]
    omega
   refine ab ?_ fun o25 => ?_
   ·rw [c4]
    omega
   refine ab ?_ fun o26 => ?_
   ·omega
   refine ab ?_ fun o27 => ?_
   ·exact ⟨show 0 ≤ x32.i + 1 by omega, Hg h11.1 (by omega) h2.1 hv r3' (by omega) (by omega) rfl, Hh h11.1 (by omega) h2.1 hv r4 (by omega) (by omega)⟩
   refine ab ?_ fun o28 => ?_
   ·show (5 : Int) - (x30.i + 1) < 5 - x30.i
    omega
   show (0 : Int) < 5 - x30.i
   omega
  intro h29
  refine ab ?_ fun o30 => ?_
  ·have e : 4 * (x20.i + 1).toNat = 4 * x20.i.toNat + x30.i.toNat := by omega
   refine ⟨r1, show x20.i + 1 ≤ ((bo x0 x1 x2).length : Nat) by omega, ?_, ?_⟩
   ·show ae fA x31 = (List.range (4 * (x20.i + 1).toNat)).map (DD (bo x0 x1 x2))
    rw [e]; exact r3'
   ·show ae oz x32 = (List.range (4 * (x20.i + 1).toNat)).map (DE (bo x0 x1 x2))
    rw [e]; exact r4
  refine ab ?_ fun o31 => ?_
  ·show (4000 : Int) - (x20.i + 1) < 4000 - x20.i
   omega
  show (0 : Int) < 4000 - x20.i
  omega
 intro h32
 have ef : x20.i.toNat = (bo x0 x1 x2).length := by omega
 rw [ef] at q3 q4 e21
 refine ab ?_ fun o33 => ?_
 ·refine ⟨Int.natCast_nonneg _, ?_⟩
  show ae fA x21 = (List.range (4 * (bo x0 x1 x2).length)).map (xU (bo x0 x1 x2) (4 * (bo x0 x1 x2).length) 0)
  rw [PD]
  exact q3
 intro x40 x41 h34 r35 p36
 refine And.intro ?_ ?_
 ·intro h38
  obtain ⟨s1, s2⟩ : x40.i ≤ 4 * ((bo x0 x1 x2).length : Nat) ∧ ae fA x41 = (List.range (4 * (bo x0 x1 x2).length)).map (xU (bo x0 x1 x2) (4 * (bo x0 x1 x2).length) x40.i.toNat) := p36
  obtain ⟨e41, s3⟩ := oG.1 s2
  have hn : x40.i.toNat < 4 * (bo x0 x1 x2).length := by omega
  have c0 := s3 x40.i.toNat hn
  have c1 := s3 (bD x40.i.toNat) (D3 hn)
  have hx := D3 hn
  rw [Int.toNat_of_nonneg h34.1] at c0
  simp only [fA, xU, Prod.mk.injEq] at c0 c1
  obtain ⟨cF, c3, _, c5⟩ := c0
  have cN : cd (x41.r (x41.r x40.i 3).i) = aJ (bo x0 x1 x2) (bD x40.i.toNat) := by rw [c3]; exact c1.1
  have hqn : aQ (v5.r (x41.r x40.i 5).i) = cK (bo x0 x1 x2) x40.i.toNat := by
   have := (lW (l := (bo x0 x1 x2)) (k := (x41.r x40.i 5).i) (by omega) (by rw [fg]; omega)).1
   rw [show (x41.r x40.i 5).i.toNat = x40.i.toNat / 4 by omega] at this
   exact this
  refine ab ?_ fun o39 => ?_
  ·exact ⟨show x40.i < x41.i by omega, show 0 ≤ (x41.r x40.i 3).i by omega, show (x41.r x40.i 3).i < x41.i by omega⟩
  refine ab ?_ fun o40 => ?_
  ·omega
  refine ab ?_ fun o41 => ?_
  ·omega
  refine ab ?_ fun o42 => ?_
  ·omega
  intro v43 v44 v45 v46
  have hb := He (a0 := v43.i) (a1 := v44.i) (a2 := v45.i) (b0 := (x41.r x40.i 0).i) (b1 := (x41.r x40.i 1).i) (b2 := (x41.r x40.i 2).i) q4
  rw [show (v43.i, v44.i, v45.i) = _ from cN, show ((x41.r x40.i 0).i, (x41.r x40.i 1).i, (x41.r x40.i 2).i) = _ from cF] at hb
  have hi : v46.i = ((cO (bo x0 x1 x2) (4 * (bo x0 x1 x2).length) (aJ (bo x0 x1 x2) (bD x40.i.toNat)) (aJ (bo x0 x1 x2) x40.i.toNat)).length : Nat) := by
   show ((kr x22 [v43.i, v44.i, v45.i, (x41.r x40.i 0).i, (x41.r x40.i 1).i, (x41.r x40.i 2).i]).length : Int) = _
   rw [hb, List.length_map]
  have hr : ∀ j : Int, (v46.r j 0).i = (((cO (bo x0 x1 x2) (4 * (bo x0 x1 x2).length) (aJ (bo x0 x1 x2) (bD x40.i.toNat)) (aJ (bo x0 x1 x2) x40.i.toNat)).getD j.toNat 0 : Nat) : Int) := fun j => by
   show (kr x22 [v43.i, v44.i, v45.i, (x41.r x40.i 0).i, (x41.r x40.i 1).i, (x41.r x40.i 2).i]).getD j.toNat 0 = _
   rw [hb, getD_map]
  have hs : ∀ (e : X) (j : Int), e.i = (v46.r j 0).i → iZ (bo x0 x1 x2) (4 * (bo x0 x1 x2).length) x40.i.toNat = (cO (bo x0 x1 x2) (4 * (bo x0 x1 x2).length) (aJ (bo x0 x1 x2) (bD x40.i.toNat)) (aJ (bo x0 x1 x2) x40.i.toNat)).getD j.toNat 0 → Px 965 [x0, x1, x2, (xI (x40.i + 1)), (aH (ak x41.r x40.i 4 e) x41.i)] := fun e j h1 h2 => by
   refine ⟨show x40.i + 1 ≤ 4 * ((bo x0 x1 x2).length : Nat) by omega, ?_⟩
   have := KO s2 hn (e := e) (by rw [h1, hr, h2])
   rw [Int.toNat_of_nonneg h34.1, show x40.i.toNat + 1 = (x40.i + 1).toNat by omega] at this
   exact this
  refine And.intro ?_ ?_
  ·intro h48
   refine ab ?_ fun o49 => ?_
   ·exact fun j hj => absurd hj (Nat.not_lt_zero _)
   intro x50 h50 p51
   refine And.intro ?_ ?_
   ·intro h53
    have bm := Aj (l := (bo x0 x1 x2)) (m := 4 * (bo x0 x1 x2).length) (p := aJ (bo x0 x1 x2) (bD x40.i.toNat)) (r := aJ (bo x0 x1 x2) x40.i.toNat) (j := x50.i.toNat) (by omega)
    have ht := hr x50.i
    have c6 := s3 ((cO (bo x0 x1 x2) (4 * (bo x0 x1 x2).length) (aJ (bo x0 x1 x2) (bD x40.i.toNat)) (aJ (bo x0 x1 x2) x40.i.toNat)).getD x50.i.toNat 0) bm.1
    simp only [fA, xU, Prod.mk.injEq] at c6
    have c7 : (x41.r (v46.r x50.i 0).i 5).i = (((cO (bo x0 x1 x2) (4 * (bo x0 x1 x2).length) (aJ (bo x0 x1 x2) (bD x40.i.toNat)) (aJ (bo x0 x1 x2) x40.i.toNat)).getD x50.i.toNat 0) / 4 : Nat) := by rw [ht]; exact c6.2.2.2
    have hqt : aQ (v5.r (x41.r (v46.r x50.i 0).i 5).i) = cK (bo x0 x1 x2) ((cO (bo x0 x1 x2) (4 * (bo x0 x1 x2).length) (aJ (bo x0 x1 x2) (bD x40.i.toNat)) (aJ (bo x0 x1 x2) x40.i.toNat)).getD x50.i.toNat 0) := by
     have := (lW (l := (bo x0 x1 x2)) (k := (x41.r (v46.r x50.i 0).i 5).i) (by omega) (by rw [fg]; omega)).1
     rw [show (x41.r (v46.r x50.i 0).i 5).i.toNat = ((cO (bo x0 x1 x2) (4 * (bo x0 x1 x2).length) (aJ (bo x0 x1 x2) (bD x40.i.toNat)) (aJ (bo x0 x1 x2) x40.i.toNat)).getD x50.i.toNat 0) / 4 by omega] at this
     exact this
    refine ab ?_ fun o54 => ?_
    ·exact h53
    refine ab ?_ fun o55 => ?_
    ·omega
    refine ab ?_ fun o56 => ?_
    ·omega
    intro v57 v58 v59 v60 v61 v62
    have w1 : (v57.i, v59.i, v61.i) = dY (cK (bo x0 x1 x2) ((cO (bo x0 x1 x2) (4 * (bo x0 x1 x2).length) (aJ (bo x0 x1 x2) (bD x40.i.toNat)) (aJ (bo x0 x1 x2) x40.i.toNat)).getD x50.i.toNat 0)) (aJ (bo x0 x1 x2) x40.i.toNat) (aJ (bo x0 x1 x2) (bD x40.i.toNat)) := by
     rw [← hqt, ← cF, ← cN]; rfl
    have w2 : (v58.i, v60.i, v62.i) = dY (cK (bo x0 x1 x2) x40.i.toNat) (aJ (bo x0 x1 x2) x40.i.toNat) (aJ (bo x0 x1 x2) (bD x40.i.toNat)) := by
     rw [← cF, ← cN, ← hqn]; rfl
    refine And.intro ?_ ?_
    ·intro h64
     refine And.intro ?_ ?_
     ·intro h66
      refine ab ?_ fun o67 => ?_
      ·omega
      refine ab ?_ fun o68 => ?_
      ·exact h53
      refine ab ?_ fun o69 => ?_
      ·exact hs _ x50.i rfl (Hj rfl (by omega) (by omega) p51 (w1.symm.trans (Eq.trans (by rw [h64.1, h64.2.1, h64.2.2]) w2)))
      refine ab ?_ fun o70 => ?_
      ·show (20000 : Int) - (x40.i + 1) < 20000 - x40.i
       omega
      show (0 : Int) < 20000 - x40.i
      omega
     intro h71
     refine ab ?_ fun o72 => ?_
     ·exact absurd (by omega : 0 < v46.i) h71
     refine ab ?_ fun o73 => ?_
     ·show (20000 : Int) - (x40.i + 1) < 20000 - x40.i
      omega
     show (0 : Int) < 20000 - x40.i
     omega
    intro h74
    refine ab ?_ fun o75 => ?_
    ·intro j hj
     have hj : j < (x50.i + 1).toNat := hj
     by_cases hc : j < x50.i.toNat
     ·exact p51 j hc
     ·obtain rfl : j = x50.i.toNat := by omega
      intro he
      have := w1.trans (he.trans w2.symm)
      simp only [Prod.mk.injEq] at this
      exact h74 this
    refine ab ?_ fun o76 => ?_
    ·show (2000000 : Int) - (x50.i + 1) < 2000000 - x50.i
     omega
    show (0 : Int) < 2000000 - x50.i
    omega
   intro h77
   refine And.intro ?_ ?_
   ·intro h79
    refine ab ?_ fun o80 => ?_
    ·omega
    refine ab ?_ fun o81 => ?_
    ·exact h79
    refine ab ?_ fun o82 => ?_
    ·exact hs _ 0 rfl (D4 rfl (by omega) fun j hj => p51 j (by omega))
    refine ab ?_ fun o83 => ?_
    ·show (20000 : Int) - (x40.i + 1) < 20000 - x40.i
     omega
    show (0 : Int) < 20000 - x40.i
    omega
   intro h84
   refine ab ?_ fun o85 => ?_
   ·exact absurd (by omega : 0 < v46.i) h84
   refine ab ?_ fun o86 => ?_
   ·show (20000 : Int) - (x40.i + 1) < 20000 - x40.i
    omega
   show (0 : Int) < 20000 - x40.i
   omega
  intro h87
  refine And.intro ?_ ?_
  ·intro h89
   refine ab ?_ fun o90 => ?_
   ·omega
   refine ab ?_ fun o91 => ?_
   ·exact h89
   refine ab ?_ fun o92 => ?_
   ·exact hs _ 0 rfl (Ak (by omega))
   refine ab ?_ fun o93 => ?_
   ·show (20000 : Int) - (x40.i + 1) < 20000 - x40.i
    omega
   show (0 : Int) < 20000 - x40.i
   omega
  intro h94
  refine ab ?_ fun o95 => ?_
  ·refine ⟨show x40.i + 1 ≤ 4 * ((bo x0 x1 x2).length : Nat) by omega, ?_⟩
   have := Hi s2 hn (by
    rw [Ak (by omega), List.getD_eq_getElem?_getD, List.getElem?_eq_none (by omega)]
    rfl)
   rw [show x40.i.toNat + 1 = (x40.i + 1).toNat by omega] at this
   exact this
  refine ab ?_ fun o96 => ?_
  ·show (20000 : Int) - (x40.i + 1) < 20000 - x40.i
   omega
  show (0 : Int) < 20000 - x40.i
  omega
 intro h97
 obtain ⟨s1, s2⟩ : x40.i ≤ 4 * ((bo x0 x1 x2).length : Nat) ∧ ae fA x41 = (List.range (4 * (bo x0 x1 x2).length)).map (xU (bo x0 x1 x2) (4 * (bo x0 x1 x2).length) x40.i.toNat) := p36
 rw [show x40.i.toNat = 4 * (bo x0 x1 x2).length by omega] at s2
 exact ⟨fM (dec := aQ) (fun f => ⟨rfl, rfl, rfl, rfl, rfl, rfl, trivial⟩) (by omega) (by omega) (eu gG _), fM (dec := fA) (fun f => ⟨rfl, rfl, rfl, rfl, rfl, rfl, trivial⟩) (by omega) (by omega) s2⟩
theorem KJ : aZ Tryz.prog ρ0 ng := by
 refine dm (cf := ui ij none [] [jo, wy, DW, yB] Ar bq) (ib vZ bt ((((bw.cons Qx Qy).cons Q5 Q6).cons Qh Qi).cons Ln Lo) kO) Tryz.func6 rfl 600 rfl fun ds hr hp => ?_
 have hr := aA hr
 match ds, hr, hp with
 | [d0, d1, d2], hr, hp =>
  obtain ⟨l0, l1, l2, _⟩ := hr
  generalize d0 = x0, d1 = x1, d2 = x2 at *
  exact Eq.mpr (Lq x0 x1 x2) (Lr x0 x1 x2 l0 l1 l2 hp)
theorem Qz : Hs ng.f := ⟨_, Tryz.func6, by kernel_rfl, by kernel_rfl⟩
end Vc
end Go.Proofs.YtpmfkelglmgddaaGreatDoor
