/- The closure that numbers a component, out of one walk. -/
import Derived.Test.YtpmfkelglmgddaaGreatDoorTcBP
namespace Go.Proofs.YtpmfkelglmgddaaGreatDoor
namespace Vc
open Go Go.RowKit
set_option linter.unusedVariables false

def Kp (x0 : Int) (x1 x2 x3 x4 : X) (x5 x6 : Int) : Prop :=
((x5 < x1.i) ∧
((x5 < x4.i) ∧
(Px 967 [x2, x3, x4, x1, (xI x0), (xI x5), (xI x6), (xI (x4.r x5 0).i), (xI 0), (aH (ak x1.r x5 0 (xI x0)) x1.i)] ∧
(∀ x20 : X, (∀ x21 : X, (∀ x22 : X, (((0 ≤ x20.i) ∧ (x20.i ≤ 12287)) →
(((0 ≤ x21.i) ∧ (x21.i ≤ 12288)) →
((0 ≤ x22.i ∧ x22.i ≤ 3072 ∧ au kQ x22.r (x22.i).toNat) →
(Px 967 [x2, x3, x4, x1, (xI x0), (xI x5), (xI x6), x20, x21, x22] →
(((x21.i < x3.i) →
(((x3.r x20.i 4).i < x3.i) ∧
((x20.i < x3.i) ∧
(((x3.r (x3.r x20.i 4).i 5).i < x22.i) ∧
((((x22.r (x3.r (x3.r x20.i 4).i 5).i 0).i < 0) →
(Px 958 [x2, x3, x4, x22, (xI x0), (cp x3.r (x3.r x20.i 4).i 5), (xI (x6 + (-1)))] ∧
((x20.i < x3.i) ∧
((((x3.r x20.i 3).i = (x4.r x5 0).i) →
(let v18 : X := Ff 995 [x2, x3, x4, x22, (xI x0), (cp x3.r (x3.r x20.i 4).i 5), (xI (x6 + (-1)))]; (cR kQ (Ff 995 [x2, x3, x4, x1, xI x0, xI x5, xI x6]) v18.r x22.i 3072))) ∧
((¬ ((x3.r x20.i 3).i = (x4.r x5 0).i)) →
(((x3.r x20.i 3).i ≤ 12287) ∧
(let v21 : X := Ff 995 [x2, x3, x4, x22, (xI x0), (cp x3.r (x3.r x20.i 4).i 5), (xI (x6 + (-1)))]; (Px 967 [x2, x3, x4, x1, (xI x0), (xI x5), (xI x6), (xI (x3.r x20.i 3).i), (xI (x21.i + 1)), (aH v21.r x22.i)] ∧
(((Ff 994 [x2, x3, x4, x1, (xI x0), (xI x5), (xI x6), (xI (x3.r x20.i 3).i), (xI (x21.i + 1)), (aH v21.r x22.i)]).i < (Ff 994 [x2, x3, x4, x1, (xI x0), (xI x5), (xI x6), x20, x21, x22]).i) ∧
(0 < (Ff 994 [x2, x3, x4, x1, (xI x0), (xI x5), (xI x6), x20, x21, x22]).i)))))))))) ∧
((¬ ((x22.r (x3.r (x3.r x20.i 4).i 5).i 0).i < 0)) →
((x20.i < x3.i) ∧
((((x3.r x20.i 3).i = (x4.r x5 0).i) →
(cR kQ (Ff 995 [x2, x3, x4, x1, xI x0, xI x5, xI x6]) x22.r x22.i 3072)) ∧
((¬ ((x3.r x20.i 3).i = (x4.r x5 0).i)) →
(((x3.r x20.i 3).i ≤ 12287) ∧
(Px 967 [x2, x3, x4, x1, (xI x0), (xI x5), (xI x6), (xI (x3.r x20.i 3).i), (xI (x21.i + 1)), x22] ∧
(((Ff 994 [x2, x3, x4, x1, (xI x0), (xI x5), (xI x6), (xI (x3.r x20.i 3).i), (xI (x21.i + 1)), x22]).i < (Ff 994 [x2, x3, x4, x1, (xI x0), (xI x5), (xI x6), x20, x21, x22]).i) ∧
(0 < (Ff 994 [x2, x3, x4, x1, (xI x0), (xI x5), (xI x6), x20, x21, x22]).i))))))))))))) ∧
((¬ (x21.i < x3.i)) →
(cR kQ (Ff 995 [x2, x3, x4, x1, xI x0, xI x5, xI x6]) x22.r x22.i 3072)))))))))))))
theorem O6 (x0 : Int) (x1 x2 x3 x4 : X) (x5 x6 : Int) (ob : Gh) : (bS (fun j => Ff j [x2, x3, x4, x1, xI x0, xI x5, xI x6]) 995 DG { ρ0 with x := fun j => [xI x0, x1, x2, x3, x4, xI x5, xI x6].getD j (xI 0), o := ob } (sx (I7 Tryz.prog (ui (hZ Kq) none [] [] I8 bq) Tryz.f26 600))) = Kp x0 x1 x2 x3 x4 x5 x6 := by kernel_rfl
set_option maxHeartbeats 4000000 in
theorem O7 (x0 : Int) (x1 x2 x3 x4 : X) (x5 x6 : Int) (g0 : 0 ≤ x0 ∧ x0 ≤ 3071) (g1 : 0 ≤ x1.i ∧ x1.i ≤ 3072 ∧ au kQ x1.r x1.i.toNat) (g2 : 0 ≤ x2.i ∧ x2.i ≤ 3072 ∧ au iO x2.r x2.i.toNat) (g3 : 0 ≤ x3.i ∧ x3.i ≤ 12288 ∧ au su x3.r x3.i.toNat) (g4 : 0 ≤ x4.i ∧ x4.i ≤ 3072 ∧ au Ko x4.r x4.i.toNat) (g5 : 0 ≤ x5 ∧ x5 ≤ 3071) (gp : GW x2 x3 x4 x1 x0 x5 x6) (gs : ∀ j : Nat, (j : Int) < x6 → zY j) : Kp x0 x1 x2 x3 x4 x5 x6 := by
  unfold Kp
  obtain ⟨hm, ⟨hF, hF'⟩, hR, hf, hneg, hn, hK, hk⟩ := gp
  obtain ⟨hH, hA⟩ := DH hm g2.1
  have hl : (ae aQ x2).length = x2.i.toNat := aK _ _
  have hx4 : (x4.r x5 0).i = 4 * x5 := hF' x5 hf.1 hf.2
  have hS : (ae cb x1).getD x5.toNat 0 < 0 := by rw [pR hf.1 (by omega)]; exact hneg
  have hK1 : 0 < x6.toNat := by
    have := sQ (g := gN (ae aQ x2)) hn.1 0 x5.toNat _ 0 hS
    omega
  refine ab ?_ fun o0 => ?_
  · omega -- #0
  refine ab ?_ fun o1 => ?_
  · omega -- #1
  refine ab ?_ fun o2 => ?_
  · skip -- #2
    refine ⟨Int.le_refl 0, by decide, by show (x4.r x5 0).i = 4 * x5 + 0; omega, hR, ?_⟩
    show ae cb (aH (ak x1.r x5 0 (xI x0)) x1.i) = _
    rw [GX hf.1]
    rfl
  intro x20
  intro x21
  intro x22
  intro h3
  intro h4
  intro r5
  intro p6
  refine And.intro ?_ ?_
  · intro h8
    obtain ⟨j0, j3, jk, jR, jL⟩ : 0 ≤ x21.i ∧ x21.i ≤ 3 ∧ x20.i = 4 * x5 + x21.i ∧ x22.i = x2.i ∧ ae cb x22 = mU (gN (ae aQ x2)) x0 x6.toNat x5.toNat (ae cb x1) x21.i.toNat := p6
    obtain ⟨a3, a4, a5⟩ := hA x20.i (by omega) (by omega)
    have n20 : x20.i.toNat = 4 * x5.toNat + x21.i.toNat := by omega
    have ht := Kr (l := ae aQ x2) (m := 4 * (ae aQ x2).length) (h := x20.i.toNat) (by omega)
    obtain ⟨_, _, b5⟩ := hA (x3.r x20.i 4).i (by omega) (by omega)
    have hg : (x3.r (x3.r x20.i 4).i 5).i.toNat = gN (ae aQ x2) x5.toNat x21.i.toNat := by
      rw [b5, a4, n20]
      rfl
    rw [n20, uj (by omega)] at a3
    have hs := vX (n := x0) (g := (x3.r (x3.r x20.i 4).i 5).i) (k := (x6 + (-1)).toNat) jR (by omega)
    have hgd : (ae cb x22).getD (x3.r (x3.r x20.i 4).i 5).i.toNat 0 = (x22.r (x3.r (x3.r x20.i 4).i 5).i 0).i := pR (by omega) (by omega)
    have hu := BS (g := gN (ae aQ x2)) (n := x0) x6.toNat x5.toNat (ae cb x1) x21.i.toNat
    rw [← jL, ← hg, hgd] at hu
    refine ab ?_ fun o9 => ?_
    · omega -- #3
    refine ab ?_ fun o10 => ?_
    · omega -- #4
    refine ab ?_ fun o11 => ?_
    · omega -- #5
    refine And.intro ?_ ?_
    · intro h13
      rw [if_pos h13, show x6.toNat - 1 = (x6 + (-1)).toNat by omega, ← hs] at hu
      refine ab ?_ fun o14 => ?_
      · skip -- #6
        refine ⟨⟨hm, ⟨hF, hF'⟩, jR, ⟨show 0 ≤ (x3.r (x3.r x20.i 4).i 5).i by omega, show (x3.r (x3.r x20.i 4).i 5).i < x2.i by omega⟩, h13, hn, show 0 ≤ x6 + (-1) by omega, ?_⟩, gs _ ?_⟩
        · have := sQ (g := gN (ae aQ x2)) hn.1 x6.toNat x5.toNat _ x21.i.toNat hS
          show hY (ae cb x22) ≤ (x6 + (-1)).toNat
          rw [jL]
          omega
        · show (((x6 + (-1)).toNat : Nat) : Int) < x6
          omega
      refine ab ?_ fun o15 => ?_
      · omega -- #7
      refine And.intro ?_ ?_
      · intro h17
        intro v18
        skip -- #8
        refine fM (dec := cb) (enc := BN) (fun f => ⟨rfl, trivial⟩) (by omega) (by omega) ?_
        rw [pS hR]
        show _ = ja (gN (ae aQ x2)) x0 x6.toNat x5.toNat (ae cb x1)
        rw [zZ hK1, show 4 = x21.i.toNat + 1 by omega]
        exact hu.symm
      intro h19
      refine ab ?_ fun o20 => ?_
      · omega -- #9
      intro v21
      refine ab ?_ fun o22 => ?_
      · skip -- #10
        refine ⟨show 0 ≤ x21.i + 1 by omega, show x21.i + 1 ≤ 3 by omega, show (x3.r x20.i 3).i = 4 * x5 + (x21.i + 1) by omega, show x22.i = x2.i from jR, ?_⟩
        show _ = mU (gN (ae aQ x2)) x0 x6.toNat x5.toNat (ae cb x1) (x21.i + 1).toNat
        rw [show (x21.i + 1).toNat = x21.i.toNat + 1 by omega]
        exact hu.symm
      refine ab ?_ fun o23 => ?_
      · skip -- #11
        show (5 : Int) - (x21.i + 1) < 5 - x21.i
        omega
      skip -- #12
      show (0 : Int) < 5 - x21.i
      omega
    intro h24
    rw [if_neg h24] at hu
    refine ab ?_ fun o25 => ?_
    · omega -- #13
    refine And.intro ?_ ?_
    · intro h27
      skip -- #14
      refine fM (dec := cb) (enc := BN) (fun f => ⟨rfl, trivial⟩) (by omega) (by omega) ?_
      rw [pS hR, eW]
      show _ = ja (gN (ae aQ x2)) x0 x6.toNat x5.toNat (ae cb x1)
      rw [zZ hK1, show 4 = x21.i.toNat + 1 by omega]
      exact hu.symm
    intro h28
    refine ab ?_ fun o29 => ?_
    · omega -- #15
    refine ab ?_ fun o30 => ?_
    · skip -- #16
      refine ⟨show 0 ≤ x21.i + 1 by omega, show x21.i + 1 ≤ 3 by omega, show (x3.r x20.i 3).i = 4 * x5 + (x21.i + 1) by omega, show x22.i = x2.i from jR, ?_⟩
      show ae cb x22 = mU (gN (ae aQ x2)) x0 x6.toNat x5.toNat (ae cb x1) (x21.i + 1).toNat
      rw [show (x21.i + 1).toNat = x21.i.toNat + 1 by omega]
      exact hu.symm
    refine ab ?_ fun o31 => ?_
    · skip -- #17
      show (5 : Int) - (x21.i + 1) < 5 - x21.i
      omega
    skip -- #18
    show (0 : Int) < 5 - x21.i
    omega
  intro h32
  obtain ⟨j0, j3, jk, jR, jL⟩ : 0 ≤ x21.i ∧ x21.i ≤ 3 ∧ x20.i = 4 * x5 + x21.i ∧ x22.i = x2.i ∧ ae cb x22 = mU (gN (ae aQ x2)) x0 x6.toNat x5.toNat (ae cb x1) x21.i.toNat := p6
  omega -- #19
theorem O8 : ∀ k : Nat, zY k := fun k => by
  induction k using Nat.strongRecOn with
  | ind k ih => exact DI (cf := ui (hZ Kq) none [] [] I8 bq) (ib (z6 Kq) bt bw kO) 600 fun n R Q H F f ob g0 g1 g2 g3 g4 g5 gp => Eq.mpr (O6 n R Q H F f k ob) (O7 n R Q H F f k g0 g1 g2 g3 g4 g5 gp fun j hj => ih j (by omega))
end Vc
end Go.Proofs.YtpmfkelglmgddaaGreatDoor
