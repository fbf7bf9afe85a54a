/- Contracts of functions, each out of one walk. -/
import Derived.Test.YtpmfkelglmgddaaGreatDoorTcN
import Derived.Test.YtpmfkelglmgddaaGreatDoorTcI
import Derived.Test.YtpmfkelglmgddaaGreatDoorTcBP
namespace Go.Proofs.YtpmfkelglmgddaaGreatDoor
namespace Vc
open Go Go.RowKit
set_option linter.unusedVariables false
def Qu (x0 : X) (x1 : X) (x2 : Int) : Prop :=
(((x1.r x2 3).i < x1.i) ∧
((x2 < x1.i) ∧
((rI ((x1.r (x1.r x2 3).i 0).i) (Ff 945 [x0, x1, xI x2]).i (-1000) 1000) ∧ ((rI ((x1.r (x1.r x2 3).i 1).i) (Ff 946 [x0, x1, xI x2]).i (-1000) 1000) ∧ (rI ((x1.r (x1.r x2 3).i 2).i) (Ff 947 [x0, x1, xI x2]).i (-1000) 1000)))))
theorem RN (x0 : X) (x1 : X) (x2 : Int) : (bS (fun j => Ff j [x0, x1, xI x2]) DW.fs DW.res { ρ0 with x := fun j => [x0, x1, xI x2].getD j (xI 0) } (bP Tryz.prog (gx none [] [] [] bq) Tryz.f20 600 DW.args)) = Qu x0 x1 x2 := by kernel_rfl
set_option maxHeartbeats 4000000 in
theorem RO (x0 : X) (x1 : X) (x2 : Int) (g0 : 0 ≤ x0.i ∧ x0.i ≤ 3072 ∧ au iO x0.r x0.i.toNat) (g1 : 0 ≤ x1.i ∧ x1.i ≤ 12288 ∧ au su x1.r x1.i.toNat) (g2 : 0 ≤ x2 ∧ x2 ≤ 12287) (gp : Px DW.pre.get! [x0, x1, xI x2]) : Qu x0 x1 x2 := by
 unfold Qu
 obtain ⟨g1', g2', g3'⟩ := gp
 refine ab ?_ fun o0 => ?_
 ·exact g3'
 refine ab ?_ fun o1 => ?_
 ·exact g1'
 have e := KL g1.2.2 g2' g3'
 simp only [su, oF, dM] at e
 obtain ⟨e0, e1', e2, _⟩ := e
 exact ⟨aD rfl e0, aD rfl e1', aD rfl e2⟩
theorem Q5 : aZ Tryz.prog ρ0 DW := by
 refine dm (cf := gx none [] [] [] bq) (cI bt bw kO) Tryz.func20 rfl 600 rfl fun ds hr hp => ?_
 have hr := aA hr
 match ds, hr, hp with
 | [d0, d1, d2], hr, hp =>
  obtain ⟨l0, l1, ⟨e2, l2, u2⟩, _⟩ := hr
  generalize d0 = x0, d1 = x1, d2.i = x2 at *
  subst e2
  exact Eq.mpr (RN x0 x1 x2) (RO x0 x1 x2 l0 l1 ⟨l2, u2⟩ hp)
theorem Q6 : Hs DW.f := ⟨_, Tryz.func20, by kernel_rfl, by kernel_rfl⟩
def Lp (x0 x1 x2 x3 : Int) (x4 : Bool) (x5 x6 x7 x8 x9 x10 x11 : Int) : Prop :=
 let A := [xI x0, xI x1, xI x2, xI x3, xB x4, xI x5, xI x6, xI x7, xI x8, xI x9, xI x10, xI x11]; (((x4 = true) →
(((x3 = 0) →
((((x7 = x10) ∧ (x1 < (min x7 x10))) →
((((x8 = x11) ∧ (x2 < (min x8 x11))) →
((rI ((min x6 x9) + (-1)) (Ff 948 A).i (-1001) 1000) ∧ ((rI ((min x7 x10) + (-1)) (Ff 949 A).i (-1001) 1000) ∧ (rI ((min x8 x11) + (-1)) (Ff 950 A).i (-1001) 1000)))) ∧
((¬ ((x8 = x11) ∧ (x2 < (min x8 x11)))) →
((rI ((min x6 x9) + (-1)) (Ff 948 A).i (-1001) 1000) ∧ ((rI ((min x7 x10) + (-1)) (Ff 949 A).i (-1001) 1000) ∧ (rI (min x8 x11) (Ff 950 A).i (-1001) 1000)))))) ∧
((¬ ((x7 = x10) ∧ (x1 < (min x7 x10)))) →
((((x8 = x11) ∧ (x2 < (min x8 x11))) →
((rI ((min x6 x9) + (-1)) (Ff 948 A).i (-1001) 1000) ∧ ((rI (min x7 x10) (Ff 949 A).i (-1001) 1000) ∧ (rI ((min x8 x11) + (-1)) (Ff 950 A).i (-1001) 1000)))) ∧
((¬ ((x8 = x11) ∧ (x2 < (min x8 x11)))) →
((rI ((min x6 x9) + (-1)) (Ff 948 A).i (-1001) 1000) ∧ ((rI (min x7 x10) (Ff 949 A).i (-1001) 1000) ∧ (rI (min x8 x11) (Ff 950 A).i (-1001) 1000)))))))) ∧
(((x3 = 1) →
((((x6 = x9) ∧ (x0 < (min x6 x9))) →
((((x8 = x11) ∧ (x2 < (min x8 x11))) →
((rI ((min x6 x9) + (-1)) (Ff 948 A).i (-1001) 1000) ∧ ((rI ((min x7 x10) + (-1)) (Ff 949 A).i (-1001) 1000) ∧ (rI ((min x8 x11) + (-1)) (Ff 950 A).i (-1001) 1000)))) ∧
((¬ ((x8 = x11) ∧ (x2 < (min x8 x11)))) →
((rI ((min x6 x9) + (-1)) (Ff 948 A).i (-1001) 1000) ∧ ((rI ((min x7 x10) + (-1)) (Ff 949 A).i (-1001) 1000) ∧ (rI (min x8 x11) (Ff 950 A).i (-1001) 1000)))))) ∧
((¬ ((x6 = x9) ∧ (x0 < (min x6 x9)))) →
((((x8 = x11) ∧ (x2 < (min x8 x11))) →
((rI (min x6 x9) (Ff 948 A).i (-1001) 1000) ∧ ((rI ((min x7 x10) + (-1)) (Ff 949 A).i (-1001) 1000) ∧ (rI ((min x8 x11) + (-1)) (Ff 950 A).i (-1001) 1000)))) ∧
((¬ ((x8 = x11) ∧ (x2 < (min x8 x11)))) →
((rI (min x6 x9) (Ff 948 A).i (-1001) 1000) ∧ ((rI ((min x7 x10) + (-1)) (Ff 949 A).i (-1001) 1000) ∧ (rI (min x8 x11) (Ff 950 A).i (-1001) 1000)))))))) ∧
(((x3 = 2) →
((((x6 = x9) ∧ (x0 < (min x6 x9))) →
((((x7 = x10) ∧ (x1 < (min x7 x10))) →
((rI ((min x6 x9) + (-1)) (Ff 948 A).i (-1001) 1000) ∧ ((rI ((min x7 x10) + (-1)) (Ff 949 A).i (-1001) 1000) ∧ (rI ((min x8 x11) + (-1)) (Ff 950 A).i (-1001) 1000)))) ∧
((¬ ((x7 = x10) ∧ (x1 < (min x7 x10)))) →
((rI ((min x6 x9) + (-1)) (Ff 948 A).i (-1001) 1000) ∧ ((rI (min x7 x10) (Ff 949 A).i (-1001) 1000) ∧ (rI ((min x8 x11) + (-1)) (Ff 950 A).i (-1001) 1000)))))) ∧
((¬ ((x6 = x9) ∧ (x0 < (min x6 x9)))) →
((((x7 = x10) ∧ (x1 < (min x7 x10))) →
((rI (min x6 x9) (Ff 948 A).i (-1001) 1000) ∧ ((rI ((min x7 x10) + (-1)) (Ff 949 A).i (-1001) 1000) ∧ (rI ((min x8 x11) + (-1)) (Ff 950 A).i (-1001) 1000)))) ∧
((¬ ((x7 = x10) ∧ (x1 < (min x7 x10)))) →
((rI (min x6 x9) (Ff 948 A).i (-1001) 1000) ∧ ((rI (min x7 x10) (Ff 949 A).i (-1001) 1000) ∧ (rI ((min x8 x11) + (-1)) (Ff 950 A).i (-1001) 1000)))))))) ∧
 True)))) ∧
((¬ (x4 = true)) →
((((¬ ((0 : Int) = x3)) ∧ ((x6 = x9) ∧ (x0 < (min x6 x9)))) →
((((¬ ((1 : Int) = x3)) ∧ ((x7 = x10) ∧ (x1 < (min x7 x10)))) →
((((¬ ((2 : Int) = x3)) ∧ ((x8 = x11) ∧ (x2 < (min x8 x11)))) →
((rI ((min x6 x9) + (-1)) (Ff 948 A).i (-1001) 1000) ∧ ((rI ((min x7 x10) + (-1)) (Ff 949 A).i (-1001) 1000) ∧ (rI ((min x8 x11) + (-1)) (Ff 950 A).i (-1001) 1000)))) ∧
((¬ ((¬ ((2 : Int) = x3)) ∧ ((x8 = x11) ∧ (x2 < (min x8 x11))))) →
((rI ((min x6 x9) + (-1)) (Ff 948 A).i (-1001) 1000) ∧ ((rI ((min x7 x10) + (-1)) (Ff 949 A).i (-1001) 1000) ∧ (rI (min x8 x11) (Ff 950 A).i (-1001) 1000)))))) ∧
((¬ ((¬ ((1 : Int) = x3)) ∧ ((x7 = x10) ∧ (x1 < (min x7 x10))))) →
((((¬ ((2 : Int) = x3)) ∧ ((x8 = x11) ∧ (x2 < (min x8 x11)))) →
((rI ((min x6 x9) + (-1)) (Ff 948 A).i (-1001) 1000) ∧ ((rI (min x7 x10) (Ff 949 A).i (-1001) 1000) ∧ (rI ((min x8 x11) + (-1)) (Ff 950 A).i (-1001) 1000)))) ∧
((¬ ((¬ ((2 : Int) = x3)) ∧ ((x8 = x11) ∧ (x2 < (min x8 x11))))) →
((rI ((min x6 x9) + (-1)) (Ff 948 A).i (-1001) 1000) ∧ ((rI (min x7 x10) (Ff 949 A).i (-1001) 1000) ∧ (rI (min x8 x11) (Ff 950 A).i (-1001) 1000)))))))) ∧
((¬ ((¬ ((0 : Int) = x3)) ∧ ((x6 = x9) ∧ (x0 < (min x6 x9))))) →
((((¬ ((1 : Int) = x3)) ∧ ((x7 = x10) ∧ (x1 < (min x7 x10)))) →
((((¬ ((2 : Int) = x3)) ∧ ((x8 = x11) ∧ (x2 < (min x8 x11)))) →
((rI (min x6 x9) (Ff 948 A).i (-1001) 1000) ∧ ((rI ((min x7 x10) + (-1)) (Ff 949 A).i (-1001) 1000) ∧ (rI ((min x8 x11) + (-1)) (Ff 950 A).i (-1001) 1000)))) ∧
((¬ ((¬ ((2 : Int) = x3)) ∧ ((x8 = x11) ∧ (x2 < (min x8 x11))))) →
((rI (min x6 x9) (Ff 948 A).i (-1001) 1000) ∧ ((rI ((min x7 x10) + (-1)) (Ff 949 A).i (-1001) 1000) ∧ (rI (min x8 x11) (Ff 950 A).i (-1001) 1000)))))) ∧
((¬ ((¬ ((1 : Int) = x3)) ∧ ((x7 = x10) ∧ (x1 < (min x7 x10))))) →
((((¬ ((2 : Int) = x3)) ∧ ((x8 = x11) ∧ (x2 < (min x8 x11)))) →
((rI (min x6 x9) (Ff 948 A).i (-1001) 1000) ∧ ((rI (min x7 x10) (Ff 949 A).i (-1001) 1000) ∧ (rI ((min x8 x11) + (-1)) (Ff 950 A).i (-1001) 1000)))) ∧
((¬ ((¬ ((2 : Int) = x3)) ∧ ((x8 = x11) ∧ (x2 < (min x8 x11))))) →
((rI (min x6 x9) (Ff 948 A).i (-1001) 1000) ∧ ((rI (min x7 x10) (Ff 949 A).i (-1001) 1000) ∧ (rI (min x8 x11) (Ff 950 A).i (-1001) 1000)))))))))))
theorem Qv (x0 x1 x2 x3 : Int) (x4 : Bool) (x5 x6 x7 x8 x9 x10 x11 : Int) : (bS (fun j => Ff j [xI x0, xI x1, xI x2, xI x3, xB x4, xI x5, xI x6, xI x7, xI x8, xI x9, xI x10, xI x11]) yB.fs yB.res { ρ0 with x := fun j => [xI x0, xI x1, xI x2, xI x3, xB x4, xI x5, xI x6, xI x7, xI x8, xI x9, xI x10, xI x11].getD j (xI 0) } (bP Tryz.prog (gx none [] [] [] bq) Tryz.f21 600 yB.args)) = Lp x0 x1 x2 x3 x4 x5 x6 x7 x8 x9 x10 x11 := by kernel_rfl
set_option maxHeartbeats 4000000 in
theorem Qw (x0 x1 x2 x3 : Int) (x4 : Bool) (x5 x6 x7 x8 x9 x10 x11 : Int) (g0 : -9 ≤ x0 ∧ x0 ≤ 9) (g1 : -9 ≤ x1 ∧ x1 ≤ 9) (g2 : -9 ≤ x2 ∧ x2 ≤ 9) (g3 : 0 ≤ x3 ∧ x3 ≤ 2) (g5 : 1 ≤ x5 ∧ x5 ≤ 1) (g6 : -1000 ≤ x6 ∧ x6 ≤ 1000) (g7 : -1000 ≤ x7 ∧ x7 ≤ 1000) (g8 : -1000 ≤ x8 ∧ x8 ≤ 1000) (g9 : -1000 ≤ x9 ∧ x9 ≤ 1000) (g10 : -1000 ≤ x10 ∧ x10 ≤ 1000) (g11 : -1000 ≤ x11 ∧ x11 ≤ 1000) : Lp x0 x1 x2 x3 x4 x5 x6 x7 x8 x9 x10 x11 := by
 unfold Lp
 intro A
 refine And.intro ?_ ?_
 ·intro h1
  refine And.intro ?_ ?_
  ·intro h3
   refine And.intro ?_ ?_
   ·intro h5
    refine And.intro ?_ ?_
    ·intro h7
     refine ⟨aD ?_ (by omega), aD ?_ (by omega), aD ?_ (by omega)⟩
     ·exact (bG (k := 0) (q := x0) (p := x6) (r := x9) (a := x3) (u := x4) h1).trans (by split <;> (try split) <;> omega)
     ·exact (bG (k := 1) (q := x1) (p := x7) (r := x10) (a := x3) (u := x4) h1).trans (by split <;> (try split) <;> omega)
     ·exact (bG (k := 2) (q := x2) (p := x8) (r := x11) (a := x3) (u := x4) h1).trans (by split <;> (try split) <;> omega)
    intro h8
    refine ⟨aD ?_ (by omega), aD ?_ (by omega), aD ?_ (by omega)⟩
    ·exact (bG (k := 0) (q := x0) (p := x6) (r := x9) (a := x3) (u := x4) h1).trans (by split <;> (try split) <;> omega)
    ·exact (bG (k := 1) (q := x1) (p := x7) (r := x10) (a := x3) (u := x4) h1).trans (by split <;> (try split) <;> omega)
    ·exact (bG (k := 2) (q := x2) (p := x8) (r := x11) (a := x3) (u := x4) h1).trans (by split <;> (try split) <;> omega)
   intro h9
   refine And.intro ?_ ?_
   ·intro h11
    refine ⟨aD ?_ (by omega), aD ?_ (by omega), aD ?_ (by omega)⟩
    ·exact (bG (k := 0) (q := x0) (p := x6) (r := x9) (a := x3) (u := x4) h1).trans (by split <;> (try split) <;> omega)
    ·exact (bG (k := 1) (q := x1) (p := x7) (r := x10) (a := x3) (u := x4) h1).trans (by split <;> (try split) <;> omega)
    ·exact (bG (k := 2) (q := x2) (p := x8) (r := x11) (a := x3) (u := x4) h1).trans (by split <;> (try split) <;> omega)
   intro h12
   refine ⟨aD ?_ (by omega), aD ?_ (by omega), aD ?_ (by omega)⟩
   ·exact (bG (k := 0) (q := x0) (p := x6) (r := x9) (a := x3) (u := x4) h1).trans (by split <;> (try split) <;> omega)
   ·exact (bG (k := 1) (q := x1) (p := x7) (r := x10) (a := x3) (u := x4) h1).trans (by split <;> (try split) <;> omega)
   ·exact (bG (k := 2) (q := x2) (p := x8) (r := x11) (a := x3) (u := x4) h1).trans (by split <;> (try split) <;> omega)
  refine And.intro ?_ ?_
  ·intro h14
   refine And.intro ?_ ?_
   ·intro h16
    refine And.intro ?_ ?_
    ·intro h18
     refine ⟨aD ?_ (by omega), aD ?_ (by omega), aD ?_ (by omega)⟩
     ·exact (bG (k := 0) (q := x0) (p := x6) (r := x9) (a := x3) (u := x4) h1).trans (by split <;> (try split) <;> omega)
     ·exact (bG (k := 1) (q := x1) (p := x7) (r := x10) (a := x3) (u := x4) h1).trans (by split <;> (try split) <;> omega)
     ·exact (bG (k := 2) (q := x2) (p := x8) (r := x11) (a := x3) (u := x4) h1).trans (by split <;> (try split) <;> omega)
    intro h19
    refine ⟨aD ?_ (by omega), aD ?_ (by omega), aD ?_ (by omega)⟩
    ·exact (bG (k := 0) (q := x0) (p := x6) (r := x9) (a := x3) (u := x4) h1).trans (by split <;> (try split) <;> omega)
    ·exact (bG (k := 1) (q := x1) (p := x7) (r := x10) (a := x3) (u := x4) h1).trans (by split <;> (try split) <;> omega)
    ·exact (bG (k := 2) (q := x2) (p := x8) (r := x11) (a := x3) (u := x4) h1).trans (by split <;> (try split) <;> omega)
   intro h20
   refine And.intro ?_ ?_
   ·intro h22
    refine ⟨aD ?_ (by omega), aD ?_ (by omega), aD ?_ (by omega)⟩
    ·exact (bG (k := 0) (q := x0) (p := x6) (r := x9) (a := x3) (u := x4) h1).trans (by split <;> (try split) <;> omega)
    ·exact (bG (k := 1) (q := x1) (p := x7) (r := x10) (a := x3) (u := x4) h1).trans (by split <;> (try split) <;> omega)
    ·exact (bG (k := 2) (q := x2) (p := x8) (r := x11) (a := x3) (u := x4) h1).trans (by split <;> (try split) <;> omega)
   intro h23
   refine ⟨aD ?_ (by omega), aD ?_ (by omega), aD ?_ (by omega)⟩
   ·exact (bG (k := 0) (q := x0) (p := x6) (r := x9) (a := x3) (u := x4) h1).trans (by split <;> (try split) <;> omega)
   ·exact (bG (k := 1) (q := x1) (p := x7) (r := x10) (a := x3) (u := x4) h1).trans (by split <;> (try split) <;> omega)
   ·exact (bG (k := 2) (q := x2) (p := x8) (r := x11) (a := x3) (u := x4) h1).trans (by split <;> (try split) <;> omega)
  refine And.intro ?_ ?_
  ·intro h25
   refine And.intro ?_ ?_
   ·intro h27
    refine And.intro ?_ ?_
    ·intro h29
     refine ⟨aD ?_ (by omega), aD ?_ (by omega), aD ?_ (by omega)⟩
     ·exact (bG (k := 0) (q := x0) (p := x6) (r := x9) (a := x3) (u := x4) h1).trans (by split <;> (try split) <;> omega)
     ·exact (bG (k := 1) (q := x1) (p := x7) (r := x10) (a := x3) (u := x4) h1).trans (by split <;> (try split) <;> omega)
     ·exact (bG (k := 2) (q := x2) (p := x8) (r := x11) (a := x3) (u := x4) h1).trans (by split <;> (try split) <;> omega)
    intro h30
    refine ⟨aD ?_ (by omega), aD ?_ (by omega), aD ?_ (by omega)⟩
    ·exact (bG (k := 0) (q := x0) (p := x6) (r := x9) (a := x3) (u := x4) h1).trans (by split <;> (try split) <;> omega)
    ·exact (bG (k := 1) (q := x1) (p := x7) (r := x10) (a := x3) (u := x4) h1).trans (by split <;> (try split) <;> omega)
    ·exact (bG (k := 2) (q := x2) (p := x8) (r := x11) (a := x3) (u := x4) h1).trans (by split <;> (try split) <;> omega)
   intro h31
   refine And.intro ?_ ?_
   ·intro h33
    refine ⟨aD ?_ (by omega), aD ?_ (by omega), aD ?_ (by omega)⟩
    ·exact (bG (k := 0) (q := x0) (p := x6) (r := x9) (a := x3) (u := x4) h1).trans (by split <;> (try split) <;> omega)
    ·exact (bG (k := 1) (q := x1) (p := x7) (r := x10) (a := x3) (u := x4) h1).trans (by split <;> (try split) <;> omega)
    ·exact (bG (k := 2) (q := x2) (p := x8) (r := x11) (a := x3) (u := x4) h1).trans (by split <;> (try split) <;> omega)
   intro h34
   refine ⟨aD ?_ (by omega), aD ?_ (by omega), aD ?_ (by omega)⟩
   ·exact (bG (k := 0) (q := x0) (p := x6) (r := x9) (a := x3) (u := x4) h1).trans (by split <;> (try split) <;> omega)
   ·exact (bG (k := 1) (q := x1) (p := x7) (r := x10) (a := x3) (u := x4) h1).trans (by split <;> (try split) <;> omega)
   ·exact (bG (k := 2) (q := x2) (p := x8) (r := x11) (a := x3) (u := x4) h1).trans (by split <;> (try split) <;> omega)
  trivial
 intro h35
 refine And.intro ?_ ?_
 ·intro h37
  refine And.intro ?_ ?_
  ·intro h39
   refine And.intro ?_ ?_
   ·intro h41
    refine ⟨aD ?_ (by omega), aD ?_ (by omega), aD ?_ (by omega)⟩
    ·exact (cL (k := 0) (q := x0) (p := x6) (r := x9) (a := x3) (u := x4) h35).trans (by split <;> (try split) <;> omega)
    ·exact (cL (k := 1) (q := x1) (p := x7) (r := x10) (a := x3) (u := x4) h35).trans (by split <;> (try split) <;> omega)
    ·exact (cL (k := 2) (q := x2) (p := x8) (r := x11) (a := x3) (u := x4) h35).trans (by split <;> (try split) <;> omega)
   intro h42
   refine ⟨aD ?_ (by omega), aD ?_ (by omega), aD ?_ (by omega)⟩
   ·exact (cL (k := 0) (q := x0) (p := x6) (r := x9) (a := x3) (u := x4) h35).trans (by split <;> (try split) <;> omega)
   ·exact (cL (k := 1) (q := x1) (p := x7) (r := x10) (a := x3) (u := x4) h35).trans (by split <;> (try split) <;> omega)
   ·exact (cL (k := 2) (q := x2) (p := x8) (r := x11) (a := x3) (u := x4) h35).trans (by split <;> (try split) <;> omega)
  intro h43
  refine And.intro ?_ ?_
  ·intro h45
   refine ⟨aD ?_ (by omega), aD ?_ (by omega), aD ?_ (by omega)⟩
   ·exact (cL (k := 0) (q := x0) (p := x6) (r := x9) (a := x3) (u := x4) h35).trans (by split <;> (try split) <;> omega)
   ·exact (cL (k := 1) (q := x1) (p := x7) (r := x10) (a := x3) (u := x4) h35).trans (by split <;> (try split) <;> omega)
   ·exact (cL (k := 2) (q := x2) (p := x8) (r := x11) (a := x3) (u := x4) h35).trans (by split <;> (try split) <;> omega)
  intro h46
  refine ⟨aD ?_ (by omega), aD ?_ (by omega), aD ?_ (by omega)⟩
  ·exact (cL (k := 0) (q := x0) (p := x6) (r := x9) (a := x3) (u := x4) h35).trans (by split <;> (try split) <;> omega)
  ·exact (cL (k := 1) (q := x1) (p := x7) (r := x10) (a := x3) (u := x4) h35).trans (by split <;> (try split) <;> omega)
  ·exact (cL (k := 2) (q := x2) (p := x8) (r := x11) (a := x3) (u := x4) h35).trans (by split <;> (try split) <;> omega)
 intro h47
 refine And.intro ?_ ?_
 ·intro h49
  refine And.intro ?_ ?_
  ·intro h51
   refine ⟨aD ?_ (by omega), aD ?_ (by omega), aD ?_ (by omega)⟩
   ·exact (cL (k := 0) (q := x0) (p := x6) (r := x9) (a := x3) (u := x4) h35).trans (by split <;> (try split) <;> omega)
   ·exact (cL (k := 1) (q := x1) (p := x7) (r := x10) (a := x3) (u := x4) h35).trans (by split <;> (try split) <;> omega)
   ·exact (cL (k := 2) (q := x2) (p := x8) (r := x11) (a := x3) (u := x4) h35).trans (by split <;> (try split) <;> omega)
  intro h52
  refine ⟨aD ?_ (by omega), aD ?_ (by omega), aD ?_ (by omega)⟩
  ·exact (cL (k := 0) (q := x0) (p := x6) (r := x9) (a := x3) (u := x4) h35).trans (by split <;> (try split) <;> omega)
  ·exact (cL (k := 1) (q := x1) (p := x7) (r := x10) (a := x3) (u := x4) h35).trans (by split <;> (try split) <;> omega)
  ·exact (cL (k := 2) (q := x2) (p := x8) (r := x11) (a := x3) (u := x4) h35).trans (by split <;> (try split) <;> omega)
 intro h53
 refine And.intro ?_ ?_
 ·intro h55
  refine ⟨aD ?_ (by omega), aD ?_ (by omega), aD ?_ (by omega)⟩
  ·exact (cL (k := 0) (q := x0) (p := x6) (r := x9) (a := x3) (u := x4) h35).trans (by split <;> (try split) <;> omega)
  ·exact (cL (k := 1) (q := x1) (p := x7) (r := x10) (a := x3) (u := x4) h35).trans (by split <;> (try split) <;> omega)
  ·exact (cL (k := 2) (q := x2) (p := x8) (r := x11) (a := x3) (u := x4) h35).trans (by split <;> (try split) <;> omega)
 intro h56
 refine ⟨aD ?_ (by omega), aD ?_ (by omega), aD ?_ (by omega)⟩
 ·exact (cL (k := 0) (q := x0) (p := x6) (r := x9) (a := x3) (u := x4) h35).trans (by split <;> (try split) <;> omega)
 ·exact (cL (k := 1) (q := x1) (p := x7) (r := x10) (a := x3) (u := x4) h35).trans (by split <;> (try split) <;> omega)
 ·exact (cL (k := 2) (q := x2) (p := x8) (r := x11) (a := x3) (u := x4) h35).trans (by split <;> (try split) <;> omega)
theorem Qx : aZ Tryz.prog ρ0 yB := by
 refine db (cf := gx none [] [] [] bq) (cI bt bw kO) Tryz.func21 rfl 600 rfl fun ds hr => ?_
 have hr := aA hr
 match ds, hr with
 | [d0, d1, d2, d3, d4, d5, d6, d7, d8, d9, d10, d11], hr =>
  obtain ⟨⟨e0, l0, u0⟩, ⟨e1, l1, u1⟩, ⟨e2, l2, u2⟩, ⟨e3, l3, u3⟩, e4, ⟨e5, l5, u5⟩, ⟨e6, l6, u6⟩, ⟨e7, l7, u7⟩, ⟨e8, l8, u8⟩, ⟨e9, l9, u9⟩, ⟨e10, l10, u10⟩, ⟨e11, l11, u11⟩, _⟩ := hr
  generalize d0.i = x0, d1.i = x1, d2.i = x2, d3.i = x3 at *
  obtain ⟨x4, rfl⟩ : ∃ x, d4 = xB x := ⟨_, e4⟩
  generalize d5.i = x5, d6.i = x6, d7.i = x7, d8.i = x8, d9.i = x9, d10.i = x10, d11.i = x11 at *
  subst e0 e1 e2 e3 e5 e6 e7 e8 e9 e10 e11
  exact Eq.mpr (Qv x0 x1 x2 x3 x4 x5 x6 x7 x8 x9 x10 x11) (Qw x0 x1 x2 x3 x4 x5 x6 x7 x8 x9 x10 x11 ⟨l0, u0⟩ ⟨l1, u1⟩ ⟨l2, u2⟩ ⟨l3, u3⟩ ⟨l5, u5⟩ ⟨l6, u6⟩ ⟨l7, u7⟩ ⟨l8, u8⟩ ⟨l9, u9⟩ ⟨l10, u10⟩ ⟨l11, u11⟩)
theorem Qy : Hs yB.f := ⟨_, Tryz.func21, by kernel_rfl, by kernel_rfl⟩
end Vc
end Go.Proofs.YtpmfkelglmgddaaGreatDoor
