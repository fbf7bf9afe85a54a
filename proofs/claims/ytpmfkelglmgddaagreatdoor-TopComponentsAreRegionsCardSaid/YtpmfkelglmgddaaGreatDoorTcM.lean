/- Contracts of functions, each out of one walk. -/
import Derived.Test.YtpmfkelglmgddaaGreatDoorTcF
import Derived.Test.YtpmfkelglmgddaaGreatDoorC04D
import Derived.Test.YtpmfkelglmgddaaGreatDoorC04E
import Derived.Test.YtpmfkelglmgddaaGreatDoorTcK
namespace Go.Proofs.YtpmfkelglmgddaaGreatDoor
namespace Vc
open Go Go.RowKit
set_option linter.unusedVariables false
def Lc (x0 x1 x2 x3 : Int) (x4 : X) (x5 : Int) : Prop :=
 let A := [xI x0, xI x1, xI x2, xI x3, x4, xI x5]; ((x5 < x4.i) ∧
(let v1 := Ff 270 [xI 0, xI 0, xI 0, xI 4, xI 4, xI 4, xI x5]; let v2 := Ff 271 [xI 0, xI 0, xI 0, xI 4, xI 4, xI 4, xI x5]; let v3 := Ff 272 [xI 0, xI 0, xI 0, xI 4, xI 4, xI 4, xI x5]; ((rI (x1 + v1.i) (Ff 908 A).i 0 8) ∧ ((rI (x2 + v2.i) (Ff 909 A).i 0 8) ∧ ((rI (x3 + v3.i) (Ff 910 A).i 0 8) ∧ ((rI 1 (Ff 911 A).i 1 1) ∧ (rI ((x4.r x5 0).i) (Ff 912 A).i 0 255)))))))
theorem Qo (x0 x1 x2 x3 : Int) (x4 : X) (x5 : Int) : (bS (fun j => Ff j [xI x0, xI x1, xI x2, xI x3, x4, xI x5]) sA.fs sA.res { ρ0 with x := fun j => [xI x0, xI x1, xI x2, xI x3, x4, xI x5].getD j (xI 0) } (bP Tryz.prog (pI [J9]) Tryz.f43 600 sA.args)) = Lc x0 x1 x2 x3 x4 x5 := by kernel_rfl
set_option maxHeartbeats 4000000 in
theorem Qp (x0 x1 x2 x3 : Int) (x4 : X) (x5 : Int) (g0 : 0 ≤ x0 ∧ x0 ≤ 0) (g1 : 0 ≤ x1 ∧ x1 ≤ 4) (g2 : 0 ≤ x2 ∧ x2 ≤ 4) (g3 : 0 ≤ x3 ∧ x3 ≤ 4) (g4 : 0 ≤ x4.i ∧ x4.i ≤ 64 ∧ au [.int .i64 (0) (255)] x4.r x4.i.toNat) (g5 : 0 ≤ x5 ∧ x5 ≤ 63) (gp : Px sA.pre.get! [xI x0, xI x1, xI x2, xI x3, x4, xI x5]) : Lc x0 x1 x2 x3 x4 x5 := by
 unfold Lc
 intro A
 have hl : x4.i = 64 := gp
 obtain ⟨l1, l2, l3⟩ := Ld (i := x5) (by omega)
 refine ab ?_ fun o0 => ?_
 ·omega
 intro v1 v2 v3
 have e1 : v1.i = x5 % 4 := l1
 have e2 : v2.i = x5 / 4 % 4 := l2
 have e3 : v3.i = x5 / 16 := l3
 have hr := (g4.2.2 x5.toNat (by omega)).1
 rw [Int.toNat_of_nonneg (by omega)] at hr
 refine ⟨aD (show x1 + x5 % 4 = _ by omega) (by omega), aD (show x2 + x5 / 4 % 4 = _ by omega) (by omega), aD (show x3 + x5 / 16 = _ by omega) (by omega), aD rfl (by decide), aD rfl hr⟩
theorem Nw : aZ Tryz.prog ρ0 sA := by
 refine dm (cf := pI [J9]) (gh (bt.cons Rw Rx)) Tryz.func43 rfl 600 rfl fun ds hr hp => ?_
 have hr := aA hr
 match ds, hr, hp with
 | [d0, d1, d2, d3, d4, d5], hr, hp =>
  obtain ⟨⟨e0, l0, u0⟩, ⟨e1, l1, u1⟩, ⟨e2, l2, u2⟩, ⟨e3, l3, u3⟩, l4, ⟨e5, l5, u5⟩, _⟩ := hr
  generalize d0.i = x0, d1.i = x1, d2.i = x2, d3.i = x3, d4 = x4, d5.i = x5 at *
  subst e0 e1 e2 e3 e5
  exact Eq.mpr (Qo x0 x1 x2 x3 x4 x5) (Qp x0 x1 x2 x3 x4 x5 ⟨l0, u0⟩ ⟨l1, u1⟩ ⟨l2, u2⟩ ⟨l3, u3⟩ l4 ⟨l5, u5⟩ hp)
theorem Nx : Hs sA.f := ⟨_, Tryz.func43, by kernel_rfl, by kernel_rfl⟩
def Le (x0 : X) (x1 : X) (x2 x3 x4 : Int) : Prop :=
 let A := [x0, x1, xI x2, xI x3, xI x4]; (Px 950 [x0, xI x2, xI x3, xI x4] ∧
(let v1 := Ff 901 [x0, xI x2, xI x3, xI x4]; (((v1.i < 0) →
(((rI 0 (Ff 902 A).i 0 7) ∧ ((rI 0 (Ff 903 A).i 0 7) ∧ ((rI 0 (Ff 904 A).i 0 7) ∧ ((rI 0 (Ff 905 A).i 0 1) ∧ (rI 0 (Ff 906 A).i 0 255))))) ∧ (((false = true) ↔ (Ff 907 A).b = true) ∧ True))) ∧
((¬ (v1.i < 0)) →
((v1.i < x0.i) ∧
(let v6 := Ff 260 [xI 0, xI 0, xI 0, xI 4, xI 4, xI 4, (xI (x2 + ((-1) * (x0.r v1.i 1).i))), (xI (x3 + ((-1) * (x0.r v1.i 2).i))), (xI (x4 + ((-1) * (x0.r v1.i 3).i)))]; ((0 ≤ v6.i) ∧
((v6.i ≤ 63) ∧
(Px 953 [xI 0, (xI (x0.r v1.i 1).i), (xI (x0.r v1.i 2).i), (xI (x0.r v1.i 3).i), (aH (de x1.r (64 * v1.i)) 64), xI v6.i] ∧
((v1.i < (x1.i / 64)) ∧
(let v11 := Ff 908 [xI 0, (xI (x0.r v1.i 1).i), (xI (x0.r v1.i 2).i), (xI (x0.r v1.i 3).i), (aH (de x1.r (64 * v1.i)) 64), xI v6.i]; let v12 := Ff 909 [xI 0, (xI (x0.r v1.i 1).i), (xI (x0.r v1.i 2).i), (xI (x0.r v1.i 3).i), (aH (de x1.r (64 * v1.i)) 64), xI v6.i]; let v13 := Ff 910 [xI 0, (xI (x0.r v1.i 1).i), (xI (x0.r v1.i 2).i), (xI (x0.r v1.i 3).i), (aH (de x1.r (64 * v1.i)) 64), xI v6.i]; let v14 := Ff 912 [xI 0, (xI (x0.r v1.i 1).i), (xI (x0.r v1.i 2).i), (xI (x0.r v1.i 3).i), (aH (de x1.r (64 * v1.i)) 64), xI v6.i]; (((rI v11.i (Ff 902 A).i 0 7) ∧ ((rI v12.i (Ff 903 A).i 0 7) ∧ ((rI v13.i (Ff 904 A).i 0 7) ∧ ((rI 1 (Ff 905 A).i 0 1) ∧ (rI v14.i (Ff 906 A).i 0 255))))) ∧ (((true = true) ↔ (Ff 907 A).b = true) ∧ True)))))))))))))
theorem Qq (x0 : X) (x1 : X) (x2 x3 x4 : Int) : (bS (fun j => Ff j [x0, x1, xI x2, xI x3, xI x4]) wu.fs wu.res { ρ0 with x := fun j => [x0, x1, xI x2, xI x3, xI x4].getD j (xI 0) } (bP Tryz.prog (ui ij none [kP] [kG, sA] [] bq) Tryz.f46 600 wu.args)) = Le x0 x1 x2 x3 x4 := by kernel_rfl
set_option maxHeartbeats 4000000 in
theorem Qr (x0 : X) (x1 : X) (x2 x3 x4 : Int) (g0 : 0 ≤ x0.i ∧ x0.i ≤ 8 ∧ au [.int .i64 (0) (0), .int .i64 (0) (4), .int .i64 (0) (4), .int .i64 (0) (4)] x0.r x0.i.toNat) (g1 : Eo 0 x1) (g2 : -1000 ≤ x2 ∧ x2 ≤ 1000) (g3 : -1000 ≤ x3 ∧ x3 ≤ 1000) (g4 : -1000 ≤ x4 ∧ x4 ≤ 1000) (gp : Px wu.pre.get! [x0, x1, xI x2, xI x3, xI x4]) : Le x0 x1 x2 x3 x4 := by
 unfold Le
 intro A
 have hp : dQ x0 := gp.1
 have hd : x1.i = 64 * x0.i := gp.2
 refine ab ?_ fun o0 => ?_
 ·exact hp
 intro v1
 have e1 : v1.i = pQ (da x0) x2 x3 x4 := rfl
 refine And.intro ?_ ?_
 ·intro h3
  have hc := Ec hp (show pQ (da x0) x2 x3 x4 < 0 by omega)
  have z : ∀ v, BP x0 x2 x3 x4 v = 0 := fun v => HM hc
  exact ⟨⟨aD (z _) (by decide), aD (z _) (by decide), aD (z _) (by decide), aD (z _) (by decide), aD (z _) (by decide)⟩, iff_of_false Bool.false_ne_true (by show ¬ eh (da x0) x2 x3 x4 = true; rw [hc]; exact Bool.false_ne_true), trivial⟩
 intro h4
 obtain ⟨hc, e2⟩ := yC (s := da x0) (x := x2) (y := x3) (z := x4) (by omega)
 obtain ⟨⟨k1, k2, k3⟩, k4, k5⟩ := gm hp hc
 have e3 : v1.i = b7 x2 x3 x4 := e1.trans e2
 obtain ⟨t1, t2, t3⟩ := Am hp hc
 refine ab ?_ fun o5 => ?_
 ·omega
 intro v6
 have e7 : v6.i = x2 % 4 + 4 * (x3 % 4) + 16 * (x4 % 4) := by
  show sP 0 0 0 4 4 4 (x2 + (-1) * (x0.r v1.i 1).i) (x3 + (-1) * (x0.r v1.i 2).i) (x4 + (-1) * (x0.r v1.i 3).i) = _
  rw [e3, t1, t2, t3, Lh (by omega) (by omega) (by omega)]
  omega
 refine ab ?_ fun o7 => ?_
 ·omega
 refine ab ?_ fun o8 => ?_
 ·omega
 refine ab ?_ fun o9 => ?_
 ·exact (rfl : (64 : Int) = 64)
 refine ab ?_ fun o10 => ?_
 ·omega
 intro v11 v12 v13 v14
 have t1' : (x0.r v1.i 1).i = x2 - x2 % 4 := by rw [e3]; exact t1
 have t2' : (x0.r v1.i 2).i = x3 - x3 % 4 := by rw [e3]; exact t2
 have t3' : (x0.r v1.i 3).i = x4 - x4 % 4 := by rw [e3]; exact t3
 have l1 : v11.i = (x0.r v1.i 1).i + v6.i % 4 := rfl
 have l2 : v12.i = (x0.r v1.i 2).i + v6.i / 4 % 4 := rfl
 have l3 : v13.i = (x0.r v1.i 3).i + v6.i / 16 := rfl
 have l5 : v14.i = (x1.r (v6.i + 64 * v1.i) 0).i := rfl
 have z : ∀ v, BP x0 x2 x3 x4 v = v := fun v => Li hc
 have hi : v6.i + 64 * v1.i = cidx x2 x3 x4 := by
  unfold cidx
  omega
 obtain ⟨N, n1, n2, n3, n4⟩ := g1
 have hc0 : 0 ≤ cidx x2 x3 x4 ∧ cidx x2 x3 x4 < x1.i := by omega
 rw [hi] at l5
 have hr := n4 _ hc0.1 hc0.2
 refine ⟨⟨aD (z _ |>.trans ?_) ?_, aD (z _ |>.trans ?_) ?_, aD (z _ |>.trans ?_) ?_, aD (z _) (by show (0 : Int) ≤ 1 ∧ (1 : Int) ≤ 1; omega), aD ((z _).trans l5.symm) (by omega)⟩, iff_of_true rfl hc, trivial⟩
 ·show x2 = _; omega
 ·omega
 ·show x3 = _; omega
 ·omega
 ·show x4 = _; omega
 ·omega
theorem Qs : aZ Tryz.prog ρ0 wu := by
 refine dm (cf := ui ij none [kP] [kG, sA] [] bq) (ib vZ (bt.cons J7 J8) ((bw.cons Nw Nx).cons Jg Jh) kO) Tryz.func46 rfl 600 rfl fun ds hr hp => ?_
 have hr := aA hr
 match ds, hr, hp with
 | [d0, d1, d2, d3, d4], hr, hp =>
  obtain ⟨l0, l1, ⟨e2, l2, u2⟩, ⟨e3, l3, u3⟩, ⟨e4, l4, u4⟩, _⟩ := hr
  generalize d0 = x0, d1 = x1, d2.i = x2, d3.i = x3, d4.i = x4 at *
  subst e2 e3 e4
  exact Eq.mpr (Qq x0 x1 x2 x3 x4) (Qr x0 x1 x2 x3 x4 l0 l1 ⟨l2, u2⟩ ⟨l3, u3⟩ ⟨l4, u4⟩ hp)
theorem Qt : Hs wu.f := ⟨_, Tryz.func46, by kernel_rfl, by kernel_rfl⟩
end Vc
end Go.Proofs.YtpmfkelglmgddaaGreatDoor
