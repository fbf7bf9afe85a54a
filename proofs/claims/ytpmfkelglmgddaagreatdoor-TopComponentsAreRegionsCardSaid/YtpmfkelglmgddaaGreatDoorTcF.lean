/- Contracts of functions, each out of one walk. -/
import Derived.Test.YtpmfkelglmgddaaGreatDoorTcR
import Derived.Test.YtpmfkelglmgddaaGreatDoorTcE
import Derived.Test.YtpmfkelglmgddaaGreatDoorC07N
import Derived.Test.YtpmfkelglmgddaaGreatDoorC04D
import Derived.Test.YtpmfkelglmgddaaGreatDoorC04E
namespace Go.Proofs.YtpmfkelglmgddaaGreatDoor
namespace Vc
open Go Go.RowKit
set_option linter.unusedVariables false
def Eb (x0 : X) (x1 x2 x3 : Int) : Prop :=
 let A := [x0, xI x1, xI x2, xI x3]; (let v0 := Ff 900 [xI x1, xI x2, xI x3]; (((v0.i < 0) →
(rI (-1) (Ff 901 A).i (-1) 7)) ∧
((¬ (v0.i < 0)) →
(Px 970 (A ++ [xI 0, xI x0.i]) ∧
(∀ x20 : X, (∀ x21 : X, (((0 ≤ x20.i) ∧ (x20.i ≤ 8)) →
(((0 ≤ x21.i) ∧ (x21.i ≤ 8)) →
(Px 970 (A ++ [x20, x21]) →
(((x20.i < x21.i) →
((((x20.i + x21.i) / 2) < x0.i) ∧
(let v11 := Ff 900 [(xI (x0.r ((x20.i + x21.i) / 2) 1).i), (xI (x0.r ((x20.i + x21.i) / 2) 2).i), (xI (x0.r ((x20.i + x21.i) / 2) 3).i)]; (Px 970 (A ++ [(xI (bif (decide ((bif (decide (v11.i < v0.i)) then (-1) else (bif (decide (v0.i < v11.i)) then (1 : Int) else 0)) < 0)) then (((x20.i + x21.i) / 2) + 1) else x20.i)), (xI (bif (decide ((bif (decide (v11.i < v0.i)) then (-1) else (bif (decide (v0.i < v11.i)) then (1 : Int) else 0)) < 0)) then x21.i else ((x20.i + x21.i) / 2)))]) ∧
(((Ff 980 (A ++ [(xI (bif (decide ((bif (decide (v11.i < v0.i)) then (-1) else (bif (decide (v0.i < v11.i)) then (1 : Int) else 0)) < 0)) then (((x20.i + x21.i) / 2) + 1) else x20.i)), (xI (bif (decide ((bif (decide (v11.i < v0.i)) then (-1) else (bif (decide (v0.i < v11.i)) then (1 : Int) else 0)) < 0)) then x21.i else ((x20.i + x21.i) / 2)))])).i < (Ff 980 (A ++ [x20, x21])).i) ∧
(0 < (Ff 980 (A ++ [x20, x21])).i)))))) ∧
((¬ (x20.i < x21.i)) →
(((x20.i < x0.i) →
(x20.i < x0.i)) ∧
(let v17 := Ff 900 [(xI (x0.r x20.i 1).i), (xI (x0.r x20.i 2).i), (xI (x0.r x20.i 3).i)]; (((¬ ((bif (!((decide (x20.i < x0.i)) && (decide ((bif (decide (v17.i < v0.i)) then (-1) else (bif (decide (v0.i < v17.i)) then (1 : Int) else 0)) = 0)))) then (x20.i - 1) else x20.i) < 0)) →
(0 ≤ (bif (!((decide (x20.i < x0.i)) && (decide ((bif (decide (v17.i < v0.i)) then (-1) else (bif (decide (v0.i < v17.i)) then (1 : Int) else 0)) = 0)))) then (x20.i - 1) else x20.i))) ∧
(((¬ ((bif (!((decide (x20.i < x0.i)) && (decide ((bif (decide (v17.i < v0.i)) then (-1) else (bif (decide (v0.i < v17.i)) then (1 : Int) else 0)) = 0)))) then (x20.i - 1) else x20.i) < 0)) →
((bif (!((decide (x20.i < x0.i)) && (decide ((bif (decide (v17.i < v0.i)) then (-1) else (bif (decide (v0.i < v17.i)) then (1 : Int) else 0)) = 0)))) then (x20.i - 1) else x20.i) < x0.i)) ∧
(((((bif (!((decide (x20.i < x0.i)) && (decide ((bif (decide (v17.i < v0.i)) then (-1) else (bif (decide (v0.i < v17.i)) then (1 : Int) else 0)) = 0)))) then (x20.i - 1) else x20.i) < 0) ∨ (¬ (((((((x0.r (bif (!((decide (x20.i < x0.i)) && (decide ((bif (decide (v17.i < v0.i)) then (-1) else (bif (decide (v0.i < v17.i)) then (1 : Int) else 0)) = 0)))) then (x20.i - 1) else x20.i) 1).i ≤ x1) ∧ (x1 < (4 + (x0.r (bif (!((decide (x20.i < x0.i)) && (decide ((bif (decide (v17.i < v0.i)) then (-1) else (bif (decide (v0.i < v17.i)) then (1 : Int) else 0)) = 0)))) then (x20.i - 1) else x20.i) 1).i))) ∧ ((x0.r (bif (!((decide (x20.i < x0.i)) && (decide ((bif (decide (v17.i < v0.i)) then (-1) else (bif (decide (v0.i < v17.i)) then (1 : Int) else 0)) = 0)))) then (x20.i - 1) else x20.i) 2).i ≤ x2)) ∧ (x2 < (4 + (x0.r (bif (!((decide (x20.i < x0.i)) && (decide ((bif (decide (v17.i < v0.i)) then (-1) else (bif (decide (v0.i < v17.i)) then (1 : Int) else 0)) = 0)))) then (x20.i - 1) else x20.i) 2).i))) ∧ ((x0.r (bif (!((decide (x20.i < x0.i)) && (decide ((bif (decide (v17.i < v0.i)) then (-1) else (bif (decide (v0.i < v17.i)) then (1 : Int) else 0)) = 0)))) then (x20.i - 1) else x20.i) 3).i ≤ x3)) ∧ (x3 < (4 + (x0.r (bif (!((decide (x20.i < x0.i)) && (decide ((bif (decide (v17.i < v0.i)) then (-1) else (bif (decide (v0.i < v17.i)) then (1 : Int) else 0)) = 0)))) then (x20.i - 1) else x20.i) 3).i))))) →
(rI (-1) (Ff 901 A).i (-1) 7)) ∧
((¬ (((bif (!((decide (x20.i < x0.i)) && (decide ((bif (decide (v17.i < v0.i)) then (-1) else (bif (decide (v0.i < v17.i)) then (1 : Int) else 0)) = 0)))) then (x20.i - 1) else x20.i) < 0) ∨ (¬ (((((((x0.r (bif (!((decide (x20.i < x0.i)) && (decide ((bif (decide (v17.i < v0.i)) then (-1) else (bif (decide (v0.i < v17.i)) then (1 : Int) else 0)) = 0)))) then (x20.i - 1) else x20.i) 1).i ≤ x1) ∧ (x1 < (4 + (x0.r (bif (!((decide (x20.i < x0.i)) && (decide ((bif (decide (v17.i < v0.i)) then (-1) else (bif (decide (v0.i < v17.i)) then (1 : Int) else 0)) = 0)))) then (x20.i - 1) else x20.i) 1).i))) ∧ ((x0.r (bif (!((decide (x20.i < x0.i)) && (decide ((bif (decide (v17.i < v0.i)) then (-1) else (bif (decide (v0.i < v17.i)) then (1 : Int) else 0)) = 0)))) then (x20.i - 1) else x20.i) 2).i ≤ x2)) ∧ (x2 < (4 + (x0.r (bif (!((decide (x20.i < x0.i)) && (decide ((bif (decide (v17.i < v0.i)) then (-1) else (bif (decide (v0.i < v17.i)) then (1 : Int) else 0)) = 0)))) then (x20.i - 1) else x20.i) 2).i))) ∧ ((x0.r (bif (!((decide (x20.i < x0.i)) && (decide ((bif (decide (v17.i < v0.i)) then (-1) else (bif (decide (v0.i < v17.i)) then (1 : Int) else 0)) = 0)))) then (x20.i - 1) else x20.i) 3).i ≤ x3)) ∧ (x3 < (4 + (x0.r (bif (!((decide (x20.i < x0.i)) && (decide ((bif (decide (v17.i < v0.i)) then (-1) else (bif (decide (v0.i < v17.i)) then (1 : Int) else 0)) = 0)))) then (x20.i - 1) else x20.i) 3).i)))))) →
(rI (bif (!((decide (x20.i < x0.i)) && (decide ((bif (decide (v17.i < v0.i)) then (-1) else (bif (decide (v0.i < v17.i)) then (1 : Int) else 0)) = 0)))) then (x20.i - 1) else x20.i) (Ff 901 A).i (-1) 7))))))))))))))))))
theorem Nn (x0 : X) (x1 x2 x3 : Int) : (bS (fun j => Ff j [x0, xI x1, xI x2, xI x3]) kG.fs kG.res { ρ0 with x := fun j => [x0, xI x1, xI x2, xI x3].getD j (xI 0) } (bP Tryz.prog (gx none [GH] [um] D6 bq) Tryz.f72 600 kG.args)) = Eb x0 x1 x2 x3 := by kernel_rfl
set_option maxHeartbeats 4000000 in
theorem No (x0 : X) (x1 x2 x3 : Int) (g0 : 0 ≤ x0.i ∧ x0.i ≤ 8 ∧ au [.int .i64 (0) (0), .int .i64 (0) (4), .int .i64 (0) (4), .int .i64 (0) (4)] x0.r x0.i.toNat) (g1 : -9223372036854775808 ≤ x1 ∧ x1 ≤ 9223372036854775807) (g2 : -9223372036854775808 ≤ x2 ∧ x2 ≤ 9223372036854775807) (g3 : -9223372036854775808 ≤ x3 ∧ x3 ≤ 9223372036854775807) (gp : Px kG.pre.get! [x0, xI x1, xI x2, xI x3]) : Eb x0 x1 x2 x3 := by
 unfold Eb
 intro A
 have hp : dQ x0 := gp
 intro v0
 have e0 : v0.i = fK x1 x2 x3 := rfl
 refine And.intro ?_ ?_
 ·intro h2
  exact aD (Hr hp (show fK x1 x2 x3 < 0 by omega)) (by decide)
 intro h3
 refine ab ?_ fun o4 => ?_
 ·refine ⟨Int.le_refl _, ?_, Int.le_refl _, fun k h h' => by have h' : k < 0 := h'; omega, fun k h h' => by have h : x0.i ≤ k := h; omega⟩
  show 0 ≤ x0.i
  have := hp.1; omega
 intro x20 x21 h5 h6 p7
 refine And.intro ?_ ?_
 ·intro h9
  refine ab ?_ fun o10 => ?_
  ·have := p7.2.2.1
   have := p7.1
   omega
  intro v11
  have e11 : v11.i = 64 * ((x20.i + x21.i) / 2) := Au hp (by have := p7.1; omega) (by have := p7.2.2.1; have := p7.1; omega)
  refine ab ?_ fun o12 => ?_
  ·obtain ⟨q1, q2, q3, q4, q5⟩ := p7
   rw [Av]
   by_cases hc : v11.i < v0.i
   ·rw [decide_eq_true hc]
    exact ⟨show 0 ≤ (x20.i + x21.i) / 2 + 1 by omega, show (x20.i + x21.i) / 2 + 1 ≤ x21.i by omega, q3, fun k h h' => by have h' : k < (x20.i + x21.i) / 2 + 1 := h'; show 64 * k < fK x1 x2 x3; omega, q5⟩
   ·rw [decide_eq_false hc]
    exact ⟨q1, show x20.i ≤ (x20.i + x21.i) / 2 by omega, show (x20.i + x21.i) / 2 ≤ x0.i by omega, q4, fun k h h' => by have h : (x20.i + x21.i) / 2 ≤ k := h; show fK x1 x2 x3 ≤ 64 * k; omega⟩
  refine ab ?_ fun o13 => ?_
  ·rw [Av]
   by_cases hc : v11.i < v0.i
   ·rw [decide_eq_true hc]
    show x21.i - ((x20.i + x21.i) / 2 + 1) + 1 < x21.i - x20.i + 1
    omega
   ·rw [decide_eq_false hc]
    show (x20.i + x21.i) / 2 - x20.i + 1 < x21.i - x20.i + 1
    omega
  show 0 < x21.i - x20.i + 1
  omega
 intro h14
 refine And.intro ?_ ?_
 ·intro h16
  have := p7.2.2.1
  have := p7.2.1
  omega
 intro v17
 have e17 : x20.i < x0.i → v17.i = 64 * x20.i := fun h => Au hp p7.1 h
 refine And.intro ?_ ?_
 ·intro h19
  have hb : 0 ≤ x20.i ∧ x20.i ≤ x0.i := ⟨p7.1, by have := p7.2.2.1; have := p7.2.1; omega⟩
  have hk := oY (n := x0.i) (a := x20.i) (v := v17.i) (w := v0.i) e17
  rw [hk] at h19 ⊢
  omega
 refine And.intro ?_ ?_
 ·intro h21
  have hb : 0 ≤ x20.i ∧ x20.i ≤ x0.i := ⟨p7.1, by have := p7.2.2.1; have := p7.2.1; omega⟩
  have hk := oY (n := x0.i) (a := x20.i) (v := v17.i) (w := v0.i) e17
  rw [hk] at h21 ⊢
  have := hp.1
  split at h21 <;> split <;> omega
 refine And.intro ?_ ?_
 ·intro h23
  have hb : 0 ≤ x20.i ∧ x20.i ≤ x0.i := ⟨p7.1, by have := p7.2.2.1; have := p7.2.1; omega⟩
  have hk := oY (n := x0.i) (a := x20.i) (v := v17.i) (w := v0.i) e17
  rw [hk] at h23
  refine aD (if_neg fun hc => ?_) (by decide)
  have hc : eh (da x0) x1 x2 x3 = true := hc
  have ht := Ht hp hb.1 hb.2 p7.2.2.2.1 (fun k h h' => p7.2.2.2.2 k (show x21.i ≤ k by omega) h') hc
  have ht : (if x20.i < x0.i ∧ 64 * x20.i = v0.i then x20.i else x20.i - 1) = b7 x1 x2 x3 := ht
  rw [ht] at h23
  have hi : ((x0.r (b7 x1 x2 x3) 1).i ≤ x1 ∧ x1 < (x0.r (b7 x1 x2 x3) 1).i + 4) ∧ ((x0.r (b7 x1 x2 x3) 2).i ≤ x2 ∧ x2 < (x0.r (b7 x1 x2 x3) 2).i + 4) ∧ ((x0.r (b7 x1 x2 x3) 3).i ≤ x3 ∧ x3 < (x0.r (b7 x1 x2 x3) 3).i + 4) := KY hp hc
  have h2 : 0 ≤ b7 x1 x2 x3 := (gm hp hc).2.1
  omega
 intro h24
 have hb : 0 ≤ x20.i ∧ x20.i ≤ x0.i := ⟨p7.1, by have := p7.2.2.1; have := p7.2.1; omega⟩
 have hk := oY (n := x0.i) (a := x20.i) (v := v17.i) (w := v0.i) e17
 rw [hk] at h24 ⊢
 have hn : (if x20.i < x0.i ∧ 64 * x20.i = v0.i then x20.i else x20.i - 1) < x0.i := by
  have := hp.1
  split <;> omega
 have h0 : 0 ≤ (if x20.i < x0.i ∧ 64 * x20.i = v0.i then x20.i else x20.i - 1) := by omega
 refine aD (KZ hp h0 hn ?_) ?_
 ·show ((x0.r (if x20.i < x0.i ∧ 64 * x20.i = v0.i then x20.i else x20.i - 1) 1).i ≤ x1 ∧ x1 < (x0.r (if x20.i < x0.i ∧ 64 * x20.i = v0.i then x20.i else x20.i - 1) 1).i + 4) ∧ ((x0.r (if x20.i < x0.i ∧ 64 * x20.i = v0.i then x20.i else x20.i - 1) 2).i ≤ x2 ∧ x2 < (x0.r (if x20.i < x0.i ∧ 64 * x20.i = v0.i then x20.i else x20.i - 1) 2).i + 4) ∧ ((x0.r (if x20.i < x0.i ∧ 64 * x20.i = v0.i then x20.i else x20.i - 1) 3).i ≤ x3 ∧ x3 < (x0.r (if x20.i < x0.i ∧ 64 * x20.i = v0.i then x20.i else x20.i - 1) 3).i + 4)
  omega
 ·have := hp.1
  omega
theorem Jg : aZ Tryz.prog ρ0 kG := by
 refine dm (cf := gx none [GH] [um] D6 bq) (cI (bt.cons QW QX) (bw.cons MZ M0) kO) Tryz.func72 rfl 600 rfl fun ds hr hp => ?_
 have hr := aA hr
 match ds, hr, hp with
 | [d0, d1, d2, d3], hr, hp =>
  obtain ⟨l0, ⟨e1, l1, u1⟩, ⟨e2, l2, u2⟩, ⟨e3, l3, u3⟩, _⟩ := hr
  generalize d0 = x0, d1.i = x1, d2.i = x2, d3.i = x3 at *
  subst e1 e2 e3
  exact Eq.mpr (Nn x0 x1 x2 x3) (No x0 x1 x2 x3 l0 ⟨l1, u1⟩ ⟨l2, u2⟩ ⟨l3, u3⟩ hp)
theorem Jh : Hs kG.f := ⟨_, Tryz.func72, by kernel_rfl, by kernel_rfl⟩
end Vc
end Go.Proofs.YtpmfkelglmgddaaGreatDoor
