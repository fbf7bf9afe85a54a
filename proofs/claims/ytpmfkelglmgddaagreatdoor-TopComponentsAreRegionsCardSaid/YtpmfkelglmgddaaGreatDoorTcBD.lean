/- Contracts of functions, each out of one walk. -/
import Derived.Test.YtpmfkelglmgddaaGreatDoorTcBB
import Derived.Test.YtpmfkelglmgddaaGreatDoorTcK
import Derived.Test.YtpmfkelglmgddaaGreatDoorTcE
namespace Go.Proofs.YtpmfkelglmgddaaGreatDoor
namespace Vc
open Go Go.RowKit
set_option linter.unusedVariables false
def Ky (x0 x1 x2 x3 x4 : Int) : Prop :=
 let A := [xI x0, xI x1, xI x2, xI x3, xI x4]; (((1 < x4) →
(((2 < x4) →
(((3 < x4) →
(((4 < x4) →
(((5 < x4) →
(((6 < x4) →
(((7 < x4) →
(cR vY (Ff 921 A) (ar 4 [xI 0, xI 0, xI 0, xI 0, xI 0, xI 4, xI 0, xI 0, xI 0, xI 0, xI 4, xI 0, xI 0, xI 4, xI 4, xI 0, xI 0, xI 0, xI 0, xI 4, xI 0, xI 4, xI 0, xI 4, xI 0, xI 0, xI 4, xI 4, xI 0, xI 4, xI 4, xI 4]) 8 8)) ∧
((¬ (7 < x4)) →
(cR vY (Ff 921 A) (ar 4 [xI 0, xI 0, xI 0, xI 0, xI 0, xI 4, xI 0, xI 0, xI 0, xI 0, xI 4, xI 0, xI 0, xI 4, xI 4, xI 0, xI 0, xI 0, xI 0, xI 4, xI 0, xI 4, xI 0, xI 4, xI 0, xI 0, xI 4, xI 4]) 7 8)))) ∧
((¬ (6 < x4)) →
(cR vY (Ff 921 A) (ar 4 [xI 0, xI 0, xI 0, xI 0, xI 0, xI 4, xI 0, xI 0, xI 0, xI 0, xI 4, xI 0, xI 0, xI 4, xI 4, xI 0, xI 0, xI 0, xI 0, xI 4, xI 0, xI 4, xI 0, xI 4]) 6 8)))) ∧
((¬ (5 < x4)) →
(cR vY (Ff 921 A) (ar 4 [xI 0, xI 0, xI 0, xI 0, xI 0, xI 4, xI 0, xI 0, xI 0, xI 0, xI 4, xI 0, xI 0, xI 4, xI 4, xI 0, xI 0, xI 0, xI 0, xI 4]) 5 8)))) ∧
((¬ (4 < x4)) →
(cR vY (Ff 921 A) (ar 4 [xI 0, xI 0, xI 0, xI 0, xI 0, xI 4, xI 0, xI 0, xI 0, xI 0, xI 4, xI 0, xI 0, xI 4, xI 4, xI 0]) 4 8)))) ∧
((¬ (3 < x4)) →
(cR vY (Ff 921 A) (ar 4 [xI 0, xI 0, xI 0, xI 0, xI 0, xI 4, xI 0, xI 0, xI 0, xI 0, xI 4, xI 0]) 3 8)))) ∧
((¬ (2 < x4)) →
(cR vY (Ff 921 A) (ar 4 [xI 0, xI 0, xI 0, xI 0, xI 0, xI 4, xI 0, xI 0]) 2 8)))) ∧
((¬ (1 < x4)) →
(cR vY (Ff 921 A) (ar 4 [xI 0, xI 0, xI 0, xI 0]) 1 8)))
theorem Ph (x0 x1 x2 x3 x4 : Int) : (bS (fun j => Ff j [xI x0, xI x1, xI x2, xI x3, xI x4]) BU.fs BU.res { ρ0 with x := fun j => [xI x0, xI x1, xI x2, xI x3, xI x4].getD j (xI 0) } (bP Tryz.prog (JP [([0], 1)] ij (some Ff) [] [um] [] bq) Tryz.f41 9000 BU.args)) = Ky x0 x1 x2 x3 x4 := by kernel_rfl
set_option maxHeartbeats 4000000 in
theorem Pj (x0 x1 x2 x3 x4 : Int) (g0 : 0 ≤ x0 ∧ x0 ≤ 0) (g1 : 0 ≤ x1 ∧ x1 ≤ 0) (g2 : 0 ≤ x2 ∧ x2 ≤ 0) (g3 : 0 ≤ x3 ∧ x3 ≤ 0) (g4 : 1 ≤ x4 ∧ x4 ≤ 8) : Ky x0 x1 x2 x3 x4 := by
 unfold Ky
 intro A
 refine And.intro ?_ ?_
 ·intro h1
  refine And.intro ?_ ?_
  ·intro h3
   refine And.intro ?_ ?_
   ·intro h5
    refine And.intro ?_ ?_
    ·intro h7
     refine And.intro ?_ ?_
     ·intro h9
      refine And.intro ?_ ?_
      ·intro h11
       refine And.intro ?_ ?_
       ·intro h13
        obtain rfl : x4 = 8 := by omega
        exact ga 8 (by decide) (by decide)
       intro h14
       obtain rfl : x4 = 7 := by omega
       exact ga 7 (by decide) (by decide)
      intro h15
      obtain rfl : x4 = 6 := by omega
      exact ga 6 (by decide) (by decide)
     intro h16
     obtain rfl : x4 = 5 := by omega
     exact ga 5 (by decide) (by decide)
    intro h17
    obtain rfl : x4 = 4 := by omega
    exact ga 4 (by decide) (by decide)
   intro h18
   obtain rfl : x4 = 3 := by omega
   exact ga 3 (by decide) (by decide)
  intro h19
  obtain rfl : x4 = 2 := by omega
  exact ga 2 (by decide) (by decide)
 intro h20
 obtain rfl : x4 = 1 := by omega
 exact ga 1 (by decide) (by decide)
theorem Pk : aZ Tryz.prog ρ0 BU := by
 refine db (cf := JP [([0], 1)] ij (some Ff) [] [um] [] bq) (yb vZ bt (bw.cons MZ M0) I2) Tryz.func41 rfl 9000 rfl fun ds hr => ?_
 have hr := aA hr
 match ds, hr with
 | [d0, d1, d2, d3, d4], hr =>
  obtain ⟨⟨e0, l0, u0⟩, ⟨e1, l1, u1⟩, ⟨e2, l2, u2⟩, ⟨e3, l3, u3⟩, ⟨e4, l4, u4⟩, _⟩ := hr
  generalize d0.i = x0, d1.i = x1, d2.i = x2, d3.i = x3, d4.i = x4 at *
  subst e0 e1 e2 e3 e4
  exact Eq.mpr (Ph x0 x1 x2 x3 x4) (Pj x0 x1 x2 x3 x4 ⟨l0, u0⟩ ⟨l1, u1⟩ ⟨l2, u2⟩ ⟨l3, u3⟩ ⟨l4, u4⟩)
theorem Pl : Hs BU.f := ⟨_, Tryz.func41, by kernel_rfl, by kernel_rfl⟩
end Vc
end Go.Proofs.YtpmfkelglmgddaaGreatDoor
