/- Proved: PointDistances: the statement 'PointDistancesCardSaid' of this seat, for every input that it names; no condition besides. -/
import Derived.Test.YtfpecoddgdcaaaaDoorC04B
import Derived.Test.YtfpecoddgdcaaaaDoorRows
import Derived.Test.YtfpecoddgdcaaaaDoorCards
import Derived.Test.YtfpecoddgdcaaaaDoorTie
import Derived.SevenTiedAt
import Derived.ProofKit
import Derived.LaidMore
import Derived.Stop.Joined
namespace Go.Proofs.YtfpecoddgdcaaaaDoor.pointDistances
open Go Go.ChangeShapes Go.WideShapes Go.ChangeAt Go.RowKit Vc
set_option linter.unusedVariables false

/-- The distance of two points as the code writes it. -/
def dst (a b c d e f : Int) : Int := max (max (max (max (max (a + ((-1) * d)) (0 - (a + ((-1) * d)))) (b + ((-1) * e))) (0 - (b + ((-1) * e)))) (c + ((-1) * f))) (0 - (c + ((-1) * f)))
theorem dst_ge (a b c d e f : Int) : a - d ≤ dst a b c d e f ∧ d - a ≤ dst a b c d e f ∧ b - e ≤ dst a b c d e f ∧ e - b ≤ dst a b c d e f ∧ c - f ≤ dst a b c d e f ∧ f - c ≤ dst a b c d e f := by
  unfold dst; omega
theorem dst_le {a b c d e f m : Int} (h : a - d ≤ m ∧ d - a ≤ m ∧ b - e ≤ m ∧ e - b ≤ m ∧ c - f ≤ m ∧ f - c ≤ m) : dst a b c d e f ≤ m := by
  unfold dst; simp only [Int.max_le]; omega
theorem dst_nonneg (a b c d e f : Int) : 0 ≤ dst a b c d e f := by have := dst_ge a b c d e f; omega
theorem dst_zero (a b c d e f : Int) : dst a b c d e f = 0 ↔ a = d ∧ b = e ∧ c = f := by
  have h := dst_ge a b c d e f
  constructor
  · intro h0; omega
  · intro h0
    have := dst_le (a := a) (b := b) (c := c) (d := d) (e := e) (f := f) (m := 0) (by omega)
    omega
theorem dst_symm (a b c d e f : Int) : dst a b c d e f = dst d e f a b c := by
  have h := dst_ge a b c d e f
  have h' := dst_ge d e f a b c
  have := dst_le (a := a) (b := b) (c := c) (d := d) (e := e) (f := f) (m := dst d e f a b c) (by omega)
  have := dst_le (a := d) (b := e) (c := f) (d := a) (e := b) (f := c) (m := dst a b c d e f) (by omega)
  omega
theorem dst_tri (a b c d e f x y z : Int) : dst a b c d e f ≤ dst a b c x y z + dst x y z d e f := by
  have h := dst_ge a b c x y z
  have h' := dst_ge x y z d e f
  exact dst_le (by omega)
/-- The distance of a point from a box. -/
def nr (l1 l2 l3 u1 u2 u3 a b c : Int) : Int := max (max (max (max (max (max 0 (l1 + ((-1) * a))) (l2 + ((-1) * b))) (l3 + ((-1) * c))) (a + ((-1) * u1))) (b + ((-1) * u2))) (c + ((-1) * u3))
theorem nr_ge (l1 l2 l3 u1 u2 u3 a b c : Int) : 0 ≤ nr l1 l2 l3 u1 u2 u3 a b c ∧ l1 - a ≤ nr l1 l2 l3 u1 u2 u3 a b c ∧ l2 - b ≤ nr l1 l2 l3 u1 u2 u3 a b c ∧ l3 - c ≤ nr l1 l2 l3 u1 u2 u3 a b c ∧ a - u1 ≤ nr l1 l2 l3 u1 u2 u3 a b c ∧ b - u2 ≤ nr l1 l2 l3 u1 u2 u3 a b c ∧ c - u3 ≤ nr l1 l2 l3 u1 u2 u3 a b c := by
  unfold nr; omega
theorem nr_le {l1 l2 l3 u1 u2 u3 a b c m : Int} (h : 0 ≤ m ∧ l1 - a ≤ m ∧ l2 - b ≤ m ∧ l3 - c ≤ m ∧ a - u1 ≤ m ∧ b - u2 ≤ m ∧ c - u3 ≤ m) : nr l1 l2 l3 u1 u2 u3 a b c ≤ m := by
  unfold nr; simp only [Int.max_le]; omega
theorem nr_zero (l1 l2 l3 u1 u2 u3 a b c : Int) : nr l1 l2 l3 u1 u2 u3 a b c = 0 ↔ (((((l1 ≤ a ∧ a ≤ u1) ∧ l2 ≤ b) ∧ b ≤ u2) ∧ l3 ≤ c) ∧ c ≤ u3) := by
  have h := nr_ge l1 l2 l3 u1 u2 u3 a b c
  constructor
  · intro h0; omega
  · intro h0
    have := nr_le (l1 := l1) (l2 := l2) (l3 := l3) (u1 := u1) (u2 := u2) (u3 := u3) (a := a) (b := b) (c := c) (m := 0) (by omega)
    omega
theorem nr_step (l1 l2 l3 u1 u2 u3 a b c d e f : Int) : nr l1 l2 l3 u1 u2 u3 a b c ≤ nr l1 l2 l3 u1 u2 u3 d e f + dst a b c d e f := by
  have h := nr_ge l1 l2 l3 u1 u2 u3 d e f
  have h' := dst_ge a b c d e f
  exact nr_le (by omega)

/-- The law's walk, as the machine leaves it. -/
def lawP (x0 : Int) (x1 : Int) (x2 : Int) (x3 : Int) (x4 : Int) (x5 : Int) (x6 : Int) (x7 : Int) (x8 : Int) (x9 : Int) (x10 : Int) (x11 : Int) (x12 : Int) (x13 : Int) (x14 : Int) : Prop :=
  (
   ((((((((1048575 < (max (max (max (max (max (max 0 x0) (IntKind.wrap Go.IntKind.i64 (0 - x0))) x1) (IntKind.wrap Go.IntKind.i64 (0 - x1))) x2) (IntKind.wrap Go.IntKind.i64 (0 - x2)))) ∨ (x0 < (-1048575))) ∨ (x1 < (-1048575))) ∨ (x2 < (-1048575))) ∨ (1048575 < x0)) ∨ (1048575 < x1)) ∨ (1048575 < x2)) →
    (true = true))
  ∧
   ((¬ (((((((1048575 < (max (max (max (max (max (max 0 x0) (IntKind.wrap Go.IntKind.i64 (0 - x0))) x1) (IntKind.wrap Go.IntKind.i64 (0 - x1))) x2) (IntKind.wrap Go.IntKind.i64 (0 - x2)))) ∨ (x0 < (-1048575))) ∨ (x1 < (-1048575))) ∨ (x2 < (-1048575))) ∨ (1048575 < x0)) ∨ (1048575 < x1)) ∨ (1048575 < x2))) →
    (
     ((((((((1048575 < (max (max (max (max (max (max 0 x3) (IntKind.wrap Go.IntKind.i64 (0 - x3))) x4) (IntKind.wrap Go.IntKind.i64 (0 - x4))) x5) (IntKind.wrap Go.IntKind.i64 (0 - x5)))) ∨ (x3 < (-1048575))) ∨ (x4 < (-1048575))) ∨ (x5 < (-1048575))) ∨ (1048575 < x3)) ∨ (1048575 < x4)) ∨ (1048575 < x5)) →
      (true = true))
    ∧
     ((¬ (((((((1048575 < (max (max (max (max (max (max 0 x3) (IntKind.wrap Go.IntKind.i64 (0 - x3))) x4) (IntKind.wrap Go.IntKind.i64 (0 - x4))) x5) (IntKind.wrap Go.IntKind.i64 (0 - x5)))) ∨ (x3 < (-1048575))) ∨ (x4 < (-1048575))) ∨ (x5 < (-1048575))) ∨ (1048575 < x3)) ∨ (1048575 < x4)) ∨ (1048575 < x5))) →
      (
       ((((((((1048575 < (max (max (max (max (max (max 0 x6) (IntKind.wrap Go.IntKind.i64 (0 - x6))) x7) (IntKind.wrap Go.IntKind.i64 (0 - x7))) x8) (IntKind.wrap Go.IntKind.i64 (0 - x8)))) ∨ (x6 < (-1048575))) ∨ (x7 < (-1048575))) ∨ (x8 < (-1048575))) ∨ (1048575 < x6)) ∨ (1048575 < x7)) ∨ (1048575 < x8)) →
        (true = true))
      ∧
       ((¬ (((((((1048575 < (max (max (max (max (max (max 0 x6) (IntKind.wrap Go.IntKind.i64 (0 - x6))) x7) (IntKind.wrap Go.IntKind.i64 (0 - x7))) x8) (IntKind.wrap Go.IntKind.i64 (0 - x8)))) ∨ (x6 < (-1048575))) ∨ (x7 < (-1048575))) ∨ (x8 < (-1048575))) ∨ (1048575 < x6)) ∨ (1048575 < x7)) ∨ (1048575 < x8))) →
        (
         ((((((((1048575 < (max (max (max (max (max (max 0 x9) (IntKind.wrap Go.IntKind.i64 (0 - x9))) x10) (IntKind.wrap Go.IntKind.i64 (0 - x10))) x11) (IntKind.wrap Go.IntKind.i64 (0 - x11)))) ∨ (x9 < (-1048575))) ∨ (x10 < (-1048575))) ∨ (x11 < (-1048575))) ∨ (1048575 < x9)) ∨ (1048575 < x10)) ∨ (1048575 < x11)) →
          (true = true))
        ∧
         ((¬ (((((((1048575 < (max (max (max (max (max (max 0 x9) (IntKind.wrap Go.IntKind.i64 (0 - x9))) x10) (IntKind.wrap Go.IntKind.i64 (0 - x10))) x11) (IntKind.wrap Go.IntKind.i64 (0 - x11)))) ∨ (x9 < (-1048575))) ∨ (x10 < (-1048575))) ∨ (x11 < (-1048575))) ∨ (1048575 < x9)) ∨ (1048575 < x10)) ∨ (1048575 < x11))) →
          (
           ((((((((1048575 < (max (max (max (max (max (max 0 x12) (IntKind.wrap Go.IntKind.i64 (0 - x12))) x13) (IntKind.wrap Go.IntKind.i64 (0 - x13))) x14) (IntKind.wrap Go.IntKind.i64 (0 - x14)))) ∨ (x12 < (-1048575))) ∨ (x13 < (-1048575))) ∨ (x14 < (-1048575))) ∨ (1048575 < x12)) ∨ (1048575 < x13)) ∨ (1048575 < x14)) →
            (true = true))
          ∧
           ((¬ (((((((1048575 < (max (max (max (max (max (max 0 x12) (IntKind.wrap Go.IntKind.i64 (0 - x12))) x13) (IntKind.wrap Go.IntKind.i64 (0 - x13))) x14) (IntKind.wrap Go.IntKind.i64 (0 - x14)))) ∨ (x12 < (-1048575))) ∨ (x13 < (-1048575))) ∨ (x14 < (-1048575))) ∨ (1048575 < x12)) ∨ (1048575 < x13)) ∨ (1048575 < x14))) →
            (
             ((((((max (max (max (max (max (x0 + ((-1) * x3)) (0 - (x0 + ((-1) * x3)))) (x1 + ((-1) * x4))) (0 - (x1 + ((-1) * x4)))) (x2 + ((-1) * x5))) (0 - (x2 + ((-1) * x5)))) < 0) ∨ (¬ (((decide ((max (max (max (max (max (x0 + ((-1) * x3)) (0 - (x0 + ((-1) * x3)))) (x1 + ((-1) * x4))) (0 - (x1 + ((-1) * x4)))) (x2 + ((-1) * x5))) (0 - (x2 + ((-1) * x5)))) = 0)) == ((decide (x0 = x3)) && ((decide (x1 = x4)) && (decide (x2 = x5))))) = true))) ∨ (¬ ((max (max (max (max (max (x0 + ((-1) * x3)) (0 - (x0 + ((-1) * x3)))) (x1 + ((-1) * x4))) (0 - (x1 + ((-1) * x4)))) (x2 + ((-1) * x5))) (0 - (x2 + ((-1) * x5)))) = (max (max (max (max (max (x3 + ((-1) * x0)) (0 - (x3 + ((-1) * x0)))) (x4 + ((-1) * x1))) (0 - (x4 + ((-1) * x1)))) (x5 + ((-1) * x2))) (0 - (x5 + ((-1) * x2))))))) ∨ (((max (max (max (max (max (x0 + ((-1) * x6)) (0 - (x0 + ((-1) * x6)))) (x1 + ((-1) * x7))) (0 - (x1 + ((-1) * x7)))) (x2 + ((-1) * x8))) (0 - (x2 + ((-1) * x8)))) + (max (max (max (max (max (x6 + ((-1) * x3)) (0 - (x6 + ((-1) * x3)))) (x7 + ((-1) * x4))) (0 - (x7 + ((-1) * x4)))) (x8 + ((-1) * x5))) (0 - (x8 + ((-1) * x5))))) < (max (max (max (max (max (x0 + ((-1) * x3)) (0 - (x0 + ((-1) * x3)))) (x1 + ((-1) * x4))) (0 - (x1 + ((-1) * x4)))) (x2 + ((-1) * x5))) (0 - (x2 + ((-1) * x5)))))) →
              (false = true))
            ∧
             ((¬ (((((max (max (max (max (max (x0 + ((-1) * x3)) (0 - (x0 + ((-1) * x3)))) (x1 + ((-1) * x4))) (0 - (x1 + ((-1) * x4)))) (x2 + ((-1) * x5))) (0 - (x2 + ((-1) * x5)))) < 0) ∨ (¬ (((decide ((max (max (max (max (max (x0 + ((-1) * x3)) (0 - (x0 + ((-1) * x3)))) (x1 + ((-1) * x4))) (0 - (x1 + ((-1) * x4)))) (x2 + ((-1) * x5))) (0 - (x2 + ((-1) * x5)))) = 0)) == ((decide (x0 = x3)) && ((decide (x1 = x4)) && (decide (x2 = x5))))) = true))) ∨ (¬ ((max (max (max (max (max (x0 + ((-1) * x3)) (0 - (x0 + ((-1) * x3)))) (x1 + ((-1) * x4))) (0 - (x1 + ((-1) * x4)))) (x2 + ((-1) * x5))) (0 - (x2 + ((-1) * x5)))) = (max (max (max (max (max (x3 + ((-1) * x0)) (0 - (x3 + ((-1) * x0)))) (x4 + ((-1) * x1))) (0 - (x4 + ((-1) * x1)))) (x5 + ((-1) * x2))) (0 - (x5 + ((-1) * x2))))))) ∨ (((max (max (max (max (max (x0 + ((-1) * x6)) (0 - (x0 + ((-1) * x6)))) (x1 + ((-1) * x7))) (0 - (x1 + ((-1) * x7)))) (x2 + ((-1) * x8))) (0 - (x2 + ((-1) * x8)))) + (max (max (max (max (max (x6 + ((-1) * x3)) (0 - (x6 + ((-1) * x3)))) (x7 + ((-1) * x4))) (0 - (x7 + ((-1) * x4)))) (x8 + ((-1) * x5))) (0 - (x8 + ((-1) * x5))))) < (max (max (max (max (max (x0 + ((-1) * x3)) (0 - (x0 + ((-1) * x3)))) (x1 + ((-1) * x4))) (0 - (x1 + ((-1) * x4)))) (x2 + ((-1) * x5))) (0 - (x2 + ((-1) * x5))))))) →
              (
               ((¬ ((((((x9 ≤ x9) ∧ (x9 < x12)) ∧ (x10 ≤ x10)) ∧ (x10 < x13)) ∧ (x11 ≤ x11)) ∧ (x11 < x14))) →
                ((bif (!((((((decide (x9 ≤ x9)) && (decide (x9 < x12))) && (decide (x10 ≤ x10))) && (decide (x10 < x13))) && (decide (x11 ≤ x11))) && (decide (x11 < x14)))) then (-1) else (max (max (max (max (max (max 0 (x9 + ((-1) * x0))) (x10 + ((-1) * x1))) (x11 + ((-1) * x2))) (x0 + ((-1) * x12))) (x1 + ((-1) * x13))) (x2 + ((-1) * x14)))) = (-1)))
              ∧
               (((((((x9 ≤ x9) ∧ (x9 < x12)) ∧ (x10 ≤ x10)) ∧ (x10 < x13)) ∧ (x11 ≤ x11)) ∧ (x11 < x14)) →
                (
                 ((((decide ((bif (!((((((decide (x9 ≤ x9)) && (decide (x9 < x12))) && (decide (x10 ≤ x10))) && (decide (x10 < x13))) && (decide (x11 ≤ x11))) && (decide (x11 < x14)))) then (-1) else (max (max (max (max (max (max 0 (x9 + ((-1) * x0))) (x10 + ((-1) * x1))) (x11 + ((-1) * x2))) (x0 + ((-1) * x12))) (x1 + ((-1) * x13))) (x2 + ((-1) * x14)))) = 0)) == ((((((decide (x9 ≤ x0)) && (decide (x0 ≤ x12))) && (decide (x10 ≤ x1))) && (decide (x1 ≤ x13))) && (decide (x11 ≤ x2))) && (decide (x2 ≤ x14)))) = true) →
                  ((((¬ ((((((x9 ≤ x3) ∧ (x3 ≤ x12)) ∧ (x10 ≤ x4)) ∧ (x4 ≤ x13)) ∧ (x11 ≤ x5)) ∧ (x5 ≤ x14))) ∨ ((bif (!((((((decide (x9 ≤ x9)) && (decide (x9 < x12))) && (decide (x10 ≤ x10))) && (decide (x10 < x13))) && (decide (x11 ≤ x11))) && (decide (x11 < x14)))) then (-1) else (max (max (max (max (max (max 0 (x9 + ((-1) * x0))) (x10 + ((-1) * x1))) (x11 + ((-1) * x2))) (x0 + ((-1) * x12))) (x1 + ((-1) * x13))) (x2 + ((-1) * x14)))) ≤ (max (max (max (max (max (x0 + ((-1) * x3)) (0 - (x0 + ((-1) * x3)))) (x1 + ((-1) * x4))) (0 - (x1 + ((-1) * x4)))) (x2 + ((-1) * x5))) (0 - (x2 + ((-1) * x5)))))) ∧ (((bif (!((((((decide (x9 ≤ x9)) && (decide (x9 < x12))) && (decide (x10 ≤ x10))) && (decide (x10 < x13))) && (decide (x11 ≤ x11))) && (decide (x11 < x14)))) then (-1) else (max (max (max (max (max (max 0 (x9 + ((-1) * x0))) (x10 + ((-1) * x1))) (x11 + ((-1) * x2))) (x0 + ((-1) * x12))) (x1 + ((-1) * x13))) (x2 + ((-1) * x14)))) - (bif (!((((((decide (x9 ≤ x9)) && (decide (x9 < x12))) && (decide (x10 ≤ x10))) && (decide (x10 < x13))) && (decide (x11 ≤ x11))) && (decide (x11 < x14)))) then (-1) else (max (max (max (max (max (max 0 (x9 + ((-1) * x3))) (x10 + ((-1) * x4))) (x11 + ((-1) * x5))) (x3 + ((-1) * x12))) (x4 + ((-1) * x13))) (x5 + ((-1) * x14))))) ≤ (max (max (max (max (max (x0 + ((-1) * x3)) (0 - (x0 + ((-1) * x3)))) (x1 + ((-1) * x4))) (0 - (x1 + ((-1) * x4)))) (x2 + ((-1) * x5))) (0 - (x2 + ((-1) * x5)))))) ∧ (((bif (!((((((decide (x9 ≤ x9)) && (decide (x9 < x12))) && (decide (x10 ≤ x10))) && (decide (x10 < x13))) && (decide (x11 ≤ x11))) && (decide (x11 < x14)))) then (-1) else (max (max (max (max (max (max 0 (x9 + ((-1) * x3))) (x10 + ((-1) * x4))) (x11 + ((-1) * x5))) (x3 + ((-1) * x12))) (x4 + ((-1) * x13))) (x5 + ((-1) * x14)))) - (bif (!((((((decide (x9 ≤ x9)) && (decide (x9 < x12))) && (decide (x10 ≤ x10))) && (decide (x10 < x13))) && (decide (x11 ≤ x11))) && (decide (x11 < x14)))) then (-1) else (max (max (max (max (max (max 0 (x9 + ((-1) * x0))) (x10 + ((-1) * x1))) (x11 + ((-1) * x2))) (x0 + ((-1) * x12))) (x1 + ((-1) * x13))) (x2 + ((-1) * x14))))) ≤ (max (max (max (max (max (x0 + ((-1) * x3)) (0 - (x0 + ((-1) * x3)))) (x1 + ((-1) * x4))) (0 - (x1 + ((-1) * x4)))) (x2 + ((-1) * x5))) (0 - (x2 + ((-1) * x5)))))))
                ∧
                 ((¬ (((decide ((bif (!((((((decide (x9 ≤ x9)) && (decide (x9 < x12))) && (decide (x10 ≤ x10))) && (decide (x10 < x13))) && (decide (x11 ≤ x11))) && (decide (x11 < x14)))) then (-1) else (max (max (max (max (max (max 0 (x9 + ((-1) * x0))) (x10 + ((-1) * x1))) (x11 + ((-1) * x2))) (x0 + ((-1) * x12))) (x1 + ((-1) * x13))) (x2 + ((-1) * x14)))) = 0)) == ((((((decide (x9 ≤ x0)) && (decide (x0 ≤ x12))) && (decide (x10 ≤ x1))) && (decide (x1 ≤ x13))) && (decide (x11 ≤ x2))) && (decide (x2 ≤ x14)))) = true)) →
                  (false = true)))))))))))))))))
noncomputable def av : List SV := match argsS Tryd.prog [23, 23, 23, 31] 0 with | some (vs, _) => vs | none => []
noncomputable def ks : List Lf := match argsS Tryd.prog [23, 23, 23, 31] 0 with | some (_, ks) => ks | none => []
theorem link (x : Nat → X) : (walkF Tryd.prog (cf0 [cSane]) Tryd.f7 20000 av).law { ρ0 with x := x } = lawP (x 0).i (x 1).i (x 2).i (x 3).i (x 4).i (x 5).i (x 6).i (x 7).i (x 8).i (x 9).i (x 10).i (x 11).i (x 12).i (x 13).i (x 14).i := by kernel_rfl
set_option maxHeartbeats 1000000 in
theorem lawP_ok (x0 : Int) (x1 : Int) (x2 : Int) (x3 : Int) (x4 : Int) (x5 : Int) (x6 : Int) (x7 : Int) (x8 : Int) (x9 : Int) (x10 : Int) (x11 : Int) (x12 : Int) (x13 : Int) (x14 : Int) (h0 : -9223372036854775808 ≤ x0 ∧ x0 ≤ 9223372036854775807) (h1 : -9223372036854775808 ≤ x1 ∧ x1 ≤ 9223372036854775807) (h2 : -9223372036854775808 ≤ x2 ∧ x2 ≤ 9223372036854775807) (h3 : -9223372036854775808 ≤ x3 ∧ x3 ≤ 9223372036854775807) (h4 : -9223372036854775808 ≤ x4 ∧ x4 ≤ 9223372036854775807) (h5 : -9223372036854775808 ≤ x5 ∧ x5 ≤ 9223372036854775807) (h6 : -9223372036854775808 ≤ x6 ∧ x6 ≤ 9223372036854775807) (h7 : -9223372036854775808 ≤ x7 ∧ x7 ≤ 9223372036854775807) (h8 : -9223372036854775808 ≤ x8 ∧ x8 ≤ 9223372036854775807) (h9 : -9223372036854775808 ≤ x9 ∧ x9 ≤ 9223372036854775807) (h10 : -9223372036854775808 ≤ x10 ∧ x10 ≤ 9223372036854775807) (h11 : -9223372036854775808 ≤ x11 ∧ x11 ≤ 9223372036854775807) (h12 : -9223372036854775808 ≤ x12 ∧ x12 ≤ 9223372036854775807) (h13 : -9223372036854775808 ≤ x13 ∧ x13 ≤ 9223372036854775807) (h14 : -9223372036854775808 ≤ x14 ∧ x14 ≤ 9223372036854775807) : lawP x0 x1 x2 x3 x4 x5 x6 x7 x8 x9 x10 x11 x12 x13 x14 := by
  unfold lawP
  refine ⟨fun _ => rfl, fun g1 => ⟨fun _ => rfl, fun g2 => ⟨fun _ => rfl, fun g3 => ⟨fun _ => rfl, fun g4 => ⟨fun _ => rfl, fun g5 => ?_⟩⟩⟩⟩⟩
  clear g1 g2 g3 g4 g5 h0 h1 h2 h3 h4 h5 h6 h7 h8 h9 h10 h11 h12 h13 h14
  refine ⟨fun g => ?_, fun g => ?_⟩
  · exfalso
    rcases g with ((g | g) | g) | g
    · exact Int.not_lt.2 (dst_nonneg x0 x1 x2 x3 x4 x5) g
    · refine g ?_
      rw [beqB]
      simp only [Bool.and_eq_true, decide_eq_true_eq]
      exact dst_zero x0 x1 x2 x3 x4 x5
    · exact g (dst_symm x0 x1 x2 x3 x4 x5)
    · exact Int.not_lt.2 (dst_tri x0 x1 x2 x3 x4 x5 x6 x7 x8) g
  · clear g
    refine ⟨fun k => ?_, fun k => ?_⟩
    · have e : (!((((((decide (x9 ≤ x9)) && (decide (x9 < x12))) && (decide (x10 ≤ x10))) && (decide (x10 < x13))) && (decide (x11 ≤ x11))) && (decide (x11 < x14)))) = true := by simp; omega
      rw [e]; rfl
    · have e : (!((((((decide (x9 ≤ x9)) && (decide (x9 < x12))) && (decide (x10 ≤ x10))) && (decide (x10 < x13))) && (decide (x11 ≤ x11))) && (decide (x11 < x14)))) = false := by simp; omega
      rw [e]
      simp only [cond_false]
      refine ⟨fun l => ?_, fun l => ?_⟩
      · have s1 := nr_step x9 x10 x11 x12 x13 x14 x0 x1 x2 x3 x4 x5
        have s2 := nr_step x9 x10 x11 x12 x13 x14 x3 x4 x5 x0 x1 x2
        rw [dst_symm x3 x4 x5] at s2
        refine ⟨⟨?_, ?_⟩, ?_⟩
        · by_cases hc : (((((x9 ≤ x3 ∧ x3 ≤ x12) ∧ x10 ≤ x4) ∧ x4 ≤ x13) ∧ x11 ≤ x5) ∧ x5 ≤ x14)
          · right
            have z := (nr_zero x9 x10 x11 x12 x13 x14 x3 x4 x5).2 hc
            have : nr x9 x10 x11 x12 x13 x14 x0 x1 x2 ≤ dst x0 x1 x2 x3 x4 x5 := by omega
            exact this
          · left; exact hc
        · have : nr x9 x10 x11 x12 x13 x14 x0 x1 x2 - nr x9 x10 x11 x12 x13 x14 x3 x4 x5 ≤ dst x0 x1 x2 x3 x4 x5 := by omega
          exact this
        · have : nr x9 x10 x11 x12 x13 x14 x3 x4 x5 - nr x9 x10 x11 x12 x13 x14 x0 x1 x2 ≤ dst x0 x1 x2 x3 x4 x5 := by omega
          exact this
      · exfalso
        refine l ?_
        rw [beqB]
        simp only [Bool.and_eq_true, decide_eq_true_eq]
        exact nr_zero x9 x10 x11 x12 x13 x14 x0 x1 x2

/-! ### The frame -/
theorem lawful (x : Nat → X) (h : XsOk ks 0 x) : (walkF Tryd.prog (cf0 [cSane]) Tryd.f7 20000 av).law { ρ0 with x := x } := by
  rw [link]
  have e : ks = [.int .i64, .int .i64, .int .i64, .int .i64, .int .i64, .int .i64, .int .i64, .int .i64, .int .i64, .int .i64, .int .i64, .int .i64, .int .i64, .int .i64, .int .i64] := by kernel_rfl
  rw [e] at h
  obtain ⟨k0, k1, k2, k3, k4, k5, k6, k7, k8, k9, k10, k11, k12, k13, k14, _⟩ := h
  exact lawP_ok _ _ _ _ _ _ _ _ _ _ _ _ _ _ _ ⟨k0.2.1, k0.2.2⟩ ⟨k1.2.1, k1.2.2⟩ ⟨k2.2.1, k2.2.2⟩ ⟨k3.2.1, k3.2.2⟩ ⟨k4.2.1, k4.2.2⟩ ⟨k5.2.1, k5.2.2⟩ ⟨k6.2.1, k6.2.2⟩ ⟨k7.2.1, k7.2.2⟩ ⟨k8.2.1, k8.2.2⟩ ⟨k9.2.1, k9.2.2⟩ ⟨k10.2.1, k10.2.2⟩ ⟨k11.2.1, k11.2.2⟩ ⟨k12.2.1, k12.2.2⟩ ⟨k13.2.1, k13.2.2⟩ ⟨k14.2.1, k14.2.2⟩
theorem shape {H : Type} {ds : List (DataW H)} (h : ds.length = 4) : Rows.pointDistancesSpec.fn H ds = { results := [.lit (.bool true)], args := ds } := by
  match ds, h with
  | [d1, d2, d3, d4], _ => rfl
theorem calls {H : Type} {enc : TypeId × Value → H} (W : World) (base : Nat) (args : Array Value) (ds : List (DataW H)) (p : List MemPlace) (hval : ∀ (j : Nat) t v, Tryd.f7.params[j]? = some t → args[j]? = some v → Value.okWide Tryd.prog W .any base t v)
    (hA : DataW.TrodAll enc Tryd.prog W 0 (fun _ => true) true Tryd.f7.params.toList args.toList ds p) (hg : GlobOk ρ0.g W.heap.size W) : Calls Tryd.prog 7 args W fun e w' => e = .returned (.bool true) ∧ Below W.heap.size W w' := by
  rw [Tryd.params7] at hA hval
  have ha : argsS Tryd.prog [23, 23, 23, 31] 0 = some (av, ks) := by kernel_rfl
  let x : Nat → X := fun j => ((args.toList.flatMap fun v => v.cells.toList).map valX).getD j (xI 0)
  obtain ⟨hv, hx⟩ := argsS_ok (ρ := { ρ0 with x := x }) (b0 := base) (r := .any) hA (fun i t v ht hv => hval i t v (by simpa using ht) (by simpa using hv)) ha (fun i v hi => by
    show ((args.toList.flatMap fun v => v.cells.toList).map valX).getD (0 + i) (xI 0) = valX v
    rw [Nat.zero_add, List.getD_eq_getElem?_getD, List.getElem?_map, hi]; rfl)
  have := law_calls ((cs_ok).withX x) Tryd.func7 rfl 20000 (vs := av) (us := args.toList) hg hv (lawful x hx)
  simpa using this
set_option maxRecDepth 100000 in
theorem lifted (os : Os) (started : os.Started) (H : Type) (enc : TypeId × Value → H) :
    ReturnsInHanded {} Tryd.checked os 7 .any (fun w args => (Rows.pointDistancesSpec.pre enc Tryd.prog Tryd.f7 [] false w args ∧ laidMetH Tryd.prog [("voxel/point.axes", Rows.laid_voxel_point_axes)] w) ∧ sizedMet enc Tryd.prog Tryd.f7 (OpenSpec.ofChange Rows.pointDistancesSpec) false w args)
      (Rows.pointDistancesSpec.post enc Tryd.prog Tryd.f7 false true false false) := by
  refine returnsInHanded_of_change_and (C := Tryd.checked) (X := fun w _ => laidMetH Tryd.prog [("voxel/point.axes", Rows.laid_voxel_point_axes)] w) (fun _ _ _ hh h => h.of_heap hh) own started (by kernel_rfl) Tryd.func7
    (ChangeSpec.witness_shaped (enc := enc) (C := Tryd.checked) (os := os) (X := fun w _ => laidMetH Tryd.prog [("voxel/point.axes", Rows.laid_voxel_point_axes)] w) false (World.doorLaid Tryd.prog 400 os) #[((Tryd.prog.info? 23).bind (·.zero)).getD undef, ((Tryd.prog.info? 23).bind (·.zero)).getD undef, ((Tryd.prog.info? 23).bind (·.zero)).getD undef, ((Tryd.prog.info? 31).bind (·.zero)).getD undef] 8 rfl (World.shaped_of_RefB (by kernel_rfl) (by kernel_rfl)) (by kernel_rfl) (by kernel_rfl) (by kernel_rfl) (door_met os _)) ?_
  intro W base args ds gs before hval hW _ _ hL _
  have hW0 := hW
  obtain ⟨p, q, hA, hV, _⟩ := hW0
  have hlen : ds.length = 4 := (trodAll_len hA).trans (by kernel_rfl)
  refine (calls W base args ds p hval hA (glob_ok hL)).mono fun e W' ⟨he, hb⟩ => ?_
  subst he
  exact ⟨_, rfl, law_post kids slices (by rw [Tryd.params7]; decide +kernel) rfl rfl Tryd.underlying4 (shape hlen) hW hb⟩
theorem over : Rows.PointDistancesSaid :=
  OpenClaim.holds_of_wide 7 Tryd.f7 rfl rfl rfl rfl rfl rfl rfl ⟨rfl, rfl, rfl, rfl, rfl⟩ rfl rfl rfl rfl rfl (by kernel_rfl) Tryd.func7 (by kernel_rfl)
    (of_decide_eq_true (by kernel_rfl)) (by unfold Func.isWrapper; first | (rw [if_pos (by decide +kernel)]; kernel_rfl) | (rw [if_neg (by decide +kernel)]; exact ⟨rfl, rfl⟩))
    (fun os started H enc _ => lifted os started H enc)

/-- The statement: the row, its listed variable tied to the program's text. -/
theorem proved : Rows.PointDistancesCardSaid :=
  Claim7.holds_tied_plain_at .later [] [.data] true (true, "e06bc72d9a7e7cd65c2c3e37c6b12438da0942b734f801b351da7f25b9e73c95") false
    over (fun _ h => by cases h) (by kernel_rfl) (fun _ h => by cases h) pointDistances_row_tie rfl ⟨rfl, rfl⟩ (by kernel_rfl) rfl
    (fun f fn hf hfn => by
      obtain rfl : f = 7 := Option.some.inj ((show Tryd.prog.funcNamed "voxel/voxellaw04.PointDistances" = some 7 by kernel_rfl).symm.trans hf) |>.symm
      obtain rfl : fn = Tryd.f7 := (Option.some.inj (Tryd.func7.symm.trans hfn)).symm
      exact ⟨by kernel_rfl, fun j t ht => by
        rw [Tryd.params7] at ht
        have hm : t ∈ [23, 23, 23, 31] := by simpa using Array.mem_of_getElem? ht
        have hall : ([23, 23, 23, 31].all fun u => !Tryd.prog.wantsStandIn u) = true := by kernel_rfl
        exact (show Tryd.prog.wantsStandIn t = false by simpa using List.all_eq_true.1 hall t hm)⟩)
    (by kernel_rfl)
#print axioms proved
end Go.Proofs.YtfpecoddgdcaaaaDoor.pointDistances
