/- Proved: PointIndices: the statement 'PointIndicesCardSaid' of this seat, for every input that it names; no condition besides. -/
import Derived.Test.YtfpecoddgdcaaaaDoorC04H
import Derived.Test.YtfpecoddgdcaaaaDoorRows
import Derived.Test.YtfpecoddgdcaaaaDoorCards
import Derived.Test.YtfpecoddgdcaaaaDoorTie
import Derived.SevenTiedAt
import Derived.ProofKit
import Derived.LaidMore
import Derived.Stop.Joined
namespace Go.Proofs.YtfpecoddgdcaaaaDoor.pointIndices
open Go Go.ChangeShapes Go.WideShapes Go.ChangeAt Go.RowKit Vc
set_option linter.unusedVariables false


/-- The law's walk, as the machine leaves it. -/
def lawP (x0 : Int) (x1 : Int) (x2 : Int) (x3 : Int) (x4 : Int) (x5 : Int) (x6 : Int) (x7 : Int) (x8 : Int) (x9 : Int) : Prop :=
  (
   ((((((((1048575 < (max (max (max (max (max (max 0 x0) (IntKind.wrap Go.IntKind.i64 (0 - x0))) x1) (IntKind.wrap Go.IntKind.i64 (0 - x1))) x2) (IntKind.wrap Go.IntKind.i64 (0 - x2)))) ∨ (x0 < (-1048575))) ∨ (x1 < (-1048575))) ∨ (x2 < (-1048575))) ∨ (1048575 < x0)) ∨ (1048575 < x1)) ∨ (1048575 < x2)) →
    (true = true))
  ∧
   ((¬ (((((((1048575 < (max (max (max (max (max (max 0 x0) (IntKind.wrap Go.IntKind.i64 (0 - x0))) x1) (IntKind.wrap Go.IntKind.i64 (0 - x1))) x2) (IntKind.wrap Go.IntKind.i64 (0 - x2)))) ∨ (x0 < (-1048575))) ∨ (x1 < (-1048575))) ∨ (x2 < (-1048575))) ∨ (1048575 < x0)) ∨ (1048575 < x1)) ∨ (1048575 < x2))) →
    (
     ((((((((1048575 < (max (max (max (max (max (max 0 x3) (IntKind.wrap Go.IntKind.i64 (0 - x3))) x4) (IntKind.wrap Go.IntKind.i64 (0 - x4))) x5) (IntKind.wrap Go.IntKind.i64 (0 - x5)))) ∨ (x3 < (-1048575))) ∨ (x4 < (-1048575))) ∨ (x5 < (-1048575))) ∨ (1048575 < x3)) ∨ (1048575 < x4)) ∨ (1048575 < x5)) →
      (true = true))
    ∧
     ((¬ (((((((1048575 < (max (max (max (max (max (max 0 x3) (IntKind.wrap Go.IntKind.i64 (0 - x3))) x4) (IntKind.wrap Go.IntKind.i64 (0 - x4))) x5) (IntKind.wrap Go.IntKind.i64 (0 - x5)))) ∨ (x3 < (-1048575))) ∨ (x4 < (-1048575))) ∨ (x5 < (-1048575))) ∨ (1048575 < x3)) ∨ (1048575 < x4)) ∨ (1048575 < x5))) →
      (
       ((((((((1048575 < (max (max (max (max (max (max 0 x6) (IntKind.wrap Go.IntKind.i64 (0 - x6))) x7) (IntKind.wrap Go.IntKind.i64 (0 - x7))) x8) (IntKind.wrap Go.IntKind.i64 (0 - x8)))) ∨ (x6 < (-1048575))) ∨ (x7 < (-1048575))) ∨ (x8 < (-1048575))) ∨ (1048575 < x6)) ∨ (1048575 < x7)) ∨ (1048575 < x8)) →
        (true = true))
      ∧
       ((¬ (((((((1048575 < (max (max (max (max (max (max 0 x6) (IntKind.wrap Go.IntKind.i64 (0 - x6))) x7) (IntKind.wrap Go.IntKind.i64 (0 - x7))) x8) (IntKind.wrap Go.IntKind.i64 (0 - x8)))) ∨ (x6 < (-1048575))) ∨ (x7 < (-1048575))) ∨ (x8 < (-1048575))) ∨ (1048575 < x6)) ∨ (1048575 < x7)) ∨ (1048575 < x8))) →
        (
         (((¬ (((decide (0 ≤ (Ff 260 [(xI (x0 + 0)), (xI (x1 + 0)), (xI (x2 + 0)), (xI (x3 + 0)), (xI (x4 + 0)), (xI (x5 + 0)), (xI (x6 + 0)), (xI (x7 + 0)), (xI (x8 + 0))]).i)) == (Ff 201 [(xI (x6 + 0)), (xI (x7 + 0)), (xI (x8 + 0)), (xI (x0 + 0)), (xI (x1 + 0)), (xI (x2 + 0)), (xI (x3 + 0)), (xI (x4 + 0)), (xI (x5 + 0))]).b) = true)) ∨ (((Ff 210 [(xI (x0 + 0)), (xI (x1 + 0)), (xI (x2 + 0)), (xI (x3 + 0)), (xI (x4 + 0)), (xI (x5 + 0))]).i ≤ (Ff 260 [(xI (x0 + 0)), (xI (x1 + 0)), (xI (x2 + 0)), (xI (x3 + 0)), (xI (x4 + 0)), (xI (x5 + 0)), (xI (x6 + 0)), (xI (x7 + 0)), (xI (x8 + 0))]).i) ∧ (0 ≤ (Ff 260 [(xI (x0 + 0)), (xI (x1 + 0)), (xI (x2 + 0)), (xI (x3 + 0)), (xI (x4 + 0)), (xI (x5 + 0)), (xI (x6 + 0)), (xI (x7 + 0)), (xI (x8 + 0))]).i))) →
          (false = true))
        ∧
         ((¬ ((¬ (((decide (0 ≤ (Ff 260 [(xI (x0 + 0)), (xI (x1 + 0)), (xI (x2 + 0)), (xI (x3 + 0)), (xI (x4 + 0)), (xI (x5 + 0)), (xI (x6 + 0)), (xI (x7 + 0)), (xI (x8 + 0))]).i)) == (Ff 201 [(xI (x6 + 0)), (xI (x7 + 0)), (xI (x8 + 0)), (xI (x0 + 0)), (xI (x1 + 0)), (xI (x2 + 0)), (xI (x3 + 0)), (xI (x4 + 0)), (xI (x5 + 0))]).b) = true)) ∨ (((Ff 210 [(xI (x0 + 0)), (xI (x1 + 0)), (xI (x2 + 0)), (xI (x3 + 0)), (xI (x4 + 0)), (xI (x5 + 0))]).i ≤ (Ff 260 [(xI (x0 + 0)), (xI (x1 + 0)), (xI (x2 + 0)), (xI (x3 + 0)), (xI (x4 + 0)), (xI (x5 + 0)), (xI (x6 + 0)), (xI (x7 + 0)), (xI (x8 + 0))]).i) ∧ (0 ≤ (Ff 260 [(xI (x0 + 0)), (xI (x1 + 0)), (xI (x2 + 0)), (xI (x3 + 0)), (xI (x4 + 0)), (xI (x5 + 0)), (xI (x6 + 0)), (xI (x7 + 0)), (xI (x8 + 0))]).i)))) →
          (
           (((0 ≤ (Ff 260 [(xI (x0 + 0)), (xI (x1 + 0)), (xI (x2 + 0)), (xI (x3 + 0)), (xI (x4 + 0)), (xI (x5 + 0)), (xI (x6 + 0)), (xI (x7 + 0)), (xI (x8 + 0))]).i) ∧ ((¬ (((Ff 270 [(xI (x0 + 0)), (xI (x1 + 0)), (xI (x2 + 0)), (xI (x3 + 0)), (xI (x4 + 0)), (xI (x5 + 0)), (xI ((Ff 260 [(xI (x0 + 0)), (xI (x1 + 0)), (xI (x2 + 0)), (xI (x3 + 0)), (xI (x4 + 0)), (xI (x5 + 0)), (xI (x6 + 0)), (xI (x7 + 0)), (xI (x8 + 0))]).i + 0))]).i = x6) ∧ (((Ff 271 [(xI (x0 + 0)), (xI (x1 + 0)), (xI (x2 + 0)), (xI (x3 + 0)), (xI (x4 + 0)), (xI (x5 + 0)), (xI ((Ff 260 [(xI (x0 + 0)), (xI (x1 + 0)), (xI (x2 + 0)), (xI (x3 + 0)), (xI (x4 + 0)), (xI (x5 + 0)), (xI (x6 + 0)), (xI (x7 + 0)), (xI (x8 + 0))]).i + 0))]).i = x7) ∧ ((Ff 272 [(xI (x0 + 0)), (xI (x1 + 0)), (xI (x2 + 0)), (xI (x3 + 0)), (xI (x4 + 0)), (xI (x5 + 0)), (xI ((Ff 260 [(xI (x0 + 0)), (xI (x1 + 0)), (xI (x2 + 0)), (xI (x3 + 0)), (xI (x4 + 0)), (xI (x5 + 0)), (xI (x6 + 0)), (xI (x7 + 0)), (xI (x8 + 0))]).i + 0))]).i = x8)))) ∨ (¬ ((Ff 273 [(xI (x0 + 0)), (xI (x1 + 0)), (xI (x2 + 0)), (xI (x3 + 0)), (xI (x4 + 0)), (xI (x5 + 0)), (xI ((Ff 260 [(xI (x0 + 0)), (xI (x1 + 0)), (xI (x2 + 0)), (xI (x3 + 0)), (xI (x4 + 0)), (xI (x5 + 0)), (xI (x6 + 0)), (xI (x7 + 0)), (xI (x8 + 0))]).i + 0))]).b = true)))) →
            (false = true))
          ∧
           ((¬ ((0 ≤ (Ff 260 [(xI (x0 + 0)), (xI (x1 + 0)), (xI (x2 + 0)), (xI (x3 + 0)), (xI (x4 + 0)), (xI (x5 + 0)), (xI (x6 + 0)), (xI (x7 + 0)), (xI (x8 + 0))]).i) ∧ ((¬ (((Ff 270 [(xI (x0 + 0)), (xI (x1 + 0)), (xI (x2 + 0)), (xI (x3 + 0)), (xI (x4 + 0)), (xI (x5 + 0)), (xI ((Ff 260 [(xI (x0 + 0)), (xI (x1 + 0)), (xI (x2 + 0)), (xI (x3 + 0)), (xI (x4 + 0)), (xI (x5 + 0)), (xI (x6 + 0)), (xI (x7 + 0)), (xI (x8 + 0))]).i + 0))]).i = x6) ∧ (((Ff 271 [(xI (x0 + 0)), (xI (x1 + 0)), (xI (x2 + 0)), (xI (x3 + 0)), (xI (x4 + 0)), (xI (x5 + 0)), (xI ((Ff 260 [(xI (x0 + 0)), (xI (x1 + 0)), (xI (x2 + 0)), (xI (x3 + 0)), (xI (x4 + 0)), (xI (x5 + 0)), (xI (x6 + 0)), (xI (x7 + 0)), (xI (x8 + 0))]).i + 0))]).i = x7) ∧ ((Ff 272 [(xI (x0 + 0)), (xI (x1 + 0)), (xI (x2 + 0)), (xI (x3 + 0)), (xI (x4 + 0)), (xI (x5 + 0)), (xI ((Ff 260 [(xI (x0 + 0)), (xI (x1 + 0)), (xI (x2 + 0)), (xI (x3 + 0)), (xI (x4 + 0)), (xI (x5 + 0)), (xI (x6 + 0)), (xI (x7 + 0)), (xI (x8 + 0))]).i + 0))]).i = x8)))) ∨ (¬ ((Ff 273 [(xI (x0 + 0)), (xI (x1 + 0)), (xI (x2 + 0)), (xI (x3 + 0)), (xI (x4 + 0)), (xI (x5 + 0)), (xI ((Ff 260 [(xI (x0 + 0)), (xI (x1 + 0)), (xI (x2 + 0)), (xI (x3 + 0)), (xI (x4 + 0)), (xI (x5 + 0)), (xI (x6 + 0)), (xI (x7 + 0)), (xI (x8 + 0))]).i + 0))]).b = true))))) →
            (
             ((¬ (((Ff 273 [(xI (x0 + 0)), (xI (x1 + 0)), (xI (x2 + 0)), (xI (x3 + 0)), (xI (x4 + 0)), (xI (x5 + 0)), (xI (x9 + 0))]).b == ((decide (0 ≤ x9)) && (decide (x9 < (Ff 210 [(xI (x0 + 0)), (xI (x1 + 0)), (xI (x2 + 0)), (xI (x3 + 0)), (xI (x4 + 0)), (xI (x5 + 0))]).i)))) = true)) →
              (false = true))
            ∧
             ((((Ff 273 [(xI (x0 + 0)), (xI (x1 + 0)), (xI (x2 + 0)), (xI (x3 + 0)), (xI (x4 + 0)), (xI (x5 + 0)), (xI (x9 + 0))]).b == ((decide (0 ≤ x9)) && (decide (x9 < (Ff 210 [(xI (x0 + 0)), (xI (x1 + 0)), (xI (x2 + 0)), (xI (x3 + 0)), (xI (x4 + 0)), (xI (x5 + 0))]).i)))) = true) →
              (
               ((¬ ((Ff 273 [(xI (x0 + 0)), (xI (x1 + 0)), (xI (x2 + 0)), (xI (x3 + 0)), (xI (x4 + 0)), (xI (x5 + 0)), (xI (x9 + 0))]).b = true)) →
                (((Ff 270 [(xI (x0 + 0)), (xI (x1 + 0)), (xI (x2 + 0)), (xI (x3 + 0)), (xI (x4 + 0)), (xI (x5 + 0)), (xI (x9 + 0))]).i = 0) ∧ (((Ff 271 [(xI (x0 + 0)), (xI (x1 + 0)), (xI (x2 + 0)), (xI (x3 + 0)), (xI (x4 + 0)), (xI (x5 + 0)), (xI (x9 + 0))]).i = 0) ∧ ((Ff 272 [(xI (x0 + 0)), (xI (x1 + 0)), (xI (x2 + 0)), (xI (x3 + 0)), (xI (x4 + 0)), (xI (x5 + 0)), (xI (x9 + 0))]).i = 0))))
              ∧
               (((Ff 273 [(xI (x0 + 0)), (xI (x1 + 0)), (xI (x2 + 0)), (xI (x3 + 0)), (xI (x4 + 0)), (xI (x5 + 0)), (xI (x9 + 0))]).b = true) →
                (
                 ((((Ff 270 [(xI (x0 + 0)), (xI (x1 + 0)), (xI (x2 + 0)), (xI (x3 + 0)), (xI (x4 + 0)), (xI (x5 + 0)), (xI (x9 + 0))]).i + 1) = x3) →
                  (
                   ((((Ff 271 [(xI (x0 + 0)), (xI (x1 + 0)), (xI (x2 + 0)), (xI (x3 + 0)), (xI (x4 + 0)), (xI (x5 + 0)), (xI (x9 + 0))]).i + 1) = x4) →
                    ((((Ff 260 [(xI (x0 + 0)), (xI (x1 + 0)), (xI (x2 + 0)), (xI (x3 + 0)), (xI (x4 + 0)), (xI (x5 + 0)), (xI ((Ff 270 [(xI (x0 + 0)), (xI (x1 + 0)), (xI (x2 + 0)), (xI (x3 + 0)), (xI (x4 + 0)), (xI (x5 + 0)), (xI (x9 + 0))]).i + 0)), (xI ((Ff 271 [(xI (x0 + 0)), (xI (x1 + 0)), (xI (x2 + 0)), (xI (x3 + 0)), (xI (x4 + 0)), (xI (x5 + 0)), (xI (x9 + 0))]).i + 0)), (xI ((Ff 272 [(xI (x0 + 0)), (xI (x1 + 0)), (xI (x2 + 0)), (xI (x3 + 0)), (xI (x4 + 0)), (xI (x5 + 0)), (xI (x9 + 0))]).i + 0))]).i = x9) ∧ ((¬ ((Ff 273 [(xI (x0 + 0)), (xI (x1 + 0)), (xI (x2 + 0)), (xI (x3 + 0)), (xI (x4 + 0)), (xI (x5 + 0)), (xI ((IntKind.wrap Go.IntKind.i64 (x9 + 1)) + 0))]).b = true)) ∨ (((Ff 270 [(xI (x0 + 0)), (xI (x1 + 0)), (xI (x2 + 0)), (xI (x3 + 0)), (xI (x4 + 0)), (xI (x5 + 0)), (xI ((IntKind.wrap Go.IntKind.i64 (x9 + 1)) + 0))]).i = x0) ∧ (((Ff 271 [(xI (x0 + 0)), (xI (x1 + 0)), (xI (x2 + 0)), (xI (x3 + 0)), (xI (x4 + 0)), (xI (x5 + 0)), (xI ((IntKind.wrap Go.IntKind.i64 (x9 + 1)) + 0))]).i = x1) ∧ ((Ff 272 [(xI (x0 + 0)), (xI (x1 + 0)), (xI (x2 + 0)), (xI (x3 + 0)), (xI (x4 + 0)), (xI (x5 + 0)), (xI ((IntKind.wrap Go.IntKind.i64 (x9 + 1)) + 0))]).i = ((Ff 272 [(xI (x0 + 0)), (xI (x1 + 0)), (xI (x2 + 0)), (xI (x3 + 0)), (xI (x4 + 0)), (xI (x5 + 0)), (xI (x9 + 0))]).i + 1)))))) ∧ (((Ff 273 [(xI (x0 + 0)), (xI (x1 + 0)), (xI (x2 + 0)), (xI (x3 + 0)), (xI (x4 + 0)), (xI (x5 + 0)), (xI ((IntKind.wrap Go.IntKind.i64 (x9 + 1)) + 0))]).b == (decide (((Ff 272 [(xI (x0 + 0)), (xI (x1 + 0)), (xI (x2 + 0)), (xI (x3 + 0)), (xI (x4 + 0)), (xI (x5 + 0)), (xI (x9 + 0))]).i + 1) < x5))) = true)))
                  ∧
                   ((¬ (((Ff 271 [(xI (x0 + 0)), (xI (x1 + 0)), (xI (x2 + 0)), (xI (x3 + 0)), (xI (x4 + 0)), (xI (x5 + 0)), (xI (x9 + 0))]).i + 1) = x4)) →
                    ((((Ff 260 [(xI (x0 + 0)), (xI (x1 + 0)), (xI (x2 + 0)), (xI (x3 + 0)), (xI (x4 + 0)), (xI (x5 + 0)), (xI ((Ff 270 [(xI (x0 + 0)), (xI (x1 + 0)), (xI (x2 + 0)), (xI (x3 + 0)), (xI (x4 + 0)), (xI (x5 + 0)), (xI (x9 + 0))]).i + 0)), (xI ((Ff 271 [(xI (x0 + 0)), (xI (x1 + 0)), (xI (x2 + 0)), (xI (x3 + 0)), (xI (x4 + 0)), (xI (x5 + 0)), (xI (x9 + 0))]).i + 0)), (xI ((Ff 272 [(xI (x0 + 0)), (xI (x1 + 0)), (xI (x2 + 0)), (xI (x3 + 0)), (xI (x4 + 0)), (xI (x5 + 0)), (xI (x9 + 0))]).i + 0))]).i = x9) ∧ ((¬ ((Ff 273 [(xI (x0 + 0)), (xI (x1 + 0)), (xI (x2 + 0)), (xI (x3 + 0)), (xI (x4 + 0)), (xI (x5 + 0)), (xI ((IntKind.wrap Go.IntKind.i64 (x9 + 1)) + 0))]).b = true)) ∨ (((Ff 270 [(xI (x0 + 0)), (xI (x1 + 0)), (xI (x2 + 0)), (xI (x3 + 0)), (xI (x4 + 0)), (xI (x5 + 0)), (xI ((IntKind.wrap Go.IntKind.i64 (x9 + 1)) + 0))]).i = x0) ∧ (((Ff 271 [(xI (x0 + 0)), (xI (x1 + 0)), (xI (x2 + 0)), (xI (x3 + 0)), (xI (x4 + 0)), (xI (x5 + 0)), (xI ((IntKind.wrap Go.IntKind.i64 (x9 + 1)) + 0))]).i = ((Ff 271 [(xI (x0 + 0)), (xI (x1 + 0)), (xI (x2 + 0)), (xI (x3 + 0)), (xI (x4 + 0)), (xI (x5 + 0)), (xI (x9 + 0))]).i + 1)) ∧ ((Ff 272 [(xI (x0 + 0)), (xI (x1 + 0)), (xI (x2 + 0)), (xI (x3 + 0)), (xI (x4 + 0)), (xI (x5 + 0)), (xI ((IntKind.wrap Go.IntKind.i64 (x9 + 1)) + 0))]).i = (Ff 272 [(xI (x0 + 0)), (xI (x1 + 0)), (xI (x2 + 0)), (xI (x3 + 0)), (xI (x4 + 0)), (xI (x5 + 0)), (xI (x9 + 0))]).i))))) ∧ (((Ff 273 [(xI (x0 + 0)), (xI (x1 + 0)), (xI (x2 + 0)), (xI (x3 + 0)), (xI (x4 + 0)), (xI (x5 + 0)), (xI ((IntKind.wrap Go.IntKind.i64 (x9 + 1)) + 0))]).b == (decide ((Ff 272 [(xI (x0 + 0)), (xI (x1 + 0)), (xI (x2 + 0)), (xI (x3 + 0)), (xI (x4 + 0)), (xI (x5 + 0)), (xI (x9 + 0))]).i < x5))) = true)))))
                ∧
                 ((¬ (((Ff 270 [(xI (x0 + 0)), (xI (x1 + 0)), (xI (x2 + 0)), (xI (x3 + 0)), (xI (x4 + 0)), (xI (x5 + 0)), (xI (x9 + 0))]).i + 1) = x3)) →
                  (
                   (((Ff 271 [(xI (x0 + 0)), (xI (x1 + 0)), (xI (x2 + 0)), (xI (x3 + 0)), (xI (x4 + 0)), (xI (x5 + 0)), (xI (x9 + 0))]).i = x4) →
                    ((((Ff 260 [(xI (x0 + 0)), (xI (x1 + 0)), (xI (x2 + 0)), (xI (x3 + 0)), (xI (x4 + 0)), (xI (x5 + 0)), (xI ((Ff 270 [(xI (x0 + 0)), (xI (x1 + 0)), (xI (x2 + 0)), (xI (x3 + 0)), (xI (x4 + 0)), (xI (x5 + 0)), (xI (x9 + 0))]).i + 0)), (xI ((Ff 271 [(xI (x0 + 0)), (xI (x1 + 0)), (xI (x2 + 0)), (xI (x3 + 0)), (xI (x4 + 0)), (xI (x5 + 0)), (xI (x9 + 0))]).i + 0)), (xI ((Ff 272 [(xI (x0 + 0)), (xI (x1 + 0)), (xI (x2 + 0)), (xI (x3 + 0)), (xI (x4 + 0)), (xI (x5 + 0)), (xI (x9 + 0))]).i + 0))]).i = x9) ∧ ((¬ ((Ff 273 [(xI (x0 + 0)), (xI (x1 + 0)), (xI (x2 + 0)), (xI (x3 + 0)), (xI (x4 + 0)), (xI (x5 + 0)), (xI ((IntKind.wrap Go.IntKind.i64 (x9 + 1)) + 0))]).b = true)) ∨ (((Ff 270 [(xI (x0 + 0)), (xI (x1 + 0)), (xI (x2 + 0)), (xI (x3 + 0)), (xI (x4 + 0)), (xI (x5 + 0)), (xI ((IntKind.wrap Go.IntKind.i64 (x9 + 1)) + 0))]).i = x0) ∧ (((Ff 271 [(xI (x0 + 0)), (xI (x1 + 0)), (xI (x2 + 0)), (xI (x3 + 0)), (xI (x4 + 0)), (xI (x5 + 0)), (xI ((IntKind.wrap Go.IntKind.i64 (x9 + 1)) + 0))]).i = x1) ∧ ((Ff 272 [(xI (x0 + 0)), (xI (x1 + 0)), (xI (x2 + 0)), (xI (x3 + 0)), (xI (x4 + 0)), (xI (x5 + 0)), (xI ((IntKind.wrap Go.IntKind.i64 (x9 + 1)) + 0))]).i = ((Ff 272 [(xI (x0 + 0)), (xI (x1 + 0)), (xI (x2 + 0)), (xI (x3 + 0)), (xI (x4 + 0)), (xI (x5 + 0)), (xI (x9 + 0))]).i + 1)))))) ∧ (((Ff 273 [(xI (x0 + 0)), (xI (x1 + 0)), (xI (x2 + 0)), (xI (x3 + 0)), (xI (x4 + 0)), (xI (x5 + 0)), (xI ((IntKind.wrap Go.IntKind.i64 (x9 + 1)) + 0))]).b == (decide (((Ff 272 [(xI (x0 + 0)), (xI (x1 + 0)), (xI (x2 + 0)), (xI (x3 + 0)), (xI (x4 + 0)), (xI (x5 + 0)), (xI (x9 + 0))]).i + 1) < x5))) = true)))
                  ∧
                   ((¬ ((Ff 271 [(xI (x0 + 0)), (xI (x1 + 0)), (xI (x2 + 0)), (xI (x3 + 0)), (xI (x4 + 0)), (xI (x5 + 0)), (xI (x9 + 0))]).i = x4)) →
                    ((((Ff 260 [(xI (x0 + 0)), (xI (x1 + 0)), (xI (x2 + 0)), (xI (x3 + 0)), (xI (x4 + 0)), (xI (x5 + 0)), (xI ((Ff 270 [(xI (x0 + 0)), (xI (x1 + 0)), (xI (x2 + 0)), (xI (x3 + 0)), (xI (x4 + 0)), (xI (x5 + 0)), (xI (x9 + 0))]).i + 0)), (xI ((Ff 271 [(xI (x0 + 0)), (xI (x1 + 0)), (xI (x2 + 0)), (xI (x3 + 0)), (xI (x4 + 0)), (xI (x5 + 0)), (xI (x9 + 0))]).i + 0)), (xI ((Ff 272 [(xI (x0 + 0)), (xI (x1 + 0)), (xI (x2 + 0)), (xI (x3 + 0)), (xI (x4 + 0)), (xI (x5 + 0)), (xI (x9 + 0))]).i + 0))]).i = x9) ∧ ((¬ ((Ff 273 [(xI (x0 + 0)), (xI (x1 + 0)), (xI (x2 + 0)), (xI (x3 + 0)), (xI (x4 + 0)), (xI (x5 + 0)), (xI ((IntKind.wrap Go.IntKind.i64 (x9 + 1)) + 0))]).b = true)) ∨ (((Ff 270 [(xI (x0 + 0)), (xI (x1 + 0)), (xI (x2 + 0)), (xI (x3 + 0)), (xI (x4 + 0)), (xI (x5 + 0)), (xI ((IntKind.wrap Go.IntKind.i64 (x9 + 1)) + 0))]).i = ((Ff 270 [(xI (x0 + 0)), (xI (x1 + 0)), (xI (x2 + 0)), (xI (x3 + 0)), (xI (x4 + 0)), (xI (x5 + 0)), (xI (x9 + 0))]).i + 1)) ∧ (((Ff 271 [(xI (x0 + 0)), (xI (x1 + 0)), (xI (x2 + 0)), (xI (x3 + 0)), (xI (x4 + 0)), (xI (x5 + 0)), (xI ((IntKind.wrap Go.IntKind.i64 (x9 + 1)) + 0))]).i = (Ff 271 [(xI (x0 + 0)), (xI (x1 + 0)), (xI (x2 + 0)), (xI (x3 + 0)), (xI (x4 + 0)), (xI (x5 + 0)), (xI (x9 + 0))]).i) ∧ ((Ff 272 [(xI (x0 + 0)), (xI (x1 + 0)), (xI (x2 + 0)), (xI (x3 + 0)), (xI (x4 + 0)), (xI (x5 + 0)), (xI ((IntKind.wrap Go.IntKind.i64 (x9 + 1)) + 0))]).i = (Ff 272 [(xI (x0 + 0)), (xI (x1 + 0)), (xI (x2 + 0)), (xI (x3 + 0)), (xI (x4 + 0)), (xI (x5 + 0)), (xI (x9 + 0))]).i))))) ∧ (((Ff 273 [(xI (x0 + 0)), (xI (x1 + 0)), (xI (x2 + 0)), (xI (x3 + 0)), (xI (x4 + 0)), (xI (x5 + 0)), (xI ((IntKind.wrap Go.IntKind.i64 (x9 + 1)) + 0))]).b == (decide ((Ff 272 [(xI (x0 + 0)), (xI (x1 + 0)), (xI (x2 + 0)), (xI (x3 + 0)), (xI (x4 + 0)), (xI (x5 + 0)), (xI (x9 + 0))]).i < x5))) = true))))))))))))))))))))
noncomputable def av : List SV := match argsS Tryd.prog [31, 23, 3] 0 with | some (vs, _) => vs | none => []
noncomputable def ks : List Lf := match argsS Tryd.prog [31, 23, 3] 0 with | some (_, ks) => ks | none => []
theorem link (x : Nat → X) : (walkF Tryd.prog (cf0 L4) Tryd.f8 20000 av).law { ρ0 with x := x } = lawP (x 0).i (x 1).i (x 2).i (x 3).i (x 4).i (x 5).i (x 6).i (x 7).i (x 8).i (x 9).i := by kernel_rfl
set_option maxHeartbeats 1000000 in
theorem lawP_ok (x0 : Int) (x1 : Int) (x2 : Int) (x3 : Int) (x4 : Int) (x5 : Int) (x6 : Int) (x7 : Int) (x8 : Int) (x9 : Int) (h0 : -9223372036854775808 ≤ x0 ∧ x0 ≤ 9223372036854775807) (h1 : -9223372036854775808 ≤ x1 ∧ x1 ≤ 9223372036854775807) (h2 : -9223372036854775808 ≤ x2 ∧ x2 ≤ 9223372036854775807) (h3 : -9223372036854775808 ≤ x3 ∧ x3 ≤ 9223372036854775807) (h4 : -9223372036854775808 ≤ x4 ∧ x4 ≤ 9223372036854775807) (h5 : -9223372036854775808 ≤ x5 ∧ x5 ≤ 9223372036854775807) (h6 : -9223372036854775808 ≤ x6 ∧ x6 ≤ 9223372036854775807) (h7 : -9223372036854775808 ≤ x7 ∧ x7 ≤ 9223372036854775807) (h8 : -9223372036854775808 ≤ x8 ∧ x8 ≤ 9223372036854775807) (h9 : -9223372036854775808 ≤ x9 ∧ x9 ≤ 9223372036854775807) : lawP x0 x1 x2 x3 x4 x5 x6 x7 x8 x9 := by
  unfold lawP
  refine ⟨fun _ => rfl, fun r0 => ⟨fun _ => rfl, fun r1 => ⟨fun _ => rfl, fun r2 => ?_⟩⟩⟩
  simp only [not_or, Int.not_lt] at r0 r1 r2
  obtain ⟨⟨⟨⟨⟨⟨-, p0⟩, p1⟩, p2⟩, q0⟩, q1⟩, q2⟩ := r0
  obtain ⟨⟨⟨⟨⟨⟨-, p3⟩, p4⟩, p5⟩, q3⟩, q4⟩, q5⟩ := r1
  clear r2
  simp only [Int.add_zero]
  simp only [G201, G210, G260, G270, G271, G272, G273, xI_i, xB_b]
  have I := id_iff x0 x1 x2 x3 x4 x5 x6 x7 x8
  refine ⟨?_, fun _ => ⟨?_, fun _ => ⟨?_, fun _ => ⟨?_, ?_⟩⟩⟩⟩
  · intro h
    exfalso
    rcases h with h | ⟨h1, h2⟩
    · exact h (beq_dec I)
    · have := id_lt (I.1 h2)
      unfold okB at this
      omega
  · rintro ⟨h2, h⟩
    exfalso
    have w := I.1 h2
    rcases h with h | h
    · exact h (at_id w)
    · exact h (dec_t (id_lt w))
  · intro h
    exfalso
    exact h (beq_dec2 Iff.rfl)
  · intro h
    have h : ¬ okB x0 x1 x2 x3 x4 x5 x9 := fun k => h (dec_t k)
    simp [atX, atY, atZ, h]
  · intro h
    have h := t_dec h
    have v := vol_rng ⟨p0, q0⟩ ⟨p1, q1⟩ ⟨p2, q2⟩ ⟨p3, q3⟩ ⟨p4, q4⟩ ⟨p5, q5⟩
    have h' := h
    unfold okB at h'
    have w : IntKind.i64.wrap (x9 + 1) = x9 + 1 := wrap_fits (by simp only [kmin, kmax]; omega)
    rw [w]
    have i := at_in h
    have d := id_at h
    refine ⟨fun nx => ⟨fun ny => ?_, fun ny => ?_⟩, fun nx => ⟨fun ny => ?_, fun ny => ?_⟩⟩
    · have s := stepC h nx ny
      refine ⟨⟨d, ?_⟩, beq_dec s.1⟩
      by_cases o : okB x0 x1 x2 x3 x4 x5 (x9 + 1)
      · exact Or.inr (s.2 o)
      · exact Or.inl (fun k => o (t_dec k))
    · have s := stepB h nx ny
      exact ⟨⟨d, Or.inr s.2⟩, beq_dec ⟨fun _ => i.2.2.2.2.2, fun _ => s.1⟩⟩
    · exfalso
      have := i.2.2.2.1
      omega
    · have s := stepA h nx
      exact ⟨⟨d, Or.inr s.2⟩, beq_dec ⟨fun _ => i.2.2.2.2.2, fun _ => s.1⟩⟩

/-! ### The frame -/
theorem lawful (x : Nat → X) (h : XsOk ks 0 x) : (walkF Tryd.prog (cf0 L4) Tryd.f8 20000 av).law { ρ0 with x := x } := by
  rw [link]
  have e : ks = [.int .i64, .int .i64, .int .i64, .int .i64, .int .i64, .int .i64, .int .i64, .int .i64, .int .i64, .int .i64] := by kernel_rfl
  rw [e] at h
  obtain ⟨k0, k1, k2, k3, k4, k5, k6, k7, k8, k9, _⟩ := h
  exact lawP_ok _ _ _ _ _ _ _ _ _ _ ⟨k0.2.1, k0.2.2⟩ ⟨k1.2.1, k1.2.2⟩ ⟨k2.2.1, k2.2.2⟩ ⟨k3.2.1, k3.2.2⟩ ⟨k4.2.1, k4.2.2⟩ ⟨k5.2.1, k5.2.2⟩ ⟨k6.2.1, k6.2.2⟩ ⟨k7.2.1, k7.2.2⟩ ⟨k8.2.1, k8.2.2⟩ ⟨k9.2.1, k9.2.2⟩
theorem shape {H : Type} {ds : List (DataW H)} (h : ds.length = 3) : Rows.pointIndicesSpec.fn H ds = { results := [.lit (.bool true)], args := ds } := by
  match ds, h with
  | [d1, d2, d3], _ => rfl
theorem calls {H : Type} {enc : TypeId × Value → H} (W : World) (base : Nat) (args : Array Value) (ds : List (DataW H)) (p : List MemPlace) (hval : ∀ (j : Nat) t v, Tryd.f8.params[j]? = some t → args[j]? = some v → Value.okWide Tryd.prog W .any base t v)
    (hA : DataW.TrodAll enc Tryd.prog W 0 (fun _ => true) true Tryd.f8.params.toList args.toList ds p) (hg : GlobOk ρ0.g W.heap.size W) : Calls Tryd.prog 8 args W fun e w' => e = .returned (.bool true) ∧ Below W.heap.size W w' := by
  rw [Tryd.params8] at hA hval
  have ha : argsS Tryd.prog [31, 23, 3] 0 = some (av, ks) := by kernel_rfl
  let x : Nat → X := fun j => ((args.toList.flatMap fun v => v.cells.toList).map valX).getD j (xI 0)
  obtain ⟨hv, hx⟩ := argsS_ok (ρ := { ρ0 with x := x }) (b0 := base) (r := .any) hA (fun i t v ht hv => hval i t v (by simpa using ht) (by simpa using hv)) ha (fun i v hi => by
    show ((args.toList.flatMap fun v => v.cells.toList).map valX).getD (0 + i) (xI 0) = valX v
    rw [Nat.zero_add, List.getD_eq_getElem?_getD, List.getElem?_map, hi]; rfl)
  have := law_calls ((L4_ok).withX x) Tryd.func8 rfl 20000 (vs := av) (us := args.toList) hg hv (lawful x hx)
  simpa using this
set_option maxRecDepth 100000 in
theorem lifted (os : Os) (started : os.Started) (H : Type) (enc : TypeId × Value → H) :
    ReturnsInHanded {} Tryd.checked os 8 .any (fun w args => (Rows.pointIndicesSpec.pre enc Tryd.prog Tryd.f8 [] false w args ∧ laidMetH Tryd.prog [("voxel/point.axes", Rows.laid_voxel_point_axes)] w) ∧ sizedMet enc Tryd.prog Tryd.f8 (OpenSpec.ofChange Rows.pointIndicesSpec) false w args)
      (Rows.pointIndicesSpec.post enc Tryd.prog Tryd.f8 false true false false) := by
  refine returnsInHanded_of_change_and (C := Tryd.checked) (X := fun w _ => laidMetH Tryd.prog [("voxel/point.axes", Rows.laid_voxel_point_axes)] w) (fun _ _ _ hh h => h.of_heap hh) own started (by kernel_rfl) Tryd.func8
    (ChangeSpec.witness_shaped (enc := enc) (C := Tryd.checked) (os := os) (X := fun w _ => laidMetH Tryd.prog [("voxel/point.axes", Rows.laid_voxel_point_axes)] w) false (World.doorLaid Tryd.prog 400 os) #[((Tryd.prog.info? 31).bind (·.zero)).getD undef, ((Tryd.prog.info? 23).bind (·.zero)).getD undef, ((Tryd.prog.info? 3).bind (·.zero)).getD undef] 8 rfl (World.shaped_of_RefB (by kernel_rfl) (by kernel_rfl)) (by kernel_rfl) (by kernel_rfl) (by kernel_rfl) (door_met os _)) ?_
  intro W base args ds gs before hval hW _ _ hL _
  have hW0 := hW
  obtain ⟨p, q, hA, hV, _⟩ := hW0
  have hlen : ds.length = 3 := (trodAll_len hA).trans (by kernel_rfl)
  refine (calls W base args ds p hval hA (glob_ok hL)).mono fun e W' ⟨he, hb⟩ => ?_
  subst he
  exact ⟨_, rfl, law_post kids slices (by rw [Tryd.params8]; decide +kernel) rfl rfl Tryd.underlying4 (shape hlen) hW hb⟩
theorem over : Rows.PointIndicesSaid :=
  OpenClaim.holds_of_wide 8 Tryd.f8 rfl rfl rfl rfl rfl rfl rfl ⟨rfl, rfl, rfl, rfl, rfl⟩ rfl rfl rfl rfl rfl (by kernel_rfl) Tryd.func8 (by kernel_rfl)
    (of_decide_eq_true (by kernel_rfl)) (by unfold Func.isWrapper; first | (rw [if_pos (by decide +kernel)]; kernel_rfl) | (rw [if_neg (by decide +kernel)]; exact ⟨rfl, rfl⟩))
    (fun os started H enc _ => lifted os started H enc)

/-- The statement: the row, its listed variable tied to the program's text. -/
theorem proved : Rows.PointIndicesCardSaid :=
  Claim7.holds_tied_plain_at .later [] [.data] true (true, "e06bc72d9a7e7cd65c2c3e37c6b12438da0942b734f801b351da7f25b9e73c95") false
    over (fun _ h => by cases h) (by kernel_rfl) (fun _ h => by cases h) pointIndices_row_tie rfl ⟨rfl, rfl⟩ (by kernel_rfl) rfl
    (fun f fn hf hfn => by
      obtain rfl : f = 8 := Option.some.inj ((show Tryd.prog.funcNamed "voxel/voxellaw04.PointIndices" = some 8 by kernel_rfl).symm.trans hf) |>.symm
      obtain rfl : fn = Tryd.f8 := (Option.some.inj (Tryd.func8.symm.trans hfn)).symm
      exact ⟨by kernel_rfl, fun j t ht => by
        rw [Tryd.params8] at ht
        have hm : t ∈ [31, 23, 3] := by simpa using Array.mem_of_getElem? ht
        have hall : ([31, 23, 3].all fun u => !Tryd.prog.wantsStandIn u) = true := by kernel_rfl
        exact (show Tryd.prog.wantsStandIn t = false by simpa using List.all_eq_true.1 hall t hm)⟩)
    (by kernel_rfl)
#print axioms proved
end Go.Proofs.YtfpecoddgdcaaaaDoor.pointIndices
