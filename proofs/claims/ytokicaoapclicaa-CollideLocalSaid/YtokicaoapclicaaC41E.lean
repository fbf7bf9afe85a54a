/- Contracts of functions, each out of one walk. -/
import Derived.Test.YtokicaoapclicaaC41D
import Derived.Test.YtokicaoapclicaaC41M
namespace Go.Proofs.Ytokicaoapclicaa
namespace Vc
open Go Go.RowKit
set_option linter.unusedVariables false

/-- What is left of the contract of collide.Slide. -/
def SlP (x0 : X) (x1 : Int) (x2 : Int) (x3 : Int) (x4 : Int) (x5 : Int) (x6 : Int) (x7 : Int) (x8 : Int) : Prop :=
  (
   ((((x7 < 0) ∨ (3 ≤ x7)) ∨ ((Ff 601 [x0, (xI x1), (xI x2), (xI x3), (xI x4), (xI x5), (xI x6)]).b = true)) →
    (0 = (Ff 602 [x0, xI x1, xI x2, xI x3, xI x4, xI x5, xI x6, xI x7, xI x8]).i ∧ -64 ≤ (Ff 602 [x0, xI x1, xI x2, xI x3, xI x4, xI x5, xI x6, xI x7, xI x8]).i ∧ (Ff 602 [x0, xI x1, xI x2, xI x3, xI x4, xI x5, xI x6, xI x7, xI x8]).i ≤ 64))
  ∧
   ((¬ (((x7 < 0) ∨ (3 ≤ x7)) ∨ ((Ff 601 [x0, (xI x1), (xI x2), (xI x3), (xI x4), (xI x5), (xI x6)]).b = true))) →
    (
     Px 623 [x0, (xI x1), (xI x2), (xI x3), (xI x4), (xI x5), (xI x6), (xI x7), (xI x8), (xI 0), (xI x8)]
    ∧
     (∀ x20 : X,
      (∀ x21 : X,
       (((0 ≤ x20.i) ∧ (x20.i ≤ 9223372036854775807)) →
        ((((-64) ≤ x21.i) ∧ (x21.i ≤ 64)) →
         (Px 623 [x0, (xI x1), (xI x2), (xI x3), (xI x4), (xI x5), (xI x6), (xI x7), (xI x8), x20, x21] →
          (
           ((x20.i < x0.i) →
            (
             (x20.i < x0.i)
            ∧
             (
              ((x7 = 0) →
               (
                (((¬ ((Ff 601 [(mkX (rwTab 6 [(xI x1), (selX x0.r x20.i 1), (selX x0.r x20.i 2), (xI x4), (selX x0.r x20.i 4), (selX x0.r x20.i 5)]) 1), (xI x1), (xI x2), (xI x3), (xI x4), (xI x5), (xI x6)]).b = true)) ∨ ((x0.r x20.i 3).i ≤ (x0.r x20.i 0).i)) →
                 (
                  (x7 = 0)
                 ∧
                  (
                   (x7 = 0)
                  ∧
                   (
                    (x7 = 0)
                   ∧
                    (
                     Px 623 [x0, (xI x1), (xI x2), (xI x3), (xI x4), (xI x5), (xI x6), (xI x7), (xI x8), (xI (x20.i + 1)), (xI x21.i)]
                    ∧
                     (
                      ((Ff 651 [x0, (xI x1), (xI x2), (xI x3), (xI x4), (xI x5), (xI x6), (xI x7), (xI x8), (xI (x20.i + 1)), (xI x21.i)]).i < (Ff 651 [x0, (xI x1), (xI x2), (xI x3), (xI x4), (xI x5), (xI x6), (xI x7), (xI x8), x20, x21]).i)
                     ∧
                      (0 < (Ff 651 [x0, (xI x1), (xI x2), (xI x3), (xI x4), (xI x5), (xI x6), (xI x7), (xI x8), x20, x21]).i)))))))
               ∧
                ((¬ ((¬ ((Ff 601 [(mkX (rwTab 6 [(xI x1), (selX x0.r x20.i 1), (selX x0.r x20.i 2), (xI x4), (selX x0.r x20.i 4), (selX x0.r x20.i 5)]) 1), (xI x1), (xI x2), (xI x3), (xI x4), (xI x5), (xI x6)]).b = true)) ∨ ((x0.r x20.i 3).i ≤ (x0.r x20.i 0).i))) →
                 (
                  (x7 = 0)
                 ∧
                  (
                   ((-64) ≤ (bif ((decide ((bif ((decide (0 < x21.i)) && (decide (0 ≤ ((x0.r x20.i 0).i - x4)))) then (min x21.i ((x0.r x20.i 0).i - x4)) else x21.i) < 0)) && (decide (((x0.r x20.i 3).i - x1) ≤ 0))) then (max (bif ((decide (0 < x21.i)) && (decide (0 ≤ ((x0.r x20.i 0).i - x4)))) then (min x21.i ((x0.r x20.i 0).i - x4)) else x21.i) ((x0.r x20.i 3).i - x1)) else (bif ((decide (0 < x21.i)) && (decide (0 ≤ ((x0.r x20.i 0).i - x4)))) then (min x21.i ((x0.r x20.i 0).i - x4)) else x21.i)))
                  ∧
                   (
                    ((bif ((decide ((bif ((decide (0 < x21.i)) && (decide (0 ≤ ((x0.r x20.i 0).i - x4)))) then (min x21.i ((x0.r x20.i 0).i - x4)) else x21.i) < 0)) && (decide (((x0.r x20.i 3).i - x1) ≤ 0))) then (max (bif ((decide (0 < x21.i)) && (decide (0 ≤ ((x0.r x20.i 0).i - x4)))) then (min x21.i ((x0.r x20.i 0).i - x4)) else x21.i) ((x0.r x20.i 3).i - x1)) else (bif ((decide (0 < x21.i)) && (decide (0 ≤ ((x0.r x20.i 0).i - x4)))) then (min x21.i ((x0.r x20.i 0).i - x4)) else x21.i)) ≤ 64)
                   ∧
                    (
                     (x7 = 0)
                    ∧
                     (
                      (x7 = 0)
                     ∧
                      (
                       Px 623 [x0, (xI x1), (xI x2), (xI x3), (xI x4), (xI x5), (xI x6), (xI x7), (xI x8), (xI (x20.i + 1)), (xI (bif ((decide ((bif ((decide (0 < x21.i)) && (decide (0 ≤ ((x0.r x20.i 0).i - x4)))) then (min x21.i ((x0.r x20.i 0).i - x4)) else x21.i) < 0)) && (decide (((x0.r x20.i 3).i - x1) ≤ 0))) then (max (bif ((decide (0 < x21.i)) && (decide (0 ≤ ((x0.r x20.i 0).i - x4)))) then (min x21.i ((x0.r x20.i 0).i - x4)) else x21.i) ((x0.r x20.i 3).i - x1)) else (bif ((decide (0 < x21.i)) && (decide (0 ≤ ((x0.r x20.i 0).i - x4)))) then (min x21.i ((x0.r x20.i 0).i - x4)) else x21.i)))]
                      ∧
                       (
                        ((Ff 651 [x0, (xI x1), (xI x2), (xI x3), (xI x4), (xI x5), (xI x6), (xI x7), (xI x8), (xI (x20.i + 1)), (xI (bif ((decide ((bif ((decide (0 < x21.i)) && (decide (0 ≤ ((x0.r x20.i 0).i - x4)))) then (min x21.i ((x0.r x20.i 0).i - x4)) else x21.i) < 0)) && (decide (((x0.r x20.i 3).i - x1) ≤ 0))) then (max (bif ((decide (0 < x21.i)) && (decide (0 ≤ ((x0.r x20.i 0).i - x4)))) then (min x21.i ((x0.r x20.i 0).i - x4)) else x21.i) ((x0.r x20.i 3).i - x1)) else (bif ((decide (0 < x21.i)) && (decide (0 ≤ ((x0.r x20.i 0).i - x4)))) then (min x21.i ((x0.r x20.i 0).i - x4)) else x21.i)))]).i < (Ff 651 [x0, (xI x1), (xI x2), (xI x3), (xI x4), (xI x5), (xI x6), (xI x7), (xI x8), x20, x21]).i)
                       ∧
                        (0 < (Ff 651 [x0, (xI x1), (xI x2), (xI x3), (xI x4), (xI x5), (xI x6), (xI x7), (xI x8), x20, x21]).i)))))))))))
             ∧
              (
               ((x7 = 1) →
                (
                 (((¬ ((Ff 601 [(mkX (rwTab 6 [(selX x0.r x20.i 0), (xI x2), (selX x0.r x20.i 2), (selX x0.r x20.i 3), (xI x5), (selX x0.r x20.i 5)]) 1), (xI x1), (xI x2), (xI x3), (xI x4), (xI x5), (xI x6)]).b = true)) ∨ ((x0.r x20.i 4).i ≤ (x0.r x20.i 1).i)) →
                  (
                   (x7 = 1)
                  ∧
                   (
                    (x7 = 1)
                   ∧
                    (
                     (x7 = 1)
                    ∧
                     (
                      Px 623 [x0, (xI x1), (xI x2), (xI x3), (xI x4), (xI x5), (xI x6), (xI x7), (xI x8), (xI (x20.i + 1)), (xI x21.i)]
                     ∧
                      (
                       ((Ff 651 [x0, (xI x1), (xI x2), (xI x3), (xI x4), (xI x5), (xI x6), (xI x7), (xI x8), (xI (x20.i + 1)), (xI x21.i)]).i < (Ff 651 [x0, (xI x1), (xI x2), (xI x3), (xI x4), (xI x5), (xI x6), (xI x7), (xI x8), x20, x21]).i)
                      ∧
                       (0 < (Ff 651 [x0, (xI x1), (xI x2), (xI x3), (xI x4), (xI x5), (xI x6), (xI x7), (xI x8), x20, x21]).i)))))))
                ∧
                 ((¬ ((¬ ((Ff 601 [(mkX (rwTab 6 [(selX x0.r x20.i 0), (xI x2), (selX x0.r x20.i 2), (selX x0.r x20.i 3), (xI x5), (selX x0.r x20.i 5)]) 1), (xI x1), (xI x2), (xI x3), (xI x4), (xI x5), (xI x6)]).b = true)) ∨ ((x0.r x20.i 4).i ≤ (x0.r x20.i 1).i))) →
                  (
                   (x7 = 1)
                  ∧
                   (
                    ((-64) ≤ (bif ((decide ((bif ((decide (0 < x21.i)) && (decide (0 ≤ ((x0.r x20.i 1).i - x5)))) then (min x21.i ((x0.r x20.i 1).i - x5)) else x21.i) < 0)) && (decide (((x0.r x20.i 4).i - x2) ≤ 0))) then (max (bif ((decide (0 < x21.i)) && (decide (0 ≤ ((x0.r x20.i 1).i - x5)))) then (min x21.i ((x0.r x20.i 1).i - x5)) else x21.i) ((x0.r x20.i 4).i - x2)) else (bif ((decide (0 < x21.i)) && (decide (0 ≤ ((x0.r x20.i 1).i - x5)))) then (min x21.i ((x0.r x20.i 1).i - x5)) else x21.i)))
                   ∧
                    (
                     ((bif ((decide ((bif ((decide (0 < x21.i)) && (decide (0 ≤ ((x0.r x20.i 1).i - x5)))) then (min x21.i ((x0.r x20.i 1).i - x5)) else x21.i) < 0)) && (decide (((x0.r x20.i 4).i - x2) ≤ 0))) then (max (bif ((decide (0 < x21.i)) && (decide (0 ≤ ((x0.r x20.i 1).i - x5)))) then (min x21.i ((x0.r x20.i 1).i - x5)) else x21.i) ((x0.r x20.i 4).i - x2)) else (bif ((decide (0 < x21.i)) && (decide (0 ≤ ((x0.r x20.i 1).i - x5)))) then (min x21.i ((x0.r x20.i 1).i - x5)) else x21.i)) ≤ 64)
                    ∧
                     (
                      (x7 = 1)
                     ∧
                      (
                       (x7 = 1)
                      ∧
                       (
                        Px 623 [x0, (xI x1), (xI x2), (xI x3), (xI x4), (xI x5), (xI x6), (xI x7), (xI x8), (xI (x20.i + 1)), (xI (bif ((decide ((bif ((decide (0 < x21.i)) && (decide (0 ≤ ((x0.r x20.i 1).i - x5)))) then (min x21.i ((x0.r x20.i 1).i - x5)) else x21.i) < 0)) && (decide (((x0.r x20.i 4).i - x2) ≤ 0))) then (max (bif ((decide (0 < x21.i)) && (decide (0 ≤ ((x0.r x20.i 1).i - x5)))) then (min x21.i ((x0.r x20.i 1).i - x5)) else x21.i) ((x0.r x20.i 4).i - x2)) else (bif ((decide (0 < x21.i)) && (decide (0 ≤ ((x0.r x20.i 1).i - x5)))) then (min x21.i ((x0.r x20.i 1).i - x5)) else x21.i)))]
                       ∧
                        (
                         ((Ff 651 [x0, (xI x1), (xI x2), (xI x3), (xI x4), (xI x5), (xI x6), (xI x7), (xI x8), (xI (x20.i + 1)), (xI (bif ((decide ((bif ((decide (0 < x21.i)) && (decide (0 ≤ ((x0.r x20.i 1).i - x5)))) then (min x21.i ((x0.r x20.i 1).i - x5)) else x21.i) < 0)) && (decide (((x0.r x20.i 4).i - x2) ≤ 0))) then (max (bif ((decide (0 < x21.i)) && (decide (0 ≤ ((x0.r x20.i 1).i - x5)))) then (min x21.i ((x0.r x20.i 1).i - x5)) else x21.i) ((x0.r x20.i 4).i - x2)) else (bif ((decide (0 < x21.i)) && (decide (0 ≤ ((x0.r x20.i 1).i - x5)))) then (min x21.i ((x0.r x20.i 1).i - x5)) else x21.i)))]).i < (Ff 651 [x0, (xI x1), (xI x2), (xI x3), (xI x4), (xI x5), (xI x6), (xI x7), (xI x8), x20, x21]).i)
                        ∧
                         (0 < (Ff 651 [x0, (xI x1), (xI x2), (xI x3), (xI x4), (xI x5), (xI x6), (xI x7), (xI x8), x20, x21]).i)))))))))))
              ∧
               (
                ((x7 = 2) →
                 (
                  (((¬ ((Ff 601 [(mkX (rwTab 6 [(selX x0.r x20.i 0), (selX x0.r x20.i 1), (xI x3), (selX x0.r x20.i 3), (selX x0.r x20.i 4), (xI x6)]) 1), (xI x1), (xI x2), (xI x3), (xI x4), (xI x5), (xI x6)]).b = true)) ∨ ((x0.r x20.i 5).i ≤ (x0.r x20.i 2).i)) →
                   (
                    (x7 = 2)
                   ∧
                    (
                     (x7 = 2)
                    ∧
                     (
                      (x7 = 2)
                     ∧
                      (
                       Px 623 [x0, (xI x1), (xI x2), (xI x3), (xI x4), (xI x5), (xI x6), (xI x7), (xI x8), (xI (x20.i + 1)), (xI x21.i)]
                      ∧
                       (
                        ((Ff 651 [x0, (xI x1), (xI x2), (xI x3), (xI x4), (xI x5), (xI x6), (xI x7), (xI x8), (xI (x20.i + 1)), (xI x21.i)]).i < (Ff 651 [x0, (xI x1), (xI x2), (xI x3), (xI x4), (xI x5), (xI x6), (xI x7), (xI x8), x20, x21]).i)
                       ∧
                        (0 < (Ff 651 [x0, (xI x1), (xI x2), (xI x3), (xI x4), (xI x5), (xI x6), (xI x7), (xI x8), x20, x21]).i)))))))
                 ∧
                  ((¬ ((¬ ((Ff 601 [(mkX (rwTab 6 [(selX x0.r x20.i 0), (selX x0.r x20.i 1), (xI x3), (selX x0.r x20.i 3), (selX x0.r x20.i 4), (xI x6)]) 1), (xI x1), (xI x2), (xI x3), (xI x4), (xI x5), (xI x6)]).b = true)) ∨ ((x0.r x20.i 5).i ≤ (x0.r x20.i 2).i))) →
                   (
                    (x7 = 2)
                   ∧
                    (
                     ((-64) ≤ (bif ((decide ((bif ((decide (0 < x21.i)) && (decide (0 ≤ ((x0.r x20.i 2).i - x6)))) then (min x21.i ((x0.r x20.i 2).i - x6)) else x21.i) < 0)) && (decide (((x0.r x20.i 5).i - x3) ≤ 0))) then (max (bif ((decide (0 < x21.i)) && (decide (0 ≤ ((x0.r x20.i 2).i - x6)))) then (min x21.i ((x0.r x20.i 2).i - x6)) else x21.i) ((x0.r x20.i 5).i - x3)) else (bif ((decide (0 < x21.i)) && (decide (0 ≤ ((x0.r x20.i 2).i - x6)))) then (min x21.i ((x0.r x20.i 2).i - x6)) else x21.i)))
                    ∧
                     (
                      ((bif ((decide ((bif ((decide (0 < x21.i)) && (decide (0 ≤ ((x0.r x20.i 2).i - x6)))) then (min x21.i ((x0.r x20.i 2).i - x6)) else x21.i) < 0)) && (decide (((x0.r x20.i 5).i - x3) ≤ 0))) then (max (bif ((decide (0 < x21.i)) && (decide (0 ≤ ((x0.r x20.i 2).i - x6)))) then (min x21.i ((x0.r x20.i 2).i - x6)) else x21.i) ((x0.r x20.i 5).i - x3)) else (bif ((decide (0 < x21.i)) && (decide (0 ≤ ((x0.r x20.i 2).i - x6)))) then (min x21.i ((x0.r x20.i 2).i - x6)) else x21.i)) ≤ 64)
                     ∧
                      (
                       (x7 = 2)
                      ∧
                       (
                        (x7 = 2)
                       ∧
                        (
                         Px 623 [x0, (xI x1), (xI x2), (xI x3), (xI x4), (xI x5), (xI x6), (xI x7), (xI x8), (xI (x20.i + 1)), (xI (bif ((decide ((bif ((decide (0 < x21.i)) && (decide (0 ≤ ((x0.r x20.i 2).i - x6)))) then (min x21.i ((x0.r x20.i 2).i - x6)) else x21.i) < 0)) && (decide (((x0.r x20.i 5).i - x3) ≤ 0))) then (max (bif ((decide (0 < x21.i)) && (decide (0 ≤ ((x0.r x20.i 2).i - x6)))) then (min x21.i ((x0.r x20.i 2).i - x6)) else x21.i) ((x0.r x20.i 5).i - x3)) else (bif ((decide (0 < x21.i)) && (decide (0 ≤ ((x0.r x20.i 2).i - x6)))) then (min x21.i ((x0.r x20.i 2).i - x6)) else x21.i)))]
                        ∧
                         (
                          ((Ff 651 [x0, (xI x1), (xI x2), (xI x3), (xI x4), (xI x5), (xI x6), (xI x7), (xI x8), (xI (x20.i + 1)), (xI (bif ((decide ((bif ((decide (0 < x21.i)) && (decide (0 ≤ ((x0.r x20.i 2).i - x6)))) then (min x21.i ((x0.r x20.i 2).i - x6)) else x21.i) < 0)) && (decide (((x0.r x20.i 5).i - x3) ≤ 0))) then (max (bif ((decide (0 < x21.i)) && (decide (0 ≤ ((x0.r x20.i 2).i - x6)))) then (min x21.i ((x0.r x20.i 2).i - x6)) else x21.i) ((x0.r x20.i 5).i - x3)) else (bif ((decide (0 < x21.i)) && (decide (0 ≤ ((x0.r x20.i 2).i - x6)))) then (min x21.i ((x0.r x20.i 2).i - x6)) else x21.i)))]).i < (Ff 651 [x0, (xI x1), (xI x2), (xI x3), (xI x4), (xI x5), (xI x6), (xI x7), (xI x8), x20, x21]).i)
                         ∧
                          (0 < (Ff 651 [x0, (xI x1), (xI x2), (xI x3), (xI x4), (xI x5), (xI x6), (xI x7), (xI x8), x20, x21]).i)))))))))))
               ∧
                True)))))
          ∧
           ((¬ (x20.i < x0.i)) →
            (x21.i = (Ff 602 [x0, xI x1, xI x2, xI x3, xI x4, xI x5, xI x6, xI x7, xI x8]).i ∧ -64 ≤ (Ff 602 [x0, xI x1, xI x2, xI x3, xI x4, xI x5, xI x6, xI x7, xI x8]).i ∧ (Ff 602 [x0, xI x1, xI x2, xI x3, xI x4, xI x5, xI x6, xI x7, xI x8]).i ≤ 64)))))))))))
theorem SlL (x0 : X) (x1 : Int) (x2 : Int) (x3 : Int) (x4 : Int) (x5 : Int) (x6 : Int) (x7 : Int) (x8 : Int) : (ctrR (fun j => Ff j [x0, xI x1, xI x2, xI x3, xI x4, xI x5, xI x6, xI x7, xI x8]) cSl.fs cSl.res { ρ0 with x := fun j => [x0, xI x1, xI x2, xI x3, xI x4, xI x5, xI x6, xI x7, xI x8].getD j (xI 0) } (walkR Try.prog (cfG none [] [cOvl] lpSl sumL) Try.f15 400 shSl)) = SlP x0 x1 x2 x3 x4 x5 x6 x7 x8 := by kernel_rfl
set_option maxHeartbeats 1000000 in
theorem SlO (x0 : X) (x1 : Int) (x2 : Int) (x3 : Int) (x4 : Int) (x5 : Int) (x6 : Int) (x7 : Int) (x8 : Int) (h0 : 0 ≤ x0.i ∧ x0.i ≤ 40 ∧ RowOk [.int .i64 (-1000) (1000), .int .i64 (-1000) (1000), .int .i64 (-1000) (1000), .int .i64 (-1000) (1000), .int .i64 (-1000) (1000), .int .i64 (-1000) (1000)] x0.r x0.i.toNat) (h1 : -2000 ≤ x1 ∧ x1 ≤ 2000) (h2 : -2000 ≤ x2 ∧ x2 ≤ 2000) (h3 : -2000 ≤ x3 ∧ x3 ≤ 2000) (h4 : -2000 ≤ x4 ∧ x4 ≤ 2000) (h5 : -2000 ≤ x5 ∧ x5 ≤ 2000) (h6 : -2000 ≤ x6 ∧ x6 ≤ 2000) (h7 : -9223372036854775808 ≤ x7 ∧ x7 ≤ 9223372036854775807) (h8 : -64 ≤ x8 ∧ x8 ≤ 64) (hp : Px cSl.pre.get! [x0, xI x1, xI x2, xI x3, xI x4, xI x5, xI x6, xI x7, xI x8]) : SlP x0 x1 x2 x3 x4 x5 x6 x7 x8 := by
  unfold SlP
  simp only [b601, ov_single, selX_i, P623, F602, xI_i, m651]
  try simp only [Int.add_zero]
  refine ⟨fun h => ⟨(sl_out (by rcases h with (h | h) | h; exact .inl h; exact .inr (.inl (by omega)); exact .inr (.inr h))).symm, sl_rng h8⟩, fun hn => ⟨⟨Int.le_refl _, h0.1, by trivial⟩, fun k d hk hd hP => ⟨fun hlt => ⟨hlt, fun hx => ?_, fun hx => ?_, fun hx => ?_, trivial⟩, fun hge => ⟨?_, sl_rng h8⟩⟩⟩⟩
  · subst hx
    refine ⟨fun hc => ⟨rfl, rfl, rfl, sl_next hP hlt (gap0p hc)⟩, fun hc => ⟨rfl, (gapV_rng hd).1, (gapV_rng hd).2, rfl, rfl, sl_next hP hlt (gap0n hc)⟩⟩
  · subst hx
    refine ⟨fun hc => ⟨rfl, rfl, rfl, sl_next hP hlt (gap1p hc)⟩, fun hc => ⟨rfl, (gapV_rng hd).1, (gapV_rng hd).2, rfl, rfl, sl_next hP hlt (gap1n hc)⟩⟩
  · subst hx
    refine ⟨fun hc => ⟨rfl, rfl, rfl, sl_next hP hlt (gap2p hc)⟩, fun hc => ⟨rfl, (gapV_rng hd).1, (gapV_rng hd).2, rfl, rfl, sl_next hP hlt (gap2n hc)⟩⟩
  · have h1 := hP.2.2
    rw [lx_all (by omega), slide_eq (fun h => hn (.inl (by omega))) (fun h => hn (.inr h))] at h1
    exact h1
theorem kSl : RCtrOk Try.prog ρ0 cSl := by
  refine rctr_ofN (cf := cfG none [] [cOvl] lpSl sumL) (cfG_ok keep0 (keepR0.cons kOvl nOvl) noF) Try.func15 rfl 400 rfl (sh := shSl) (by kernel_rfl) near_rsh fun ds hr hp => ?_
  have hr := rshX_flat hr
  match ds, hr, hp with
  | [d0, d1, d2, d3, d4, d5, d6, d7, d8], hr, hp =>
    obtain ⟨l0, ⟨e1, l1, u1⟩, ⟨e2, l2, u2⟩, ⟨e3, l3, u3⟩, ⟨e4, l4, u4⟩, ⟨e5, l5, u5⟩, ⟨e6, l6, u6⟩, ⟨e7, l7, u7⟩, ⟨e8, l8, u8⟩, _⟩ := hr
    generalize d0 = x0 at *
    generalize d1.i = x1 at *
    generalize d2.i = x2 at *
    generalize d3.i = x3 at *
    generalize d4.i = x4 at *
    generalize d5.i = x5 at *
    generalize d6.i = x6 at *
    generalize d7.i = x7 at *
    generalize d8.i = x8 at *
    subst e1 e2 e3 e4 e5 e6 e7 e8
    exact Eq.mpr (SlL x0 x1 x2 x3 x4 x5 x6 x7 x8) (SlO x0 x1 x2 x3 x4 x5 x6 x7 x8 l0 ⟨l1, u1⟩ ⟨l2, u2⟩ ⟨l3, u3⟩ ⟨l4, u4⟩ ⟨l5, u5⟩ ⟨l6, u6⟩ ⟨l7, u7⟩ ⟨l8, u8⟩ hp)
theorem nSl : ∃ fn, Try.prog.funcs[cSl.f]? = some fn ∧ fn.body.isSome = true ∧ (fn.name == "runtime.NumGoroutine") = false := ⟨_, Try.func15, by kernel_rfl, by kernel_rfl⟩

/-- What is left of the contract of voxelref41.Slide. -/
def SlRP (x0 : X) (x1 : Int) (x2 : Int) (x3 : Int) (x4 : Int) (x5 : Int) (x6 : Int) (x7 : Int) (x8 : Int) : Prop :=
  (
   Px 610 [x0, (xI x1), (xI x2), (xI x3), (xI x4), (xI x5), (xI x6)]
  ∧
   (
    (((((Ff 601 [x0, (xI x1), (xI x2), (xI x3), (xI x4), (xI x5), (xI x6)]).b = true) ∨ (x7 < 0)) ∨ (2 < x7)) →
     (0 = (Ff 602 [x0, xI x1, xI x2, xI x3, xI x4, xI x5, xI x6, xI x7, xI x8]).i ∧ -64 ≤ (Ff 602 [x0, xI x1, xI x2, xI x3, xI x4, xI x5, xI x6, xI x7, xI x8]).i ∧ (Ff 602 [x0, xI x1, xI x2, xI x3, xI x4, xI x5, xI x6, xI x7, xI x8]).i ≤ 64))
   ∧
    ((¬ ((((Ff 601 [x0, (xI x1), (xI x2), (xI x3), (xI x4), (xI x5), (xI x6)]).b = true) ∨ (x7 < 0)) ∨ (2 < x7))) →
     (
      Px 624 [x0, (xI x1), (xI x2), (xI x3), (xI x4), (xI x5), (xI x6), (xI x7), (xI x8), (xI 0)]
     ∧
      (∀ x20 : X,
       ((((-64) ≤ x20.i) ∧ (x20.i ≤ 64)) →
        (Px 624 [x0, (xI x1), (xI x2), (xI x3), (xI x4), (xI x5), (xI x6), (xI x7), (xI x8), x20] →
         (
          ((¬ (x20.i = x8)) →
           (
            Px 610 [x0, (xI (x1 + ((bif (decide (x7 = 0)) then 1 else 0) * (x20.i + (bif (decide (x8 < 0)) then (-1) else 1))))), (xI (x2 + ((bif (decide (x7 = 0)) then 0 else (bif (decide (x7 = 1)) then 1 else 0)) * (x20.i + (bif (decide (x8 < 0)) then (-1) else 1))))), (xI (x3 + ((bif (decide (x7 = 0)) then 0 else (bif (decide (x7 = 1)) then 0 else 1)) * (x20.i + (bif (decide (x8 < 0)) then (-1) else 1))))), (xI (x4 + ((bif (decide (x7 = 0)) then 1 else 0) * (x20.i + (bif (decide (x8 < 0)) then (-1) else 1))))), (xI (x5 + ((bif (decide (x7 = 0)) then 0 else (bif (decide (x7 = 1)) then 1 else 0)) * (x20.i + (bif (decide (x8 < 0)) then (-1) else 1))))), (xI (x6 + ((bif (decide (x7 = 0)) then 0 else (bif (decide (x7 = 1)) then 0 else 1)) * (x20.i + (bif (decide (x8 < 0)) then (-1) else 1)))))]
           ∧
            (
             (((Ff 601 [x0, (xI (x1 + ((bif (decide (x7 = 0)) then 1 else 0) * (x20.i + (bif (decide (x8 < 0)) then (-1) else 1))))), (xI (x2 + ((bif (decide (x7 = 0)) then 0 else (bif (decide (x7 = 1)) then 1 else 0)) * (x20.i + (bif (decide (x8 < 0)) then (-1) else 1))))), (xI (x3 + ((bif (decide (x7 = 0)) then 0 else (bif (decide (x7 = 1)) then 0 else 1)) * (x20.i + (bif (decide (x8 < 0)) then (-1) else 1))))), (xI (x4 + ((bif (decide (x7 = 0)) then 1 else 0) * (x20.i + (bif (decide (x8 < 0)) then (-1) else 1))))), (xI (x5 + ((bif (decide (x7 = 0)) then 0 else (bif (decide (x7 = 1)) then 1 else 0)) * (x20.i + (bif (decide (x8 < 0)) then (-1) else 1))))), (xI (x6 + ((bif (decide (x7 = 0)) then 0 else (bif (decide (x7 = 1)) then 0 else 1)) * (x20.i + (bif (decide (x8 < 0)) then (-1) else 1)))))]).b = true) →
              (x20.i = (Ff 602 [x0, xI x1, xI x2, xI x3, xI x4, xI x5, xI x6, xI x7, xI x8]).i ∧ -64 ≤ (Ff 602 [x0, xI x1, xI x2, xI x3, xI x4, xI x5, xI x6, xI x7, xI x8]).i ∧ (Ff 602 [x0, xI x1, xI x2, xI x3, xI x4, xI x5, xI x6, xI x7, xI x8]).i ≤ 64))
            ∧
             ((¬ ((Ff 601 [x0, (xI (x1 + ((bif (decide (x7 = 0)) then 1 else 0) * (x20.i + (bif (decide (x8 < 0)) then (-1) else 1))))), (xI (x2 + ((bif (decide (x7 = 0)) then 0 else (bif (decide (x7 = 1)) then 1 else 0)) * (x20.i + (bif (decide (x8 < 0)) then (-1) else 1))))), (xI (x3 + ((bif (decide (x7 = 0)) then 0 else (bif (decide (x7 = 1)) then 0 else 1)) * (x20.i + (bif (decide (x8 < 0)) then (-1) else 1))))), (xI (x4 + ((bif (decide (x7 = 0)) then 1 else 0) * (x20.i + (bif (decide (x8 < 0)) then (-1) else 1))))), (xI (x5 + ((bif (decide (x7 = 0)) then 0 else (bif (decide (x7 = 1)) then 1 else 0)) * (x20.i + (bif (decide (x8 < 0)) then (-1) else 1))))), (xI (x6 + ((bif (decide (x7 = 0)) then 0 else (bif (decide (x7 = 1)) then 0 else 1)) * (x20.i + (bif (decide (x8 < 0)) then (-1) else 1)))))]).b = true)) →
              (
               ((-64) ≤ (x20.i + (bif (decide (x8 < 0)) then (-1) else 1)))
              ∧
               (
                ((x20.i + (bif (decide (x8 < 0)) then (-1) else 1)) ≤ 64)
               ∧
                (
                 Px 624 [x0, (xI x1), (xI x2), (xI x3), (xI x4), (xI x5), (xI x6), (xI x7), (xI x8), (xI (x20.i + (bif (decide (x8 < 0)) then (-1) else 1)))]
                ∧
                 (
                  ((Ff 652 [x0, (xI x1), (xI x2), (xI x3), (xI x4), (xI x5), (xI x6), (xI x7), (xI x8), (xI (x20.i + (bif (decide (x8 < 0)) then (-1) else 1)))]).i < (Ff 652 [x0, (xI x1), (xI x2), (xI x3), (xI x4), (xI x5), (xI x6), (xI x7), (xI x8), x20]).i)
                 ∧
                  (0 < (Ff 652 [x0, (xI x1), (xI x2), (xI x3), (xI x4), (xI x5), (xI x6), (xI x7), (xI x8), x20]).i)))))))))
         ∧
          ((x20.i = x8) →
           (x20.i = (Ff 602 [x0, xI x1, xI x2, xI x3, xI x4, xI x5, xI x6, xI x7, xI x8]).i ∧ -64 ≤ (Ff 602 [x0, xI x1, xI x2, xI x3, xI x4, xI x5, xI x6, xI x7, xI x8]).i ∧ (Ff 602 [x0, xI x1, xI x2, xI x3, xI x4, xI x5, xI x6, xI x7, xI x8]).i ≤ 64))))))))))
theorem SlRL (x0 : X) (x1 : Int) (x2 : Int) (x3 : Int) (x4 : Int) (x5 : Int) (x6 : Int) (x7 : Int) (x8 : Int) : (ctrR (fun j => Ff j [x0, xI x1, xI x2, xI x3, xI x4, xI x5, xI x6, xI x7, xI x8]) cSlR.fs cSlR.res { ρ0 with x := fun j => [x0, xI x1, xI x2, xI x3, xI x4, xI x5, xI x6, xI x7, xI x8].getD j (xI 0) } (walkR Try.prog (cfG none [] [cOvlR] lpSlR sumL) Try.f16 400 shSl)) = SlRP x0 x1 x2 x3 x4 x5 x6 x7 x8 := by kernel_rfl
set_option maxHeartbeats 1000000 in
theorem SlRO (x0 : X) (x1 : Int) (x2 : Int) (x3 : Int) (x4 : Int) (x5 : Int) (x6 : Int) (x7 : Int) (x8 : Int) (h0 : 0 ≤ x0.i ∧ x0.i ≤ 40 ∧ RowOk [.int .i64 (-1000) (1000), .int .i64 (-1000) (1000), .int .i64 (-1000) (1000), .int .i64 (-1000) (1000), .int .i64 (-1000) (1000), .int .i64 (-1000) (1000)] x0.r x0.i.toNat) (h1 : -2000 ≤ x1 ∧ x1 ≤ 2000) (h2 : -2000 ≤ x2 ∧ x2 ≤ 2000) (h3 : -2000 ≤ x3 ∧ x3 ≤ 2000) (h4 : -2000 ≤ x4 ∧ x4 ≤ 2000) (h5 : -2000 ≤ x5 ∧ x5 ≤ 2000) (h6 : -2000 ≤ x6 ∧ x6 ≤ 2000) (h7 : -9223372036854775808 ≤ x7 ∧ x7 ≤ 9223372036854775807) (h8 : -64 ≤ x8 ∧ x8 ≤ 64) (hp : Px cSlR.pre.get! [x0, xI x1, xI x2, xI x3, xI x4, xI x5, xI x6, xI x7, xI x8]) : SlRP x0 x1 x2 x3 x4 x5 x6 x7 x8 := by
  unfold SlRP
  simp only [b601, P610, P624, F602, xI_i, m652, mv_lit]
  try simp only [Int.add_zero]
  refine ⟨hp, fun h => ⟨(sl_out (by rcases h with (h | h) | h; exact .inr (.inr h); exact .inl h; exact .inr (.inl h))).symm, sl_rng h8⟩, fun hn => ?_⟩
  have hn' : ¬ (x7 < 0 ∨ 2 < x7 ∨ ovB (lstX deX x0) ⟨x1, x2, x3, x4, x5, x6⟩ = true) := fun h => hn (by rcases h with h | h | h; exact .inl (.inr h); exact .inr h; exact .inl (.inl h))
  refine ⟨sr_start, fun n hr hP => ⟨fun hne => ?_, fun he => ⟨sr_end hn' he hP, sl_rng h8⟩⟩⟩
  obtain ⟨s1, s2⟩ := sr_hit hn' hne hP
  refine ⟨hp, fun h => ⟨s1 h, sl_rng h8⟩, fun h => ?_⟩
  obtain ⟨t1, t2, t3⟩ := s2 h
  have hb : -64 ≤ n.i + stB x8 ∧ n.i + stB x8 ≤ 64 := by
    by_cases hd : x8 < 0
    · rw [if_pos hd] at t1; omega
    · rw [if_neg hd] at t1; omega
  exact ⟨hb.1, hb.2, t1, t2, t3⟩
theorem kSlR : RCtrOk Try.prog ρ0 cSlR := by
  refine rctr_ofN (cf := cfG none [] [cOvlR] lpSlR sumL) (cfG_ok keep0 (keepR0.cons kOvlR nOvlR) noF) Try.func16 rfl 400 rfl (sh := shSl) (by kernel_rfl) near_rsh fun ds hr hp => ?_
  have hr := rshX_flat hr
  match ds, hr, hp with
  | [d0, d1, d2, d3, d4, d5, d6, d7, d8], hr, hp =>
    obtain ⟨l0, ⟨e1, l1, u1⟩, ⟨e2, l2, u2⟩, ⟨e3, l3, u3⟩, ⟨e4, l4, u4⟩, ⟨e5, l5, u5⟩, ⟨e6, l6, u6⟩, ⟨e7, l7, u7⟩, ⟨e8, l8, u8⟩, _⟩ := hr
    generalize d0 = x0 at *
    generalize d1.i = x1 at *
    generalize d2.i = x2 at *
    generalize d3.i = x3 at *
    generalize d4.i = x4 at *
    generalize d5.i = x5 at *
    generalize d6.i = x6 at *
    generalize d7.i = x7 at *
    generalize d8.i = x8 at *
    subst e1 e2 e3 e4 e5 e6 e7 e8
    exact Eq.mpr (SlRL x0 x1 x2 x3 x4 x5 x6 x7 x8) (SlRO x0 x1 x2 x3 x4 x5 x6 x7 x8 l0 ⟨l1, u1⟩ ⟨l2, u2⟩ ⟨l3, u3⟩ ⟨l4, u4⟩ ⟨l5, u5⟩ ⟨l6, u6⟩ ⟨l7, u7⟩ ⟨l8, u8⟩ hp)
theorem nSlR : ∃ fn, Try.prog.funcs[cSlR.f]? = some fn ∧ fn.body.isSome = true ∧ (fn.name == "runtime.NumGoroutine") = false := ⟨_, Try.func16, by kernel_rfl, by kernel_rfl⟩
end Vc
end Go.Proofs.Ytokicaoapclicaa
