/- Contracts of functions, each out of one walk. -/
import Derived.Test.YtpmfkelglmgddaaGreatDoorTcBE
import Derived.Test.YtpmfkelglmgddaaGreatDoorTcR
namespace Go.Proofs.YtpmfkelglmgddaaGreatDoor
namespace Vc
open Go Go.RowKit
set_option linter.unusedVariables false
def DS (x0 x1 x2 x3 x4 x5 : Int) (x6 : X) (x7 : X) (x8 x9 x10 x11 x12 x13 x14 : Int) : Prop :=
 let A := [xI x0, xI x1, xI x2, xI x3, xI x4, xI x5, x6, x7, xI x8, xI x9, xI x10, xI x11, xI x12, xI x13, xI x14]; (Px 710 [xI x0, xI x1, xI x2, xI x3, xI x4, xI x5, x6, x7, xI x8, xI x9, xI x10] ∧
(let v1 := Ff 914 [xI x0, xI x1, xI x2, xI x3, xI x4, xI x5, x6, x7, xI x8, xI x9, xI x10]; (((¬ (v1.b = true)) →
(((false = true) ↔ (Ff 918 A).b = true) ∧ ((rI 9 (Ff 919 A).i 0 0) ∧ True))) ∧
((v1.b = true) →
(let v5 := Ff 991 [(aH (ar 1 []) 0), xI x8, xI x9, xI x10]; ((¬ (v5.b = true)) ∧
(((0 : Int) < 1000000) ∧
(Px 975 [xI x0, xI x1, xI x2, xI x3, xI x4, xI x5, x6, x7, xI x8, xI x9, xI x10, xI 0, (aH (ar 3 [xI x8, xI x9, xI x10]) 1), (aH (ar 1 []) 0), (aH (ak (ak (ak (ar 1 []) 0 0 (xI x8)) 0 1 (xI x9)) 0 2 (xI x10)) (0 + 1))] ∧
(∀ x20 : X, (∀ x21 : X, (∀ x22 : X, (∀ x23 : X, (((0 ≤ x20.i) ∧ (x20.i ≤ 512)) →
((0 ≤ x21.i ∧ x21.i ≤ 512 ∧ au wb x21.r (x21.i).toNat) →
((0 ≤ x22.i ∧ x22.i ≤ 10000 ∧ au wb x22.r (x22.i).toNat) →
(Px 975 [xI x0, xI x1, xI x2, xI x3, xI x4, xI x5, x6, x7, xI x8, xI x9, xI x10, x20, x21, x22, x23] →
(((x20.i < x21.i) →
((x20.i < x21.i) ∧
(Px 976 [xI x0, xI x1, xI x2, xI x3, xI x4, xI x5, x6, x7, xI x8, xI x9, xI x10, x20, (xI (x21.r x20.i 0).i), (xI (x21.r x20.i 1).i), (xI (x21.r x20.i 2).i), xI 0, x21, x22, x23] ∧
(∀ x30 : X, (∀ x31 : X, (∀ x32 : X, (∀ x33 : X, (((0 ≤ x30.i) ∧ (x30.i ≤ 6)) →
((0 ≤ x31.i ∧ x31.i ≤ 512 ∧ au wb x31.r (x31.i).toNat) →
((0 ≤ x32.i ∧ x32.i ≤ 10000 ∧ au wb x32.r (x32.i).toNat) →
(Px 976 [xI x0, xI x1, xI x2, xI x3, xI x4, xI x5, x6, x7, xI x8, xI x9, xI x10, x20, (xI (x21.r x20.i 0).i), (xI (x21.r x20.i 1).i), (xI (x21.r x20.i 2).i), x30, x31, x32, x33] →
(((x30.i < 6) →
(let v23 := Ff 991 [x33, (xI (IntKind.wrap Go.IntKind.i64 ((x21.r x20.i 0).i + (bif (decide (x30.i = 5)) then 0 else (bif (decide (x30.i = 4)) then 0 else (bif (decide (x30.i = 3)) then 0 else (bif (decide (x30.i = 2)) then 0 else (bif (decide (x30.i = 1)) then ((-1) : Int) else 1)))))))), (xI (IntKind.wrap Go.IntKind.i64 ((x21.r x20.i 1).i + (bif (decide (x30.i = 5)) then 0 else (bif (decide (x30.i = 4)) then 0 else (bif (decide (x30.i = 3)) then (-1) else (bif (decide (x30.i = 2)) then (1 : Int) else 0))))))), (xI (IntKind.wrap Go.IntKind.i64 ((x21.r x20.i 2).i + (bif (decide (x30.i = 5)) then (-1) else (bif (decide (x30.i = 4)) then (1 : Int) else 0)))))]; (((¬ (v23.b = true)) →
((¬ (v23.b = true)) ∧
((x33.i < 1000000) ∧
(((-1048576) ≤ (IntKind.wrap Go.IntKind.i64 ((x21.r x20.i 0).i + (bif (decide (x30.i = 5)) then 0 else (bif (decide (x30.i = 4)) then 0 else (bif (decide (x30.i = 3)) then 0 else (bif (decide (x30.i = 2)) then 0 else (bif (decide (x30.i = 1)) then ((-1) : Int) else 1)))))))) ∧
(((IntKind.wrap Go.IntKind.i64 ((x21.r x20.i 0).i + (bif (decide (x30.i = 5)) then 0 else (bif (decide (x30.i = 4)) then 0 else (bif (decide (x30.i = 3)) then 0 else (bif (decide (x30.i = 2)) then 0 else (bif (decide (x30.i = 1)) then ((-1) : Int) else 1))))))) ≤ 1048576) ∧
(((-1048576) ≤ (IntKind.wrap Go.IntKind.i64 ((x21.r x20.i 1).i + (bif (decide (x30.i = 5)) then 0 else (bif (decide (x30.i = 4)) then 0 else (bif (decide (x30.i = 3)) then (-1) else (bif (decide (x30.i = 2)) then (1 : Int) else 0))))))) ∧
(((IntKind.wrap Go.IntKind.i64 ((x21.r x20.i 1).i + (bif (decide (x30.i = 5)) then 0 else (bif (decide (x30.i = 4)) then 0 else (bif (decide (x30.i = 3)) then (-1) else (bif (decide (x30.i = 2)) then (1 : Int) else 0)))))) ≤ 1048576) ∧
(((-1048576) ≤ (IntKind.wrap Go.IntKind.i64 ((x21.r x20.i 2).i + (bif (decide (x30.i = 5)) then (-1) else (bif (decide (x30.i = 4)) then (1 : Int) else 0))))) ∧
(((IntKind.wrap Go.IntKind.i64 ((x21.r x20.i 2).i + (bif (decide (x30.i = 5)) then (-1) else (bif (decide (x30.i = 4)) then (1 : Int) else 0)))) ≤ 1048576) ∧
(Px 710 [xI x0, xI x1, xI x2, xI x3, xI x4, xI x5, x6, x7, (xI (IntKind.wrap Go.IntKind.i64 ((x21.r x20.i 0).i + (bif (decide (x30.i = 5)) then 0 else (bif (decide (x30.i = 4)) then 0 else (bif (decide (x30.i = 3)) then 0 else (bif (decide (x30.i = 2)) then 0 else (bif (decide (x30.i = 1)) then ((-1) : Int) else 1)))))))), (xI (IntKind.wrap Go.IntKind.i64 ((x21.r x20.i 1).i + (bif (decide (x30.i = 5)) then 0 else (bif (decide (x30.i = 4)) then 0 else (bif (decide (x30.i = 3)) then (-1) else (bif (decide (x30.i = 2)) then (1 : Int) else 0))))))), (xI (IntKind.wrap Go.IntKind.i64 ((x21.r x20.i 2).i + (bif (decide (x30.i = 5)) then (-1) else (bif (decide (x30.i = 4)) then (1 : Int) else 0)))))] ∧
(let v35 := Ff 914 [xI x0, xI x1, xI x2, xI x3, xI x4, xI x5, x6, x7, (xI (IntKind.wrap Go.IntKind.i64 ((x21.r x20.i 0).i + (bif (decide (x30.i = 5)) then 0 else (bif (decide (x30.i = 4)) then 0 else (bif (decide (x30.i = 3)) then 0 else (bif (decide (x30.i = 2)) then 0 else (bif (decide (x30.i = 1)) then ((-1) : Int) else 1)))))))), (xI (IntKind.wrap Go.IntKind.i64 ((x21.r x20.i 1).i + (bif (decide (x30.i = 5)) then 0 else (bif (decide (x30.i = 4)) then 0 else (bif (decide (x30.i = 3)) then (-1) else (bif (decide (x30.i = 2)) then (1 : Int) else 0))))))), (xI (IntKind.wrap Go.IntKind.i64 ((x21.r x20.i 2).i + (bif (decide (x30.i = 5)) then (-1) else (bif (decide (x30.i = 4)) then (1 : Int) else 0)))))]; let v36 := Ff 913 [xI x0, xI x1, xI x2, xI x3, xI x4, xI x5, x6, x7, (xI (IntKind.wrap Go.IntKind.i64 ((x21.r x20.i 0).i + (bif (decide (x30.i = 5)) then 0 else (bif (decide (x30.i = 4)) then 0 else (bif (decide (x30.i = 3)) then 0 else (bif (decide (x30.i = 2)) then 0 else (bif (decide (x30.i = 1)) then ((-1) : Int) else 1)))))))), (xI (IntKind.wrap Go.IntKind.i64 ((x21.r x20.i 1).i + (bif (decide (x30.i = 5)) then 0 else (bif (decide (x30.i = 4)) then 0 else (bif (decide (x30.i = 3)) then (-1) else (bif (decide (x30.i = 2)) then (1 : Int) else 0))))))), (xI (IntKind.wrap Go.IntKind.i64 ((x21.r x20.i 2).i + (bif (decide (x30.i = 5)) then (-1) else (bif (decide (x30.i = 4)) then (1 : Int) else 0)))))]; let v37 := Ff 913 [xI x0, xI x1, xI x2, xI x3, xI x4, xI x5, x6, x7, xI x8, xI x9, xI x10]; ((((v35.b = true) ∧ (v36.i = v37.i)) →
(((x31.i + 1) ≤ 512) ∧
(Px 976 [xI x0, xI x1, xI x2, xI x3, xI x4, xI x5, x6, x7, xI x8, xI x9, xI x10, x20, (xI (x21.r x20.i 0).i), (xI (x21.r x20.i 1).i), (xI (x21.r x20.i 2).i), (xI (x30.i + 1)), (aH (aE x31.r x31.i (ar 3 [(xI (IntKind.wrap Go.IntKind.i64 ((x21.r x20.i 0).i + (bif (decide (x30.i = 5)) then 0 else (bif (decide (x30.i = 4)) then 0 else (bif (decide (x30.i = 3)) then 0 else (bif (decide (x30.i = 2)) then 0 else (bif (decide (x30.i = 1)) then ((-1) : Int) else 1)))))))), (xI (IntKind.wrap Go.IntKind.i64 ((x21.r x20.i 1).i + (bif (decide (x30.i = 5)) then 0 else (bif (decide (x30.i = 4)) then 0 else (bif (decide (x30.i = 3)) then (-1) else (bif (decide (x30.i = 2)) then (1 : Int) else 0))))))), (xI (IntKind.wrap Go.IntKind.i64 ((x21.r x20.i 2).i + (bif (decide (x30.i = 5)) then (-1) else (bif (decide (x30.i = 4)) then (1 : Int) else 0)))))])) (x31.i + 1)), x32, (aH (ak (ak (ak x33.r x33.i 0 (xI (IntKind.wrap Go.IntKind.i64 ((x21.r x20.i 0).i + (bif (decide (x30.i = 5)) then 0 else (bif (decide (x30.i = 4)) then 0 else (bif (decide (x30.i = 3)) then 0 else (bif (decide (x30.i = 2)) then 0 else (bif (decide (x30.i = 1)) then ((-1) : Int) else 1))))))))) x33.i 1 (xI (IntKind.wrap Go.IntKind.i64 ((x21.r x20.i 1).i + (bif (decide (x30.i = 5)) then 0 else (bif (decide (x30.i = 4)) then 0 else (bif (decide (x30.i = 3)) then (-1) else (bif (decide (x30.i = 2)) then (1 : Int) else 0)))))))) x33.i 2 (xI (IntKind.wrap Go.IntKind.i64 ((x21.r x20.i 2).i + (bif (decide (x30.i = 5)) then (-1) else (bif (decide (x30.i = 4)) then (1 : Int) else 0)))))) (x33.i + 1))] ∧
(((Ff 926 [xI x0, xI x1, xI x2, xI x3, xI x4, xI x5, x6, x7, xI x8, xI x9, xI x10, x20, (xI (x21.r x20.i 0).i), (xI (x21.r x20.i 1).i), (xI (x21.r x20.i 2).i), (xI (x30.i + 1)), (aH (aE x31.r x31.i (ar 3 [(xI (IntKind.wrap Go.IntKind.i64 ((x21.r x20.i 0).i + (bif (decide (x30.i = 5)) then 0 else (bif (decide (x30.i = 4)) then 0 else (bif (decide (x30.i = 3)) then 0 else (bif (decide (x30.i = 2)) then 0 else (bif (decide (x30.i = 1)) then ((-1) : Int) else 1)))))))), (xI (IntKind.wrap Go.IntKind.i64 ((x21.r x20.i 1).i + (bif (decide (x30.i = 5)) then 0 else (bif (decide (x30.i = 4)) then 0 else (bif (decide (x30.i = 3)) then (-1) else (bif (decide (x30.i = 2)) then (1 : Int) else 0))))))), (xI (IntKind.wrap Go.IntKind.i64 ((x21.r x20.i 2).i + (bif (decide (x30.i = 5)) then (-1) else (bif (decide (x30.i = 4)) then (1 : Int) else 0)))))])) (x31.i + 1)), x32, (aH (ak (ak (ak x33.r x33.i 0 (xI (IntKind.wrap Go.IntKind.i64 ((x21.r x20.i 0).i + (bif (decide (x30.i = 5)) then 0 else (bif (decide (x30.i = 4)) then 0 else (bif (decide (x30.i = 3)) then 0 else (bif (decide (x30.i = 2)) then 0 else (bif (decide (x30.i = 1)) then ((-1) : Int) else 1))))))))) x33.i 1 (xI (IntKind.wrap Go.IntKind.i64 ((x21.r x20.i 1).i + (bif (decide (x30.i = 5)) then 0 else (bif (decide (x30.i = 4)) then 0 else (bif (decide (x30.i = 3)) then (-1) else (bif (decide (x30.i = 2)) then (1 : Int) else 0)))))))) x33.i 2 (xI (IntKind.wrap Go.IntKind.i64 ((x21.r x20.i 2).i + (bif (decide (x30.i = 5)) then (-1) else (bif (decide (x30.i = 4)) then (1 : Int) else 0)))))) (x33.i + 1))]).i < (Ff 926 [xI x0, xI x1, xI x2, xI x3, xI x4, xI x5, x6, x7, xI x8, xI x9, xI x10, x20, (xI (x21.r x20.i 0).i), (xI (x21.r x20.i 1).i), (xI (x21.r x20.i 2).i), x30, x31, x32, x33]).i) ∧
(0 < (Ff 926 [xI x0, xI x1, xI x2, xI x3, xI x4, xI x5, x6, x7, xI x8, xI x9, xI x10, x20, (xI (x21.r x20.i 0).i), (xI (x21.r x20.i 1).i), (xI (x21.r x20.i 2).i), x30, x31, x32, x33]).i))))) ∧
((¬ ((v35.b = true) ∧ (v36.i = v37.i))) →
(((v35.b = true) →
(((x32.i + 1) ≤ 10000) ∧
(Px 976 [xI x0, xI x1, xI x2, xI x3, xI x4, xI x5, x6, x7, xI x8, xI x9, xI x10, x20, (xI (x21.r x20.i 0).i), (xI (x21.r x20.i 1).i), (xI (x21.r x20.i 2).i), (xI (x30.i + 1)), x31, (aH (aE x32.r x32.i (ar 3 [(xI (IntKind.wrap Go.IntKind.i64 ((x21.r x20.i 0).i + (bif (decide (x30.i = 5)) then 0 else (bif (decide (x30.i = 4)) then 0 else (bif (decide (x30.i = 3)) then 0 else (bif (decide (x30.i = 2)) then 0 else (bif (decide (x30.i = 1)) then ((-1) : Int) else 1)))))))), (xI (IntKind.wrap Go.IntKind.i64 ((x21.r x20.i 1).i + (bif (decide (x30.i = 5)) then 0 else (bif (decide (x30.i = 4)) then 0 else (bif (decide (x30.i = 3)) then (-1) else (bif (decide (x30.i = 2)) then (1 : Int) else 0))))))), (xI (IntKind.wrap Go.IntKind.i64 ((x21.r x20.i 2).i + (bif (decide (x30.i = 5)) then (-1) else (bif (decide (x30.i = 4)) then (1 : Int) else 0)))))])) (x32.i + 1)), (aH (ak (ak (ak x33.r x33.i 0 (xI (IntKind.wrap Go.IntKind.i64 ((x21.r x20.i 0).i + (bif (decide (x30.i = 5)) then 0 else (bif (decide (x30.i = 4)) then 0 else (bif (decide (x30.i = 3)) then 0 else (bif (decide (x30.i = 2)) then 0 else (bif (decide (x30.i = 1)) then ((-1) : Int) else 1))))))))) x33.i 1 (xI (IntKind.wrap Go.IntKind.i64 ((x21.r x20.i 1).i + (bif (decide (x30.i = 5)) then 0 else (bif (decide (x30.i = 4)) then 0 else (bif (decide (x30.i = 3)) then (-1) else (bif (decide (x30.i = 2)) then (1 : Int) else 0)))))))) x33.i 2 (xI (IntKind.wrap Go.IntKind.i64 ((x21.r x20.i 2).i + (bif (decide (x30.i = 5)) then (-1) else (bif (decide (x30.i = 4)) then (1 : Int) else 0)))))) (x33.i + 1))] ∧
(((Ff 926 [xI x0, xI x1, xI x2, xI x3, xI x4, xI x5, x6, x7, xI x8, xI x9, xI x10, x20, (xI (x21.r x20.i 0).i), (xI (x21.r x20.i 1).i), (xI (x21.r x20.i 2).i), (xI (x30.i + 1)), x31, (aH (aE x32.r x32.i (ar 3 [(xI (IntKind.wrap Go.IntKind.i64 ((x21.r x20.i 0).i + (bif (decide (x30.i = 5)) then 0 else (bif (decide (x30.i = 4)) then 0 else (bif (decide (x30.i = 3)) then 0 else (bif (decide (x30.i = 2)) then 0 else (bif (decide (x30.i = 1)) then ((-1) : Int) else 1)))))))), (xI (IntKind.wrap Go.IntKind.i64 ((x21.r x20.i 1).i + (bif (decide (x30.i = 5)) then 0 else (bif (decide (x30.i = 4)) then 0 else (bif (decide (x30.i = 3)) then (-1) else (bif (decide (x30.i = 2)) then (1 : Int) else 0))))))), (xI (IntKind.wrap Go.IntKind.i64 ((x21.r x20.i 2).i + (bif (decide (x30.i = 5)) then (-1) else (bif (decide (x30.i = 4)) then (1 : Int) else 0)))))])) (x32.i + 1)), (aH (ak (ak (ak x33.r x33.i 0 (xI (IntKind.wrap Go.IntKind.i64 ((x21.r x20.i 0).i + (bif (decide (x30.i = 5)) then 0 else (bif (decide (x30.i = 4)) then 0 else (bif (decide (x30.i = 3)) then 0 else (bif (decide (x30.i = 2)) then 0 else (bif (decide (x30.i = 1)) then ((-1) : Int) else 1))))))))) x33.i 1 (xI (IntKind.wrap Go.IntKind.i64 ((x21.r x20.i 1).i + (bif (decide (x30.i = 5)) then 0 else (bif (decide (x30.i = 4)) then 0 else (bif (decide (x30.i = 3)) then (-1) else (bif (decide (x30.i = 2)) then (1 : Int) else 0)))))))) x33.i 2 (xI (IntKind.wrap Go.IntKind.i64 ((x21.r x20.i 2).i + (bif (decide (x30.i = 5)) then (-1) else (bif (decide (x30.i = 4)) then (1 : Int) else 0)))))) (x33.i + 1))]).i < (Ff 926 [xI x0, xI x1, xI x2, xI x3, xI x4, xI x5, x6, x7, xI x8, xI x9, xI x10, x20, (xI (x21.r x20.i 0).i), (xI (x21.r x20.i 1).i), (xI (x21.r x20.i 2).i), x30, x31, x32, x33]).i) ∧
(0 < (Ff 926 [xI x0, xI x1, xI x2, xI x3, xI x4, xI x5, x6, x7, xI x8, xI x9, xI x10, x20, (xI (x21.r x20.i 0).i), (xI (x21.r x20.i 1).i), (xI (x21.r x20.i 2).i), x30, x31, x32, x33]).i))))) ∧
((¬ (v35.b = true)) →
(Px 976 [xI x0, xI x1, xI x2, xI x3, xI x4, xI x5, x6, x7, xI x8, xI x9, xI x10, x20, (xI (x21.r x20.i 0).i), (xI (x21.r x20.i 1).i), (xI (x21.r x20.i 2).i), (xI (x30.i + 1)), x31, x32, (aH (ak (ak (ak x33.r x33.i 0 (xI (IntKind.wrap Go.IntKind.i64 ((x21.r x20.i 0).i + (bif (decide (x30.i = 5)) then 0 else (bif (decide (x30.i = 4)) then 0 else (bif (decide (x30.i = 3)) then 0 else (bif (decide (x30.i = 2)) then 0 else (bif (decide (x30.i = 1)) then ((-1) : Int) else 1))))))))) x33.i 1 (xI (IntKind.wrap Go.IntKind.i64 ((x21.r x20.i 1).i + (bif (decide (x30.i = 5)) then 0 else (bif (decide (x30.i = 4)) then 0 else (bif (decide (x30.i = 3)) then (-1) else (bif (decide (x30.i = 2)) then (1 : Int) else 0)))))))) x33.i 2 (xI (IntKind.wrap Go.IntKind.i64 ((x21.r x20.i 2).i + (bif (decide (x30.i = 5)) then (-1) else (bif (decide (x30.i = 4)) then (1 : Int) else 0)))))) (x33.i + 1))] ∧
(((Ff 926 [xI x0, xI x1, xI x2, xI x3, xI x4, xI x5, x6, x7, xI x8, xI x9, xI x10, x20, (xI (x21.r x20.i 0).i), (xI (x21.r x20.i 1).i), (xI (x21.r x20.i 2).i), (xI (x30.i + 1)), x31, x32, (aH (ak (ak (ak x33.r x33.i 0 (xI (IntKind.wrap Go.IntKind.i64 ((x21.r x20.i 0).i + (bif (decide (x30.i = 5)) then 0 else (bif (decide (x30.i = 4)) then 0 else (bif (decide (x30.i = 3)) then 0 else (bif (decide (x30.i = 2)) then 0 else (bif (decide (x30.i = 1)) then ((-1) : Int) else 1))))))))) x33.i 1 (xI (IntKind.wrap Go.IntKind.i64 ((x21.r x20.i 1).i + (bif (decide (x30.i = 5)) then 0 else (bif (decide (x30.i = 4)) then 0 else (bif (decide (x30.i = 3)) then (-1) else (bif (decide (x30.i = 2)) then (1 : Int) else 0)))))))) x33.i 2 (xI (IntKind.wrap Go.IntKind.i64 ((x21.r x20.i 2).i + (bif (decide (x30.i = 5)) then (-1) else (bif (decide (x30.i = 4)) then (1 : Int) else 0)))))) (x33.i + 1))]).i < (Ff 926 [xI x0, xI x1, xI x2, xI x3, xI x4, xI x5, x6, x7, xI x8, xI x9, xI x10, x20, (xI (x21.r x20.i 0).i), (xI (x21.r x20.i 1).i), (xI (x21.r x20.i 2).i), x30, x31, x32, x33]).i) ∧
(0 < (Ff 926 [xI x0, xI x1, xI x2, xI x3, xI x4, xI x5, x6, x7, xI x8, xI x9, xI x10, x20, (xI (x21.r x20.i 0).i), (xI (x21.r x20.i 1).i), (xI (x21.r x20.i 2).i), x30, x31, x32, x33]).i)))))))))))))))))) ∧
((v23.b = true) →
(Px 976 [xI x0, xI x1, xI x2, xI x3, xI x4, xI x5, x6, x7, xI x8, xI x9, xI x10, x20, (xI (x21.r x20.i 0).i), (xI (x21.r x20.i 1).i), (xI (x21.r x20.i 2).i), (xI (x30.i + 1)), x31, x32, x33] ∧
(((Ff 926 [xI x0, xI x1, xI x2, xI x3, xI x4, xI x5, x6, x7, xI x8, xI x9, xI x10, x20, (xI (x21.r x20.i 0).i), (xI (x21.r x20.i 1).i), (xI (x21.r x20.i 2).i), (xI (x30.i + 1)), x31, x32, x33]).i < (Ff 926 [xI x0, xI x1, xI x2, xI x3, xI x4, xI x5, x6, x7, xI x8, xI x9, xI x10, x20, (xI (x21.r x20.i 0).i), (xI (x21.r x20.i 1).i), (xI (x21.r x20.i 2).i), x30, x31, x32, x33]).i) ∧
(0 < (Ff 926 [xI x0, xI x1, xI x2, xI x3, xI x4, xI x5, x6, x7, xI x8, xI x9, xI x10, x20, (xI (x21.r x20.i 0).i), (xI (x21.r x20.i 1).i), (xI (x21.r x20.i 2).i), x30, x31, x32, x33]).i))))))) ∧
((¬ (x30.i < 6)) →
(Px 975 [xI x0, xI x1, xI x2, xI x3, xI x4, xI x5, x6, x7, xI x8, xI x9, xI x10, (xI (x20.i + 1)), x31, x32, x33] ∧
(((Ff 924 [xI x0, xI x1, xI x2, xI x3, xI x4, xI x5, x6, x7, xI x8, xI x9, xI x10, (xI (x20.i + 1)), x31, x32, x33]).i < (Ff 924 [xI x0, xI x1, xI x2, xI x3, xI x4, xI x5, x6, x7, xI x8, xI x9, xI x10, x20, x21, x22, x23]).i) ∧
(0 < (Ff 924 [xI x0, xI x1, xI x2, xI x3, xI x4, xI x5, x6, x7, xI x8, xI x9, xI x10, x20, x21, x22, x23]).i)))))))))))))))) ∧
((¬ (x20.i < x21.i)) →
(Px 977 [x21, xI x11, xI x12, xI x13, xI 0] ∧
(∀ x40 : X, (((0 ≤ x40.i) ∧ (x40.i ≤ 512)) →
(Px 977 [x21, xI x11, xI x12, xI x13, x40] →
(((x40.i < x21.i) →
((x40.i < x21.i) ∧
((((x11 = (x21.r x40.i 0).i) ∧ ((x12 = (x21.r x40.i 1).i) ∧ (x13 = (x21.r x40.i 2).i))) →
(((true = true) ↔ (Ff 918 A).b = true) ∧ ((rI 0 (Ff 919 A).i 0 0) ∧ True))) ∧
((¬ ((x11 = (x21.r x40.i 0).i) ∧ ((x12 = (x21.r x40.i 1).i) ∧ (x13 = (x21.r x40.i 2).i)))) →
(Px 977 [x21, xI x11, xI x12, xI x13, (xI (x40.i + 1))] ∧
(((Ff 927 [x21, xI x11, xI x12, xI x13, (xI (x40.i + 1))]).i < (Ff 927 [x21, xI x11, xI x12, xI x13, x40]).i) ∧
(0 < (Ff 927 [x21, xI x11, xI x12, xI x13, x40]).i))))))) ∧
((¬ (x40.i < x21.i)) →
(((false = true) ↔ (Ff 918 A).b = true) ∧ ((rI 0 (Ff 919 A).i 0 0) ∧ True))))))))))))))))))))))))))
theorem M5 (x0 x1 x2 x3 x4 x5 : Int) (x6 : X) (x7 : X) (x8 x9 x10 x11 x12 x13 x14 : Int) : (bS (fun j => Ff j [xI x0, xI x1, xI x2, xI x3, xI x4, xI x5, x6, x7, xI x8, xI x9, xI x10, xI x11, xI x12, xI x13, xI x14]) pU.fs pU.res { ρ0 with x := fun j => [xI x0, xI x1, xI x2, xI x3, xI x4, xI x5, x6, x7, xI x8, xI x9, xI x10, xI x11, xI x12, xI x13, xI x14].getD j (xI 0) } (bP Tryz.prog (ui (Kz ij wa) none [] [] DR bq) Tryz.f8 600 yr)) = DS x0 x1 x2 x3 x4 x5 x6 x7 x8 x9 x10 x11 x12 x13 x14 := by kernel_rfl
set_option maxHeartbeats 4000000 in
theorem M6 (x0 x1 x2 x3 x4 x5 : Int) (x6 : X) (x7 : X) (x8 x9 x10 x11 x12 x13 x14 : Int) (g0 : -1048575 ≤ x0 ∧ x0 ≤ 1048575) (g1 : -1048575 ≤ x1 ∧ x1 ≤ 1048575) (g2 : -1048575 ≤ x2 ∧ x2 ≤ 1048575) (g3 : -1048575 ≤ x3 ∧ x3 ≤ 1048575) (g4 : -1048575 ≤ x4 ∧ x4 ≤ 1048575) (g5 : -1048575 ≤ x5 ∧ x5 ≤ 1048575) (g6 : 0 ≤ x6.i ∧ x6.i ≤ 2097152 ∧ au gW x6.r x6.i.toNat) (g7 : 0 ≤ x7.i ∧ x7.i ≤ 9223372036854775807 ∧ au Gp x7.r x7.i.toNat) (g8 : -1000 ≤ x8 ∧ x8 ≤ 1000) (g9 : -1000 ≤ x9 ∧ x9 ≤ 1000) (g10 : -1000 ≤ x10 ∧ x10 ≤ 1000) (g11 : -1000 ≤ x11 ∧ x11 ≤ 1000) (g12 : -1000 ≤ x12 ∧ x12 ≤ 1000) (g13 : -1000 ≤ x13 ∧ x13 ≤ 1000) (g14 : 512 ≤ x14 ∧ x14 ≤ 512) (gp : Px pU.pre.get! [xI x0, xI x1, xI x2, xI x3, xI x4, xI x5, x6, x7, xI x8, xI x9, xI x10, xI x11, xI x12, xI x13, xI x14]) : DS x0 x1 x2 x3 x4 x5 x6 x7 x8 x9 x10 x11 x12 x13 x14 := by
 unfold DS
 intro A
 obtain ⟨hv, hc, hj⟩ := gp
 have hj : Vt.Jn (xW (DA x0 x1 x2 x3 x4 x5) x6 x7) (x8, x9, x10) (x11, x12, x13) := hj
 have hA := hj.left
 refine ab ?_ fun o0 => ?_
 ·exact hv
 intro v1
 refine And.intro ?_ ?_
 ·intro h3
  exact (h3 ((Bool.and_eq_true _ _).mp hA).1).elim
 intro h4 v5
 refine ab ?_ fun o6 => ?_
 ·exact Bool.false_ne_true
 refine ab ?_ fun o7 => ?_
 ·decide
 refine ab ?_ fun o8 => ?_
 ·exact G1 hA
 intro x20 x21 x22 x23 h9 r10 r11 p12
 have p12 : yp (DA x0 x1 x2 x3 x4 x5) x6 x7 (x8, x9, x10) x20.i 0 x21 x22 x23 := p12
 refine And.intro ?_ ?_
 ·intro h14
  refine ab ?_ fun o15 => ?_
  ·exact h14
  refine ab ?_ fun o16 => ?_
  ·exact ⟨⟨Int.le_refl 0, show (0 : Int) ≤ 6 by decide⟩, p12, h14, rfl, fun j hj => by have hj : (j : Int) < 0 := hj; omega⟩
  intro x30 x31 x32 x33 h17 r18 r19 p20
  obtain ⟨⟨i0, i1⟩, fl, hn, hp, hst⟩ := p20
  have fl : yp (DA x0 x1 x2 x3 x4 x5) x6 x7 (x8, x9, x10) x20.i x30.i x31 x32 x33 := fl
  have hp : cd (x31.r x20.i) = cd (x21.r x20.i) := hp
  have hst : ∀ j : Nat, (j : Int) < x30.i → jc (cd (x21.r x20.i)) j ∈ ae cd x33 := hst
  refine And.intro ?_ ?_
  ·intro h22
   obtain ⟨hq, q0, q1, q2⟩ := M7 (z8 hc (KA p12 h9.1 h14)) i0 h22
   have hb := fl.2.2
   intro v23
   refine And.intro ?_ ?_
   ·intro h25
    refine ab ?_ fun o26 => ?_
    ·exact h25
    refine ab ?_ fun o27 => ?_
    ·omega
    refine ab ?_ fun o28 => ?_
    ·exact q0.1
    refine ab ?_ fun o29 => ?_
    ·exact q0.2
    refine ab ?_ fun o30 => ?_
    ·exact q1.1
    refine ab ?_ fun o31 => ?_
    ·exact q1.2
    refine ab ?_ fun o32 => ?_
    ·exact q2.1
    refine ab ?_ fun o33 => ?_
    ·exact q2.2
    refine ab ?_ fun o34 => ?_
    ·exact hv
    intro v35 v36 v37
    refine And.intro ?_ ?_
    ·intro h39
     have hpu := G2 hc fl h25 ((Aa hA).1 h39.2 : xW (DA x0 x1 x2 x3 x4 x5) x6 x7 (KB (x21.r x20.i 0).i x30.i, KC (x21.r x20.i 1).i x30.i, KD (x21.r x20.i 2).i x30.i))
     refine ab ?_ fun o40 => ?_
     ·exact hpu.2
     refine ab ?_ fun o41 => ?_
     ·exact ⟨⟨show 0 ≤ x30.i + 1 by omega, show x30.i + 1 ≤ 6 by omega⟩, hpu.1, show x20.i < x31.i + 1 by omega, (G3 hn).trans hp, yw i0 hq hb.1.1 hst⟩
     refine ab ?_ fun o42 => ?_
     ·show 7 - (x30.i + 1) < 7 - x30.i
      omega
     show 0 < 7 - x30.i
     omega
    intro h43
    refine And.intro ?_ ?_
    ·intro h45
     refine ab ?_ fun o46 => ?_
     ·omega
     refine ab ?_ fun o47 => ?_
     ·exact ⟨⟨show 0 ≤ x30.i + 1 by omega, show x30.i + 1 ≤ 6 by omega⟩, Ab fl (fun e : xW (DA x0 x1 x2 x3 x4 x5) x6 x7 (KB (x21.r x20.i 0).i x30.i, KC (x21.r x20.i 1).i x30.i, KD (x21.r x20.i 2).i x30.i) => h43 ⟨h45, (Aa hA).2 e⟩) ⟨show 0 ≤ x32.i + 1 by omega, Int.le_refl _⟩, hn, hp, yw i0 hq hb.1.1 hst⟩
     refine ab ?_ fun o48 => ?_
     ·show 7 - (x30.i + 1) < 7 - x30.i
      omega
     show 0 < 7 - x30.i
     omega
    intro h49
    refine ab ?_ fun o50 => ?_
    ·exact ⟨⟨show 0 ≤ x30.i + 1 by omega, show x30.i + 1 ≤ 6 by omega⟩, Ab fl (fun e : xW (DA x0 x1 x2 x3 x4 x5) x6 x7 (KB (x21.r x20.i 0).i x30.i, KC (x21.r x20.i 1).i x30.i, KD (x21.r x20.i 2).i x30.i) => h49 ((Bool.and_eq_true _ _).mp e).1) ⟨hb.2.1, by omega⟩, hn, hp, yw i0 hq hb.1.1 hst⟩
    refine ab ?_ fun o51 => ?_
    ·show 7 - (x30.i + 1) < 7 - x30.i
     omega
    show 0 < 7 - x30.i
    omega
   intro h52
   refine ab ?_ fun o53 => ?_
   ·exact ⟨⟨show 0 ≤ x30.i + 1 by omega, show x30.i + 1 ≤ 6 by omega⟩, G4 fl, hn, hp, KE i0 hq h52 hst⟩
   refine ab ?_ fun o54 => ?_
   ·show 7 - (x30.i + 1) < 7 - x30.i
    omega
   show 0 < 7 - x30.i
   omega
  intro h55
  refine ab ?_ fun o56 => ?_
  ·exact G5 fl i1 h9.1 hn fun j hj => by rw [hp]; exact hst j (by omega)
  refine ab ?_ fun o57 => ?_
  ·show 600 - (x20.i + 1) < 600 - x20.i
   omega
  show 0 < 600 - x20.i
  omega
 intro h58
 refine ab ?_ fun o59 => ?_
 ·exact ⟨Int.le_refl 0, fun j j0 j1 => by have j1 : j < 0 := j1; omega⟩
 intro x40 h60 p61
 obtain ⟨k0, hk⟩ := p61
 refine And.intro ?_ ?_
 ·intro h63
  refine ab ?_ fun o64 => ?_
  ·exact h63
  refine And.intro ?_ ?_
  ·intro h66
   exact ⟨iff_of_true rfl rfl, ⟨rfl, Int.le_refl 0, Int.le_refl 0⟩, trivial⟩
  intro h67
  refine ab ?_ fun o68 => ?_
  ·refine ⟨show 0 ≤ x40.i + 1 by omega, fun j j0 j1 => ?_⟩
   have j1 : j < x40.i + 1 := j1
   by_cases e : j = x40.i
   ·subst e
    exact fun e => h67 ⟨(congrArg Prod.fst e).symm, (congrArg (fun q : I3 => q.2.1) e).symm, (congrArg (fun q : I3 => q.2.2) e).symm⟩
   ·exact hk j j0 (by omega)
  refine ab ?_ fun o69 => ?_
  ·show 600 - (x40.i + 1) < 600 - x40.i
   omega
  show 0 < 600 - x40.i
  omega
 intro h70
 obtain ⟨j, j0, j1, e⟩ := KF p12 h58 hj
 exact absurd e (hk j j0 (by omega))
theorem M8 : aZ Tryz.prog ρ0 pU := by
 refine pV (cf := ui (Kz ij wa) none [] [] DR bq) (ib (Pm vZ M4) bt bw kO) Tryz.func8 rfl 600 rfl (sh := yr) (by kernel_rfl) DN fun ds hr hp => ?_
 have hr := aA hr
 match ds, hr, hp with
 | [d0, d1, d2, d3, d4, d5, d6, d7, d8, d9, d10, d11, d12, d13, d14], hr, hp =>
  obtain ⟨⟨e0, l0, u0⟩, ⟨e1, l1, u1⟩, ⟨e2, l2, u2⟩, ⟨e3, l3, u3⟩, ⟨e4, l4, u4⟩, ⟨e5, l5, u5⟩, l6, l7, ⟨e8, l8, u8⟩, ⟨e9, l9, u9⟩, ⟨e10, l10, u10⟩, ⟨e11, l11, u11⟩, ⟨e12, l12, u12⟩, ⟨e13, l13, u13⟩, ⟨e14, l14, u14⟩, _⟩ := hr
  generalize d0.i = x0, d1.i = x1, d2.i = x2, d3.i = x3, d4.i = x4, d5.i = x5, d6 = x6, d7 = x7, d8.i = x8, d9.i = x9, d10.i = x10, d11.i = x11, d12.i = x12, d13.i = x13, d14.i = x14 at *
  subst e0 e1 e2 e3 e4 e5 e8 e9 e10 e11 e12 e13 e14
  exact Eq.mpr (M5 x0 x1 x2 x3 x4 x5 x6 x7 x8 x9 x10 x11 x12 x13 x14) (M6 x0 x1 x2 x3 x4 x5 x6 x7 x8 x9 x10 x11 x12 x13 x14 ⟨l0, u0⟩ ⟨l1, u1⟩ ⟨l2, u2⟩ ⟨l3, u3⟩ ⟨l4, u4⟩ ⟨l5, u5⟩ l6 l7 ⟨l8, u8⟩ ⟨l9, u9⟩ ⟨l10, u10⟩ ⟨l11, u11⟩ ⟨l12, u12⟩ ⟨l13, u13⟩ ⟨l14, u14⟩ hp)
theorem M9 : Hs pU.f := ⟨_, Tryz.func8, by kernel_rfl, by kernel_rfl⟩
end Vc
end Go.Proofs.YtpmfkelglmgddaaGreatDoor
