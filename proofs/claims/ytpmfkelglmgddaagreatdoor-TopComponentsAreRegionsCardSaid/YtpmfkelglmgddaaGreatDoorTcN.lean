/- Contracts of functions, each out of one walk. -/
import Derived.Test.YtpmfkelglmgddaaGreatDoorTcM
import Derived.Test.YtpmfkelglmgddaaGreatDoorTcY
import Derived.Test.YtpmfkelglmgddaaGreatDoorTcR
import Derived.Test.YtpmfkelglmgddaaGreatDoorTcD
namespace Go.Proofs.YtpmfkelglmgddaaGreatDoor
namespace Vc
open Go Go.RowKit
set_option linter.unusedVariables false
def yG (x0 : X) (x1 : X) (x2 : X) : Prop :=
(Px 960 [x0, x1, x2, xI 0, (aH (ar 1 []) 0)] ∧
(∀ x20 : X, (∀ x21 : X, (((0 ≤ x20.i) ∧ (x20.i ≤ 8)) →
((0 ≤ x21.i ∧ x21.i ≤ 3072 ∧ au iO x21.r (x21.i).toNat) →
(Px 960 [x0, x1, x2, x20, x21] →
(((x20.i < x0.i) →
((x20.i < x0.i) ∧
((x20.i < (x1.i / 64)) ∧
(Px 961 [x0, x1, x2, xI x20.i, xI 0, x21] ∧
(∀ x30 : X, (∀ x31 : X, (((0 ≤ x30.i) ∧ (x30.i ≤ 64)) →
((0 ≤ x31.i ∧ x31.i ≤ 3072 ∧ au iO x31.r (x31.i).toNat) →
(Px 961 [x0, x1, x2, xI x20.i, x30, x31] →
(((x30.i < 64) →
(Px 953 [xI 0, (xI (x0.r x20.i 1).i), (xI (x0.r x20.i 2).i), (xI (x0.r x20.i 3).i), (aH (de x1.r (64 * x20.i)) 64), xI x30.i] ∧
((x20.i < (x1.i / 64)) ∧
(Px 962 [x0, x1, x2, xI x20.i, xI x30.i, xI 0, x31] ∧
(∀ x40 : X, (∀ x41 : X, (((0 ≤ x40.i) ∧ (x40.i ≤ 6)) →
((0 ≤ x41.i ∧ x41.i ≤ 3072 ∧ au iO x41.r (x41.i).toNat) →
(Px 962 [x0, x1, x2, xI x20.i, xI x30.i, x40, x41] →
(((x40.i < 6) →
(((x40.i = 0) →
(let v24 := Ff 908 [xI 0, (xI (x0.r x20.i 1).i), (xI (x0.r x20.i 2).i), (xI (x0.r x20.i 3).i), (aH (de x1.r (64 * x20.i)) 64), xI x30.i]; let v25 := Ff 909 [xI 0, (xI (x0.r x20.i 1).i), (xI (x0.r x20.i 2).i), (xI (x0.r x20.i 3).i), (aH (de x1.r (64 * x20.i)) 64), xI x30.i]; let v26 := Ff 910 [xI 0, (xI (x0.r x20.i 1).i), (xI (x0.r x20.i 2).i), (xI (x0.r x20.i 3).i), (aH (de x1.r (64 * x20.i)) 64), xI x30.i]; (Px 951 [x0, x1, (xI (v24.i + (-1))), xI v25.i, xI v26.i] ∧
(let v28 := Ff 907 [x0, x1, (xI (v24.i + (-1))), xI v25.i, xI v26.i]; let v29 := Ff 905 [x0, x1, (xI (v24.i + (-1))), xI v25.i, xI v26.i]; let v30 := Ff 912 [xI 0, (xI (x0.r x20.i 1).i), (xI (x0.r x20.i 2).i), (xI (x0.r x20.i 3).i), (aH (de x1.r (64 * x20.i)) 64), xI x30.i]; let v31 := Ff 831 [x2, xI v30.i]; let v32 := Ff 906 [x0, x1, (xI (v24.i + (-1))), xI v25.i, xI v26.i]; let v33 := Ff 831 [x2, xI v32.i]; ((((bif (v28.b && (decide (v29.i < 1))) then (v28.b && (decide (v29.i < 1))) else (v31.b == (v28.b && v33.b))) = true) →
(Px 962 [x0, x1, x2, xI x20.i, xI x30.i, xI 1, x41] ∧
(((Ff 987 [x0, x1, x2, xI x20.i, xI x30.i, xI 1, x41]).i < (Ff 987 [x0, x1, x2, xI x20.i, xI x30.i, x40, x41]).i) ∧
(0 < (Ff 987 [x0, x1, x2, xI x20.i, xI x30.i, x40, x41]).i)))) ∧
((¬ ((bif (v28.b && (decide (v29.i < 1))) then (v28.b && (decide (v29.i < 1))) else (v31.b == (v28.b && v33.b))) = true)) →
(((v31.b = true) →
(((v31.b == true) = true) ∧
(((v31.b == true) = true) ∧
(((x41.i + 1) ≤ 3072) ∧
(Px 962 [x0, x1, x2, xI x20.i, xI x30.i, xI 1, (aH (aE x41.r x41.i (ar 6 [v24, v25, v26, xI 0, (xB false), xI 1])) (x41.i + 1))] ∧
(((Ff 987 [x0, x1, x2, xI x20.i, xI x30.i, xI 1, (aH (aE x41.r x41.i (ar 6 [v24, v25, v26, xI 0, (xB false), xI 1])) (x41.i + 1))]).i < (Ff 987 [x0, x1, x2, xI x20.i, xI x30.i, x40, x41]).i) ∧
(0 < (Ff 987 [x0, x1, x2, xI x20.i, xI x30.i, x40, x41]).i))))))) ∧
((¬ (v31.b = true)) →
(((v31.b == false) = true) ∧
(((v31.b == false) = true) ∧
(Px 962 [x0, x1, x2, xI x20.i, xI x30.i, xI 1, x41] ∧
(((Ff 987 [x0, x1, x2, xI x20.i, xI x30.i, xI 1, x41]).i < (Ff 987 [x0, x1, x2, xI x20.i, xI x30.i, x40, x41]).i) ∧
(0 < (Ff 987 [x0, x1, x2, xI x20.i, xI x30.i, x40, x41]).i))))))))))))) ∧
(((x40.i = 1) →
(let v53 := Ff 908 [xI 0, (xI (x0.r x20.i 1).i), (xI (x0.r x20.i 2).i), (xI (x0.r x20.i 3).i), (aH (de x1.r (64 * x20.i)) 64), xI x30.i]; let v54 := Ff 909 [xI 0, (xI (x0.r x20.i 1).i), (xI (x0.r x20.i 2).i), (xI (x0.r x20.i 3).i), (aH (de x1.r (64 * x20.i)) 64), xI x30.i]; let v55 := Ff 910 [xI 0, (xI (x0.r x20.i 1).i), (xI (x0.r x20.i 2).i), (xI (x0.r x20.i 3).i), (aH (de x1.r (64 * x20.i)) 64), xI x30.i]; (Px 951 [x0, x1, (xI (v53.i + 1)), xI v54.i, xI v55.i] ∧
(let v57 := Ff 907 [x0, x1, (xI (v53.i + 1)), xI v54.i, xI v55.i]; let v58 := Ff 905 [x0, x1, (xI (v53.i + 1)), xI v54.i, xI v55.i]; let v59 := Ff 912 [xI 0, (xI (x0.r x20.i 1).i), (xI (x0.r x20.i 2).i), (xI (x0.r x20.i 3).i), (aH (de x1.r (64 * x20.i)) 64), xI x30.i]; let v60 := Ff 831 [x2, xI v59.i]; let v61 := Ff 906 [x0, x1, (xI (v53.i + 1)), xI v54.i, xI v55.i]; let v62 := Ff 831 [x2, xI v61.i]; ((((bif (v57.b && (decide (v58.i < 1))) then (v57.b && (decide (v58.i < 1))) else (v60.b == (v57.b && v62.b))) = true) →
(Px 962 [x0, x1, x2, xI x20.i, xI x30.i, xI 2, x41] ∧
(((Ff 987 [x0, x1, x2, xI x20.i, xI x30.i, xI 2, x41]).i < (Ff 987 [x0, x1, x2, xI x20.i, xI x30.i, x40, x41]).i) ∧
(0 < (Ff 987 [x0, x1, x2, xI x20.i, xI x30.i, x40, x41]).i)))) ∧
((¬ ((bif (v57.b && (decide (v58.i < 1))) then (v57.b && (decide (v58.i < 1))) else (v60.b == (v57.b && v62.b))) = true)) →
(((v60.b = true) →
(((v60.b == true) = true) ∧
(((v60.b == true) = true) ∧
(((x41.i + 1) ≤ 3072) ∧
(Px 962 [x0, x1, x2, xI x20.i, xI x30.i, xI 2, (aH (aE x41.r x41.i (ar 6 [(xI (v53.i + 1)), v54, v55, xI 0, (xB true), xI 1])) (x41.i + 1))] ∧
(((Ff 987 [x0, x1, x2, xI x20.i, xI x30.i, xI 2, (aH (aE x41.r x41.i (ar 6 [(xI (v53.i + 1)), v54, v55, xI 0, (xB true), xI 1])) (x41.i + 1))]).i < (Ff 987 [x0, x1, x2, xI x20.i, xI x30.i, x40, x41]).i) ∧
(0 < (Ff 987 [x0, x1, x2, xI x20.i, xI x30.i, x40, x41]).i))))))) ∧
((¬ (v60.b = true)) →
(((v60.b == false) = true) ∧
(((v60.b == false) = true) ∧
(Px 962 [x0, x1, x2, xI x20.i, xI x30.i, xI 2, x41] ∧
(((Ff 987 [x0, x1, x2, xI x20.i, xI x30.i, xI 2, x41]).i < (Ff 987 [x0, x1, x2, xI x20.i, xI x30.i, x40, x41]).i) ∧
(0 < (Ff 987 [x0, x1, x2, xI x20.i, xI x30.i, x40, x41]).i))))))))))))) ∧
(((x40.i = 2) →
(let v82 := Ff 908 [xI 0, (xI (x0.r x20.i 1).i), (xI (x0.r x20.i 2).i), (xI (x0.r x20.i 3).i), (aH (de x1.r (64 * x20.i)) 64), xI x30.i]; let v83 := Ff 909 [xI 0, (xI (x0.r x20.i 1).i), (xI (x0.r x20.i 2).i), (xI (x0.r x20.i 3).i), (aH (de x1.r (64 * x20.i)) 64), xI x30.i]; let v84 := Ff 910 [xI 0, (xI (x0.r x20.i 1).i), (xI (x0.r x20.i 2).i), (xI (x0.r x20.i 3).i), (aH (de x1.r (64 * x20.i)) 64), xI x30.i]; (Px 951 [x0, x1, xI v82.i, (xI (v83.i + (-1))), xI v84.i] ∧
(let v86 := Ff 907 [x0, x1, xI v82.i, (xI (v83.i + (-1))), xI v84.i]; let v87 := Ff 905 [x0, x1, xI v82.i, (xI (v83.i + (-1))), xI v84.i]; let v88 := Ff 912 [xI 0, (xI (x0.r x20.i 1).i), (xI (x0.r x20.i 2).i), (xI (x0.r x20.i 3).i), (aH (de x1.r (64 * x20.i)) 64), xI x30.i]; let v89 := Ff 831 [x2, xI v88.i]; let v90 := Ff 906 [x0, x1, xI v82.i, (xI (v83.i + (-1))), xI v84.i]; let v91 := Ff 831 [x2, xI v90.i]; ((((bif (v86.b && (decide (v87.i < 1))) then (v86.b && (decide (v87.i < 1))) else (v89.b == (v86.b && v91.b))) = true) →
(Px 962 [x0, x1, x2, xI x20.i, xI x30.i, xI 3, x41] ∧
(((Ff 987 [x0, x1, x2, xI x20.i, xI x30.i, xI 3, x41]).i < (Ff 987 [x0, x1, x2, xI x20.i, xI x30.i, x40, x41]).i) ∧
(0 < (Ff 987 [x0, x1, x2, xI x20.i, xI x30.i, x40, x41]).i)))) ∧
((¬ ((bif (v86.b && (decide (v87.i < 1))) then (v86.b && (decide (v87.i < 1))) else (v89.b == (v86.b && v91.b))) = true)) →
(((v89.b = true) →
(((v89.b == true) = true) ∧
(((v89.b == true) = true) ∧
(((x41.i + 1) ≤ 3072) ∧
(Px 962 [x0, x1, x2, xI x20.i, xI x30.i, xI 3, (aH (aE x41.r x41.i (ar 6 [v82, v83, v84, xI 1, (xB false), xI 1])) (x41.i + 1))] ∧
(((Ff 987 [x0, x1, x2, xI x20.i, xI x30.i, xI 3, (aH (aE x41.r x41.i (ar 6 [v82, v83, v84, xI 1, (xB false), xI 1])) (x41.i + 1))]).i < (Ff 987 [x0, x1, x2, xI x20.i, xI x30.i, x40, x41]).i) ∧
(0 < (Ff 987 [x0, x1, x2, xI x20.i, xI x30.i, x40, x41]).i))))))) ∧
((¬ (v89.b = true)) →
(((v89.b == false) = true) ∧
(((v89.b == false) = true) ∧
(Px 962 [x0, x1, x2, xI x20.i, xI x30.i, xI 3, x41] ∧
(((Ff 987 [x0, x1, x2, xI x20.i, xI x30.i, xI 3, x41]).i < (Ff 987 [x0, x1, x2, xI x20.i, xI x30.i, x40, x41]).i) ∧
(0 < (Ff 987 [x0, x1, x2, xI x20.i, xI x30.i, x40, x41]).i))))))))))))) ∧
(((x40.i = 3) →
(let v111 := Ff 908 [xI 0, (xI (x0.r x20.i 1).i), (xI (x0.r x20.i 2).i), (xI (x0.r x20.i 3).i), (aH (de x1.r (64 * x20.i)) 64), xI x30.i]; let v112 := Ff 909 [xI 0, (xI (x0.r x20.i 1).i), (xI (x0.r x20.i 2).i), (xI (x0.r x20.i 3).i), (aH (de x1.r (64 * x20.i)) 64), xI x30.i]; let v113 := Ff 910 [xI 0, (xI (x0.r x20.i 1).i), (xI (x0.r x20.i 2).i), (xI (x0.r x20.i 3).i), (aH (de x1.r (64 * x20.i)) 64), xI x30.i]; (Px 951 [x0, x1, xI v111.i, (xI (v112.i + 1)), xI v113.i] ∧
(let v115 := Ff 907 [x0, x1, xI v111.i, (xI (v112.i + 1)), xI v113.i]; let v116 := Ff 905 [x0, x1, xI v111.i, (xI (v112.i + 1)), xI v113.i]; let v117 := Ff 912 [xI 0, (xI (x0.r x20.i 1).i), (xI (x0.r x20.i 2).i), (xI (x0.r x20.i 3).i), (aH (de x1.r (64 * x20.i)) 64), xI x30.i]; let v118 := Ff 831 [x2, xI v117.i]; let v119 := Ff 906 [x0, x1, xI v111.i, (xI (v112.i + 1)), xI v113.i]; let v120 := Ff 831 [x2, xI v119.i]; ((((bif (v115.b && (decide (v116.i < 1))) then (v115.b && (decide (v116.i < 1))) else (v118.b == (v115.b && v120.b))) = true) →
(Px 962 [x0, x1, x2, xI x20.i, xI x30.i, xI 4, x41] ∧
(((Ff 987 [x0, x1, x2, xI x20.i, xI x30.i, xI 4, x41]).i < (Ff 987 [x0, x1, x2, xI x20.i, xI x30.i, x40, x41]).i) ∧
(0 < (Ff 987 [x0, x1, x2, xI x20.i, xI x30.i, x40, x41]).i)))) ∧
((¬ ((bif (v115.b && (decide (v116.i < 1))) then (v115.b && (decide (v116.i < 1))) else (v118.b == (v115.b && v120.b))) = true)) →
(((v118.b = true) →
(((v118.b == true) = true) ∧
(((v118.b == true) = true) ∧
(((x41.i + 1) ≤ 3072) ∧
(Px 962 [x0, x1, x2, xI x20.i, xI x30.i, xI 4, (aH (aE x41.r x41.i (ar 6 [v111, (xI (v112.i + 1)), v113, xI 1, (xB true), xI 1])) (x41.i + 1))] ∧
(((Ff 987 [x0, x1, x2, xI x20.i, xI x30.i, xI 4, (aH (aE x41.r x41.i (ar 6 [v111, (xI (v112.i + 1)), v113, xI 1, (xB true), xI 1])) (x41.i + 1))]).i < (Ff 987 [x0, x1, x2, xI x20.i, xI x30.i, x40, x41]).i) ∧
(0 < (Ff 987 [x0, x1, x2, xI x20.i, xI x30.i, x40, x41]).i))))))) ∧
((¬ (v118.b = true)) →
(((v118.b == false) = true) ∧
(((v118.b == false) = true) ∧
(Px 962 [x0, x1, x2, xI x20.i, xI x30.i, xI 4, x41] ∧
(((Ff 987 [x0, x1, x2, xI x20.i, xI x30.i, xI 4, x41]).i < (Ff 987 [x0, x1, x2, xI x20.i, xI x30.i, x40, x41]).i) ∧
(0 < (Ff 987 [x0, x1, x2, xI x20.i, xI x30.i, x40, x41]).i))))))))))))) ∧
(((x40.i = 4) →
(let v140 := Ff 908 [xI 0, (xI (x0.r x20.i 1).i), (xI (x0.r x20.i 2).i), (xI (x0.r x20.i 3).i), (aH (de x1.r (64 * x20.i)) 64), xI x30.i]; let v141 := Ff 909 [xI 0, (xI (x0.r x20.i 1).i), (xI (x0.r x20.i 2).i), (xI (x0.r x20.i 3).i), (aH (de x1.r (64 * x20.i)) 64), xI x30.i]; let v142 := Ff 910 [xI 0, (xI (x0.r x20.i 1).i), (xI (x0.r x20.i 2).i), (xI (x0.r x20.i 3).i), (aH (de x1.r (64 * x20.i)) 64), xI x30.i]; (Px 951 [x0, x1, xI v140.i, xI v141.i, (xI (v142.i + (-1)))] ∧
(let v144 := Ff 907 [x0, x1, xI v140.i, xI v141.i, (xI (v142.i + (-1)))]; let v145 := Ff 905 [x0, x1, xI v140.i, xI v141.i, (xI (v142.i + (-1)))]; let v146 := Ff 912 [xI 0, (xI (x0.r x20.i 1).i), (xI (x0.r x20.i 2).i), (xI (x0.r x20.i 3).i), (aH (de x1.r (64 * x20.i)) 64), xI x30.i]; let v147 := Ff 831 [x2, xI v146.i]; let v148 := Ff 906 [x0, x1, xI v140.i, xI v141.i, (xI (v142.i + (-1)))]; let v149 := Ff 831 [x2, xI v148.i]; ((((bif (v144.b && (decide (v145.i < 1))) then (v144.b && (decide (v145.i < 1))) else (v147.b == (v144.b && v149.b))) = true) →
(Px 962 [x0, x1, x2, xI x20.i, xI x30.i, xI 5, x41] ∧
(((Ff 987 [x0, x1, x2, xI x20.i, xI x30.i, xI 5, x41]).i < (Ff 987 [x0, x1, x2, xI x20.i, xI x30.i, x40, x41]).i) ∧
(0 < (Ff 987 [x0, x1, x2, xI x20.i, xI x30.i, x40, x41]).i)))) ∧
((¬ ((bif (v144.b && (decide (v145.i < 1))) then (v144.b && (decide (v145.i < 1))) else (v147.b == (v144.b && v149.b))) = true)) →
(((v147.b = true) →
(((v147.b == true) = true) ∧
(((v147.b == true) = true) ∧
(((x41.i + 1) ≤ 3072) ∧
(Px 962 [x0, x1, x2, xI x20.i, xI x30.i, xI 5, (aH (aE x41.r x41.i (ar 6 [v140, v141, v142, xI 2, (xB false), xI 1])) (x41.i + 1))] ∧
(((Ff 987 [x0, x1, x2, xI x20.i, xI x30.i, xI 5, (aH (aE x41.r x41.i (ar 6 [v140, v141, v142, xI 2, (xB false), xI 1])) (x41.i + 1))]).i < (Ff 987 [x0, x1, x2, xI x20.i, xI x30.i, x40, x41]).i) ∧
(0 < (Ff 987 [x0, x1, x2, xI x20.i, xI x30.i, x40, x41]).i))))))) ∧
((¬ (v147.b = true)) →
(((v147.b == false) = true) ∧
(((v147.b == false) = true) ∧
(Px 962 [x0, x1, x2, xI x20.i, xI x30.i, xI 5, x41] ∧
(((Ff 987 [x0, x1, x2, xI x20.i, xI x30.i, xI 5, x41]).i < (Ff 987 [x0, x1, x2, xI x20.i, xI x30.i, x40, x41]).i) ∧
(0 < (Ff 987 [x0, x1, x2, xI x20.i, xI x30.i, x40, x41]).i))))))))))))) ∧
(((x40.i = 5) →
(let v169 := Ff 908 [xI 0, (xI (x0.r x20.i 1).i), (xI (x0.r x20.i 2).i), (xI (x0.r x20.i 3).i), (aH (de x1.r (64 * x20.i)) 64), xI x30.i]; let v170 := Ff 909 [xI 0, (xI (x0.r x20.i 1).i), (xI (x0.r x20.i 2).i), (xI (x0.r x20.i 3).i), (aH (de x1.r (64 * x20.i)) 64), xI x30.i]; let v171 := Ff 910 [xI 0, (xI (x0.r x20.i 1).i), (xI (x0.r x20.i 2).i), (xI (x0.r x20.i 3).i), (aH (de x1.r (64 * x20.i)) 64), xI x30.i]; (Px 951 [x0, x1, xI v169.i, xI v170.i, (xI (v171.i + 1))] ∧
(let v173 := Ff 907 [x0, x1, xI v169.i, xI v170.i, (xI (v171.i + 1))]; let v174 := Ff 905 [x0, x1, xI v169.i, xI v170.i, (xI (v171.i + 1))]; let v175 := Ff 912 [xI 0, (xI (x0.r x20.i 1).i), (xI (x0.r x20.i 2).i), (xI (x0.r x20.i 3).i), (aH (de x1.r (64 * x20.i)) 64), xI x30.i]; let v176 := Ff 831 [x2, xI v175.i]; let v177 := Ff 906 [x0, x1, xI v169.i, xI v170.i, (xI (v171.i + 1))]; let v178 := Ff 831 [x2, xI v177.i]; ((((bif (v173.b && (decide (v174.i < 1))) then (v173.b && (decide (v174.i < 1))) else (v176.b == (v173.b && v178.b))) = true) →
(Px 962 [x0, x1, x2, xI x20.i, xI x30.i, xI 6, x41] ∧
(((Ff 987 [x0, x1, x2, xI x20.i, xI x30.i, xI 6, x41]).i < (Ff 987 [x0, x1, x2, xI x20.i, xI x30.i, x40, x41]).i) ∧
(0 < (Ff 987 [x0, x1, x2, xI x20.i, xI x30.i, x40, x41]).i)))) ∧
((¬ ((bif (v173.b && (decide (v174.i < 1))) then (v173.b && (decide (v174.i < 1))) else (v176.b == (v173.b && v178.b))) = true)) →
(((v176.b = true) →
(((v176.b == true) = true) ∧
(((v176.b == true) = true) ∧
(((x41.i + 1) ≤ 3072) ∧
(Px 962 [x0, x1, x2, xI x20.i, xI x30.i, xI 6, (aH (aE x41.r x41.i (ar 6 [v169, v170, (xI (v171.i + 1)), xI 2, (xB true), xI 1])) (x41.i + 1))] ∧
(((Ff 987 [x0, x1, x2, xI x20.i, xI x30.i, xI 6, (aH (aE x41.r x41.i (ar 6 [v169, v170, (xI (v171.i + 1)), xI 2, (xB true), xI 1])) (x41.i + 1))]).i < (Ff 987 [x0, x1, x2, xI x20.i, xI x30.i, x40, x41]).i) ∧
(0 < (Ff 987 [x0, x1, x2, xI x20.i, xI x30.i, x40, x41]).i))))))) ∧
((¬ (v176.b = true)) →
(((v176.b == false) = true) ∧
(((v176.b == false) = true) ∧
(Px 962 [x0, x1, x2, xI x20.i, xI x30.i, xI 6, x41] ∧
(((Ff 987 [x0, x1, x2, xI x20.i, xI x30.i, xI 6, x41]).i < (Ff 987 [x0, x1, x2, xI x20.i, xI x30.i, x40, x41]).i) ∧
(0 < (Ff 987 [x0, x1, x2, xI x20.i, xI x30.i, x40, x41]).i))))))))))))) ∧
 True))))))) ∧
((¬ (x40.i < 6)) →
(Px 961 [x0, x1, x2, xI x20.i, (xI (x30.i + 1)), x41] ∧
(((Ff 986 [x0, x1, x2, xI x20.i, (xI (x30.i + 1)), x41]).i < (Ff 986 [x0, x1, x2, xI x20.i, x30, x31]).i) ∧
(0 < (Ff 986 [x0, x1, x2, xI x20.i, x30, x31]).i)))))))))))))) ∧
((¬ (x30.i < 64)) →
(Px 960 [x0, x1, x2, (xI (x20.i + 1)), x31] ∧
(((Ff 985 [x0, x1, x2, (xI (x20.i + 1)), x31]).i < (Ff 985 [x0, x1, x2, x20, x21]).i) ∧
(0 < (Ff 985 [x0, x1, x2, x20, x21]).i)))))))))))))) ∧
((¬ (x20.i < x0.i)) →
(let v203 := Ff 925 [(aH x21.r x21.i)]; (cR iO (Ff 920 [x0, x1, x2]) v203.r x21.i 3072))))))))))
theorem Lj (x0 : X) (x1 : X) (x2 : X) : (bS (fun j => Ff j [x0, x1, x2]) jo.fs jo.res { ρ0 with x := fun j => [x0, x1, x2].getD j (xI 0) } (bP Tryz.prog (JP [([5, 0], 47)] (Kz ij wD) none [] [KT, wu, sA] Aq bq) Tryz.f18 600 jo.args)) = yG x0 x1 x2 := by kernel_rfl
set_option maxHeartbeats 4000000 in
theorem Lk (x0 : X) (x1 : X) (x2 : X) (g0 : 0 ≤ x0.i ∧ x0.i ≤ 8 ∧ au vY x0.r x0.i.toNat) (g1 : Eo 0 x1) (g2 : 0 ≤ x2.i ∧ x2.i ≤ 9223372036854775807 ∧ au Gp x2.r x2.i.toNat) (gp : Px jo.pre.get! [x0, x1, x2]) : yG x0 x1 x2 := by
 unfold yG
 have hp : dQ x0 := gp.1
 have hd : x1.i = 64 * x0.i := gp.2
 have ht : x0.i ≤ 8 := by have := hp.1; omega
 refine ab ?_ fun o0 => ?_
 ·refine ⟨show (0 : Int) ≤ x0.i by have := hp.1; omega, rfl⟩
 intro x20 x21 h1 r2 p3
 refine And.intro ?_ ?_
 ·intro h5
  refine ab ?_ fun o6 => ?_
  ·exact h5
  refine ab ?_ fun o7 => ?_
  ·omega
  refine ab ?_ fun o8 => ?_
  ·have e : ae aQ x21 = bK x0 x1 x2 (384 * x20.i.toNat) := p3.2
   show ae aQ x21 = bK x0 x1 x2 (6 * (64 * x20.i + 0).toNat)
   rw [e, show 384 * x20.i.toNat = 6 * (64 * x20.i + 0).toNat by omega]
  intro x30 x31 h9 r10 p11
  refine And.intro ?_ ?_
  ·intro h13
   refine ab ?_ fun o14 => ?_
   ·exact (rfl : (64 : Int) = 64)
   refine ab ?_ fun o15 => ?_
   ·omega
   refine ab ?_ fun o16 => ?_
   ·exact p11
   intro x40 x41 h17
   have qk : 0 ≤ x20.i ∧ x20.i < x0.i ∧ 0 ≤ x30.i ∧ x30.i < 64 := by omega
   intro r18 p19
   refine And.intro ?_ ?_
   ·intro h21
    refine And.intro ?_ ?_
    ·intro h23
     have q : ae aQ x41 = bK x0 x1 x2 (6 * (64 * x20.i + x30.i).toNat + 0) := by
      have q : ae aQ x41 = bK x0 x1 x2 (6 * (64 * x20.i + x30.i).toNat + x40.i.toNat) := p19
      rw [h23] at q
      exact q
     intro v24 v25 v26
     refine ab ?_ fun o27 => ?_
     ·exact ⟨hp, hd⟩
     intro v28 v29 v30 v31 v32 v33
     refine And.intro ?_ ?_
     ·intro h35
      refine ab ?_ fun o36 => ?_
      ·exact dw 0 (by decide) hp qk.1 qk.2.1 qk.2.2.1 qk.2.2.2 q rfl fun c => c.2 h35
      refine ab ?_ fun o37 => ?_
      ·show (7 : Int) - 1 < 7 - x40.i
       omega
      show (0 : Int) < 7 - x40.i
      omega
     intro h38
     refine And.intro ?_ ?_
     ·intro h40
      refine ab ?_ fun o41 => ?_
      ·rw [h40]
       rfl
      refine ab ?_ fun o42 => ?_
      ·rw [h40]
       rfl
      refine ab ?_ fun o43 => ?_
      ·exact jX 0 (by decide) qk.2.1 qk.2.2.1 qk.2.2.2 q ht
      refine ab ?_ fun o44 => ?_
      ·exact jY 0 (by decide) hp qk.1 qk.2.1 qk.2.2.1 qk.2.2.2 q rfl h40 h38 (by omega) rfl
      refine ab ?_ fun o45 => ?_
      ·show (7 : Int) - 1 < 7 - x40.i
       omega
      show (0 : Int) < 7 - x40.i
      omega
     intro h46
     refine ab ?_ fun o47 => ?_
     ·rw [Bool.not_eq_true] at h46
      rw [h46]
      rfl
     refine ab ?_ fun o48 => ?_
     ·rw [Bool.not_eq_true] at h46
      rw [h46]
      rfl
     refine ab ?_ fun o49 => ?_
     ·exact dw 0 (by decide) hp qk.1 qk.2.1 qk.2.2.1 qk.2.2.2 q rfl fun c => h46 c.1
     refine ab ?_ fun o50 => ?_
     ·show (7 : Int) - 1 < 7 - x40.i
      omega
     show (0 : Int) < 7 - x40.i
     omega
    refine And.intro ?_ ?_
    ·intro h52
     have q : ae aQ x41 = bK x0 x1 x2 (6 * (64 * x20.i + x30.i).toNat + 1) := by
      have q : ae aQ x41 = bK x0 x1 x2 (6 * (64 * x20.i + x30.i).toNat + x40.i.toNat) := p19
      rw [h52] at q
      exact q
     intro v53 v54 v55
     refine ab ?_ fun o56 => ?_
     ·exact ⟨hp, hd⟩
     intro v57 v58 v59 v60 v61 v62
     refine And.intro ?_ ?_
     ·intro h64
      refine ab ?_ fun o65 => ?_
      ·exact dw 1 (by decide) hp qk.1 qk.2.1 qk.2.2.1 qk.2.2.2 q rfl fun c => c.2 h64
      refine ab ?_ fun o66 => ?_
      ·show (7 : Int) - 2 < 7 - x40.i
       omega
      show (0 : Int) < 7 - x40.i
      omega
     intro h67
     refine And.intro ?_ ?_
     ·intro h69
      refine ab ?_ fun o70 => ?_
      ·rw [h69]
       rfl
      refine ab ?_ fun o71 => ?_
      ·rw [h69]
       rfl
      refine ab ?_ fun o72 => ?_
      ·exact jX 1 (by decide) qk.2.1 qk.2.2.1 qk.2.2.2 q ht
      refine ab ?_ fun o73 => ?_
      ·exact jY 1 (by decide) hp qk.1 qk.2.1 qk.2.2.1 qk.2.2.2 q rfl h69 h67 (by omega) rfl
      refine ab ?_ fun o74 => ?_
      ·show (7 : Int) - 2 < 7 - x40.i
       omega
      show (0 : Int) < 7 - x40.i
      omega
     intro h75
     refine ab ?_ fun o76 => ?_
     ·rw [Bool.not_eq_true] at h75
      rw [h75]
      rfl
     refine ab ?_ fun o77 => ?_
     ·rw [Bool.not_eq_true] at h75
      rw [h75]
      rfl
     refine ab ?_ fun o78 => ?_
     ·exact dw 1 (by decide) hp qk.1 qk.2.1 qk.2.2.1 qk.2.2.2 q rfl fun c => h75 c.1
     refine ab ?_ fun o79 => ?_
     ·show (7 : Int) - 2 < 7 - x40.i
      omega
     show (0 : Int) < 7 - x40.i
     omega
    refine And.intro ?_ ?_
    ·intro h81
     have q : ae aQ x41 = bK x0 x1 x2 (6 * (64 * x20.i + x30.i).toNat + 2) := by
      have q : ae aQ x41 = bK x0 x1 x2 (6 * (64 * x20.i + x30.i).toNat + x40.i.toNat) := p19
      rw [h81] at q
      exact q
     intro v82 v83 v84
     refine ab ?_ fun o85 => ?_
     ·exact ⟨hp, hd⟩
     intro v86 v87 v88 v89 v90 v91
     refine And.intro ?_ ?_
     ·intro h93
      refine ab ?_ fun o94 => ?_
      ·exact dw 2 (by decide) hp qk.1 qk.2.1 qk.2.2.1 qk.2.2.2 q rfl fun c => c.2 h93
      refine ab ?_ fun o95 => ?_
      ·show (7 : Int) - 3 < 7 - x40.i
       omega
      show (0 : Int) < 7 - x40.i
      omega
     intro h96
     refine And.intro ?_ ?_
     ·intro h98
      refine ab ?_ fun o99 => ?_
      ·rw [h98]
       rfl
      refine ab ?_ fun o100 => ?_
      ·rw [h98]
       rfl
      refine ab ?_ fun o101 => ?_
      ·exact jX 2 (by decide) qk.2.1 qk.2.2.1 qk.2.2.2 q ht
      refine ab ?_ fun o102 => ?_
      ·exact jY 2 (by decide) hp qk.1 qk.2.1 qk.2.2.1 qk.2.2.2 q rfl h98 h96 (by omega) rfl
      refine ab ?_ fun o103 => ?_
      ·show (7 : Int) - 3 < 7 - x40.i
       omega
      show (0 : Int) < 7 - x40.i
      omega
     intro h104
     refine ab ?_ fun o105 => ?_
     ·rw [Bool.not_eq_true] at h104
      rw [h104]
      rfl
     refine ab ?_ fun o106 => ?_
     ·rw [Bool.not_eq_true] at h104
      rw [h104]
      rfl
     refine ab ?_ fun o107 => ?_
     ·exact dw 2 (by decide) hp qk.1 qk.2.1 qk.2.2.1 qk.2.2.2 q rfl fun c => h104 c.1
     refine ab ?_ fun o108 => ?_
     ·show (7 : Int) - 3 < 7 - x40.i
      omega
     show (0 : Int) < 7 - x40.i
     omega
    refine And.intro ?_ ?_
    ·intro h110
     have q : ae aQ x41 = bK x0 x1 x2 (6 * (64 * x20.i + x30.i).toNat + 3) := by
      have q : ae aQ x41 = bK x0 x1 x2 (6 * (64 * x20.i + x30.i).toNat + x40.i.toNat) := p19
      rw [h110] at q
      exact q
     intro v111 v112 v113
     refine ab ?_ fun o114 => ?_
     ·exact ⟨hp, hd⟩
     intro v115 v116 v117 v118 v119 v120
     refine And.intro ?_ ?_
     ·intro h122
      refine ab ?_ fun o123 => ?_
      ·exact dw 3 (by decide) hp qk.1 qk.2.1 qk.2.2.1 qk.2.2.2 q rfl fun c => c.2 h122
      refine ab ?_ fun o124 => ?_
      ·show (7 : Int) - 4 < 7 - x40.i
       omega
      show (0 : Int) < 7 - x40.i
      omega
     intro h125
     refine And.intro ?_ ?_
     ·intro h127
      refine ab ?_ fun o128 => ?_
      ·rw [h127]
       rfl
      refine ab ?_ fun o129 => ?_
      ·rw [h127]
       rfl
      refine ab ?_ fun o130 => ?_
      ·exact jX 3 (by decide) qk.2.1 qk.2.2.1 qk.2.2.2 q ht
      refine ab ?_ fun o131 => ?_
      ·exact jY 3 (by decide) hp qk.1 qk.2.1 qk.2.2.1 qk.2.2.2 q rfl h127 h125 (by omega) rfl
      refine ab ?_ fun o132 => ?_
      ·show (7 : Int) - 4 < 7 - x40.i
       omega
      show (0 : Int) < 7 - x40.i
      omega
     intro h133
     refine ab ?_ fun o134 => ?_
     ·rw [Bool.not_eq_true] at h133
      rw [h133]
      rfl
     refine ab ?_ fun o135 => ?_
     ·rw [Bool.not_eq_true] at h133
      rw [h133]
      rfl
     refine ab ?_ fun o136 => ?_
     ·exact dw 3 (by decide) hp qk.1 qk.2.1 qk.2.2.1 qk.2.2.2 q rfl fun c => h133 c.1
     refine ab ?_ fun o137 => ?_
     ·show (7 : Int) - 4 < 7 - x40.i
      omega
     show (0 : Int) < 7 - x40.i
     omega
    refine And.intro ?_ ?_
    ·intro h139
     have q : ae aQ x41 = bK x0 x1 x2 (6 * (64 * x20.i + x30.i).toNat + 4) := by
      have q : ae aQ x41 = bK x0 x1 x2 (6 * (64 * x20.i + x30.i).toNat + x40.i.toNat) := p19
      rw [h139] at q
      exact q
     intro v140 v141 v142
     refine ab ?_ fun o143 => ?_
     ·exact ⟨hp, hd⟩
     intro v144 v145 v146 v147 v148 v149
     refine And.intro ?_ ?_
     ·intro h151
      refine ab ?_ fun o152 => ?_
      ·exact dw 4 (by decide) hp qk.1 qk.2.1 qk.2.2.1 qk.2.2.2 q rfl fun c => c.2 h151
      refine ab ?_ fun o153 => ?_
      ·show (7 : Int) - 5 < 7 - x40.i
       omega
      show (0 : Int) < 7 - x40.i
      omega
     intro h154
     refine And.intro ?_ ?_
     ·intro h156
      refine ab ?_ fun o157 => ?_
      ·rw [h156]
       rfl
      refine ab ?_ fun o158 => ?_
      ·rw [h156]
       rfl
      refine ab ?_ fun o159 => ?_
      ·exact jX 4 (by decide) qk.2.1 qk.2.2.1 qk.2.2.2 q ht
      refine ab ?_ fun o160 => ?_
      ·exact jY 4 (by decide) hp qk.1 qk.2.1 qk.2.2.1 qk.2.2.2 q rfl h156 h154 (by omega) rfl
      refine ab ?_ fun o161 => ?_
      ·show (7 : Int) - 5 < 7 - x40.i
       omega
      show (0 : Int) < 7 - x40.i
      omega
     intro h162
     refine ab ?_ fun o163 => ?_
     ·rw [Bool.not_eq_true] at h162
      rw [h162]
      rfl
     refine ab ?_ fun o164 => ?_
     ·rw [Bool.not_eq_true] at h162
      rw [h162]
      rfl
     refine ab ?_ fun o165 => ?_
     ·exact dw 4 (by decide) hp qk.1 qk.2.1 qk.2.2.1 qk.2.2.2 q rfl fun c => h162 c.1
     refine ab ?_ fun o166 => ?_
     ·show (7 : Int) - 5 < 7 - x40.i
      omega
     show (0 : Int) < 7 - x40.i
     omega
    refine And.intro ?_ ?_
    ·intro h168
     have q : ae aQ x41 = bK x0 x1 x2 (6 * (64 * x20.i + x30.i).toNat + 5) := by
      have q : ae aQ x41 = bK x0 x1 x2 (6 * (64 * x20.i + x30.i).toNat + x40.i.toNat) := p19
      rw [h168] at q
      exact q
     intro v169 v170 v171
     refine ab ?_ fun o172 => ?_
     ·exact ⟨hp, hd⟩
     intro v173 v174 v175 v176 v177 v178
     refine And.intro ?_ ?_
     ·intro h180
      refine ab ?_ fun o181 => ?_
      ·exact dw 5 (by decide) hp qk.1 qk.2.1 qk.2.2.1 qk.2.2.2 q rfl fun c => c.2 h180
      refine ab ?_ fun o182 => ?_
      ·show (7 : Int) - 6 < 7 - x40.i
       omega
      show (0 : Int) < 7 - x40.i
      omega
     intro h183
     refine And.intro ?_ ?_
     ·intro h185
      refine ab ?_ fun o186 => ?_
      ·rw [h185]
       rfl
      refine ab ?_ fun o187 => ?_
      ·rw [h185]
       rfl
      refine ab ?_ fun o188 => ?_
      ·exact jX 5 (by decide) qk.2.1 qk.2.2.1 qk.2.2.2 q ht
      refine ab ?_ fun o189 => ?_
      ·exact jY 5 (by decide) hp qk.1 qk.2.1 qk.2.2.1 qk.2.2.2 q rfl h185 h183 (by omega) rfl
      refine ab ?_ fun o190 => ?_
      ·show (7 : Int) - 6 < 7 - x40.i
       omega
      show (0 : Int) < 7 - x40.i
      omega
     intro h191
     refine ab ?_ fun o192 => ?_
     ·rw [Bool.not_eq_true] at h191
      rw [h191]
      rfl
     refine ab ?_ fun o193 => ?_
     ·rw [Bool.not_eq_true] at h191
      rw [h191]
      rfl
     refine ab ?_ fun o194 => ?_
     ·exact dw 5 (by decide) hp qk.1 qk.2.1 qk.2.2.1 qk.2.2.2 q rfl fun c => h191 c.1
     refine ab ?_ fun o195 => ?_
     ·show (7 : Int) - 6 < 7 - x40.i
      omega
     show (0 : Int) < 7 - x40.i
     omega
    trivial
   intro h196
   refine ab ?_ fun o197 => ?_
   ·have q : ae aQ x41 = bK x0 x1 x2 (6 * (64 * x20.i + x30.i).toNat + x40.i.toNat) := p19
    show ae aQ x41 = bK x0 x1 x2 (6 * (64 * x20.i + (x30.i + 1)).toNat)
    rw [q, show 6 * (64 * x20.i + x30.i).toNat + x40.i.toNat = 6 * (64 * x20.i + (x30.i + 1)).toNat by omega]
   refine ab ?_ fun o198 => ?_
   ·show (65 : Int) - (x30.i + 1) < 65 - x30.i
    omega
   show (0 : Int) < 65 - x30.i
   omega
  intro h199
  refine ab ?_ fun o200 => ?_
  ·refine ⟨show x20.i + 1 ≤ x0.i by omega, Ll (by omega) (show x30.i = 64 by omega) p11⟩
  refine ab ?_ fun o201 => ?_
  ·show x0.i + 1 - (x20.i + 1) < x0.i + 1 - x20.i
   omega
  have := p3.1
  show 0 < x0.i + 1 - x20.i
  omega
 intro h202 v203
 have q : ae aQ x21 = bK x0 x1 x2 (384 * x20.i.toNat) := p3.2
 have hk : x20.i = x0.i := by have := p3.1; omega
 exact Lm (by omega) (by omega) (by rw [q, hk])
theorem Ln : aZ Tryz.prog ρ0 jo := by
 refine dm (cf := JP [([5, 0], 47)] (Kz ij wD) none [] [KT, wu, sA] Aq bq) (yb (Pm vZ Ny) bt (((bw.cons Nw Nx).cons Qs Qt).cons RL RM) kO) Tryz.func18 rfl 600 rfl fun ds hr hp => ?_
 have hr := aA hr
 match ds, hr, hp with
 | [d0, d1, d2], hr, hp =>
  obtain ⟨l0, l1, l2, _⟩ := hr
  generalize d0 = x0, d1 = x1, d2 = x2 at *
  exact Eq.mpr (Lj x0 x1 x2) (Lk x0 x1 x2 l0 l1 l2 hp)
theorem Lo : Hs jo.f := ⟨_, Tryz.func18, by kernel_rfl, by kernel_rfl⟩
end Vc
end Go.Proofs.YtpmfkelglmgddaaGreatDoor
