/- Proved: GridCrops: the statement 'GridCropsCardSaid' of this seat, for every input that it names; no condition besides. -/
import Derived.Test.YtleapeclbkclaaaDoorC07V
import Derived.Test.YtleapeclbkclaaaDoorC07Z
import Derived.Test.YtleapeclbkclaaaDoorRows
import Derived.Test.YtleapeclbkclaaaDoorCards
import Derived.Test.YtleapeclbkclaaaDoorTie
import Derived.SevenTiedAt
import Derived.ProofKit
import Derived.LaidMore
import Derived.Stop.Joined
namespace Go.Proofs.YtleapeclbkclaaaDoor.gridCrops
open Go Go.ChangeShapes Go.WideShapes Go.ChangeAt Go.RowKit Vc
set_option linter.unusedVariables false


/-- The law's walk, as the machine leaves it. -/
def lawP (x0 : Int) (x1 : Int) (x2 : Int) (x3 : Int) (x4 : Int) (x5 : Int) (x6 : X) (x7 : Int) (x8 : Int) (x9 : Int) (x10 : Int) (x11 : Int) (x12 : Int) (x13 : Int) (x14 : Int) (x15 : Int) (x16 : Int) (x17 : Int) (x18 : Int) (x19 : Int) (x20 : Int) (x21 : Int) : Prop :=
(let v0 : X := Ff 700 [(xI x0), (xI x1), (xI x2), (xI x3), (xI x4), (xI x5), x6]; (((¬ ((1000 < x6.i) ∨ (¬ (v0.b = true)))) →
((((x0 < (-10000)) ∨ (10000 < x0)) →
(true = true)) ∧
((¬ ((x0 < (-10000)) ∨ (10000 < x0))) →
((((x1 < (-10000)) ∨ (10000 < x1)) →
(true = true)) ∧
((¬ ((x1 < (-10000)) ∨ (10000 < x1))) →
((((x2 < (-10000)) ∨ (10000 < x2)) →
(true = true)) ∧
((¬ ((x2 < (-10000)) ∨ (10000 < x2))) →
((((x3 < (-10000)) ∨ (10000 < x3)) →
(true = true)) ∧
((¬ ((x3 < (-10000)) ∨ (10000 < x3))) →
((((x4 < (-10000)) ∨ (10000 < x4)) →
(true = true)) ∧
((¬ ((x4 < (-10000)) ∨ (10000 < x4))) →
((((x5 < (-10000)) ∨ (10000 < x5)) →
(true = true)) ∧
((¬ ((x5 < (-10000)) ∨ (10000 < x5))) →
((((x7 < (-10000)) ∨ (10000 < x7)) →
(true = true)) ∧
((¬ ((x7 < (-10000)) ∨ (10000 < x7))) →
((((x8 < (-10000)) ∨ (10000 < x8)) →
(true = true)) ∧
((¬ ((x8 < (-10000)) ∨ (10000 < x8))) →
((((x9 < (-10000)) ∨ (10000 < x9)) →
(true = true)) ∧
((¬ ((x9 < (-10000)) ∨ (10000 < x9))) →
((((x10 < (-10000)) ∨ (10000 < x10)) →
(true = true)) ∧
((¬ ((x10 < (-10000)) ∨ (10000 < x10))) →
((((x11 < (-10000)) ∨ (10000 < x11)) →
(true = true)) ∧
((¬ ((x11 < (-10000)) ∨ (10000 < x11))) →
((((x12 < (-10000)) ∨ (10000 < x12)) →
(true = true)) ∧
((¬ ((x12 < (-10000)) ∨ (10000 < x12))) →
((((x13 < (-10000)) ∨ (10000 < x13)) →
(true = true)) ∧
((¬ ((x13 < (-10000)) ∨ (10000 < x13))) →
((((x14 < (-10000)) ∨ (10000 < x14)) →
(true = true)) ∧
((¬ ((x14 < (-10000)) ∨ (10000 < x14))) →
((((x15 < (-10000)) ∨ (10000 < x15)) →
(true = true)) ∧
((¬ ((x15 < (-10000)) ∨ (10000 < x15))) →
((((x16 < (-10000)) ∨ (10000 < x16)) →
(true = true)) ∧
((¬ ((x16 < (-10000)) ∨ (10000 < x16))) →
((((x17 < (-10000)) ∨ (10000 < x17)) →
(true = true)) ∧
((¬ ((x17 < (-10000)) ∨ (10000 < x17))) →
((((x18 < (-10000)) ∨ (10000 < x18)) →
(true = true)) ∧
((¬ ((x18 < (-10000)) ∨ (10000 < x18))) →
((((x19 < (-10000)) ∨ (10000 < x19)) →
(true = true)) ∧
((¬ ((x19 < (-10000)) ∨ (10000 < x19))) →
((((x20 < (-10000)) ∨ (10000 < x20)) →
(true = true)) ∧
((¬ ((x20 < (-10000)) ∨ (10000 < x20))) →
((((x21 < (-10000)) ∨ (10000 < x21)) →
(true = true)) ∧
((¬ ((x21 < (-10000)) ∨ (10000 < x21))) →
(let v66 : X := Ff 210 [(xI x7), (xI x8), (xI x9), (xI x10), (xI x11), (xI x12)]; let v67 : X := Ff 210 [(xI x13), (xI x14), (xI x15), (xI x16), (xI x17), (xI x18)]; ((((1000 < v66.i) ∨ (1000 < v67.i)) →
(true = true)) ∧
((¬ ((1000 < v66.i) ∨ (1000 < v67.i))) →
(Px 710 [(xI x0), (xI x1), (xI x2), (xI x3), (xI x4), (xI x5), x6, (xI x7), (xI x8), (xI x9), (xI x10), (xI x11), (xI x12)] ∧
(Px 710 [(xI x0), (xI x1), (xI x2), (xI x3), (xI x4), (xI x5), x6, (xI x0), (xI x1), (xI x2), (xI x3), (xI x4), (xI x5)] ∧
(let v73 : X := Ff 201 [(xI x19), (xI x20), (xI x21), (xI x7), (xI x8), (xI x9), (xI x10), (xI x11), (xI x12)]; (((v73.b = true) →
(Px 710 [(xI x0), (xI x1), (xI x2), (xI x3), (xI x4), (xI x5), x6, (xI x19), (xI x20), (xI x21)] ∧
(let v77 : X := Ff 967 [(xI x0), (xI x1), (xI x2), (xI x3), (xI x4), (xI x5), x6, (xI x7), (xI x8), (xI x9), (xI x10), (xI x11), (xI x12)]; let v78 : X := Ff 967 [(xI x0), (xI x1), (xI x2), (xI x3), (xI x4), (xI x5), x6, (xI x0), (xI x1), (xI x2), (xI x3), (xI x4), (xI x5)]; (((¬ ((¬ (v77.i = 0)) ∨ (¬ (v78.i = 0)))) →
(let v81 : X := Ff 960 [(xI x0), (xI x1), (xI x2), (xI x3), (xI x4), (xI x5), x6, (xI x7), (xI x8), (xI x9), (xI x10), (xI x11), (xI x12)]; let v82 : X := Ff 961 [(xI x0), (xI x1), (xI x2), (xI x3), (xI x4), (xI x5), x6, (xI x7), (xI x8), (xI x9), (xI x10), (xI x11), (xI x12)]; let v83 : X := Ff 962 [(xI x0), (xI x1), (xI x2), (xI x3), (xI x4), (xI x5), x6, (xI x7), (xI x8), (xI x9), (xI x10), (xI x11), (xI x12)]; let v84 : X := Ff 963 [(xI x0), (xI x1), (xI x2), (xI x3), (xI x4), (xI x5), x6, (xI x7), (xI x8), (xI x9), (xI x10), (xI x11), (xI x12)]; let v85 : X := Ff 964 [(xI x0), (xI x1), (xI x2), (xI x3), (xI x4), (xI x5), x6, (xI x7), (xI x8), (xI x9), (xI x10), (xI x11), (xI x12)]; let v86 : X := Ff 965 [(xI x0), (xI x1), (xI x2), (xI x3), (xI x4), (xI x5), x6, (xI x7), (xI x8), (xI x9), (xI x10), (xI x11), (xI x12)]; let v87 : X := Ff 966 [(xI x0), (xI x1), (xI x2), (xI x3), (xI x4), (xI x5), x6, (xI x7), (xI x8), (xI x9), (xI x10), (xI x11), (xI x12)]; Px 710 [(xI v81.i), (xI v82.i), (xI v83.i), (xI v84.i), (xI v85.i), (xI v86.i), v87, (xI x19), (xI x20), (xI x21)])) ∧
(let v88 : X := Ff 960 [(xI x0), (xI x1), (xI x2), (xI x3), (xI x4), (xI x5), x6, (xI x7), (xI x8), (xI x9), (xI x10), (xI x11), (xI x12)]; let v89 : X := Ff 961 [(xI x0), (xI x1), (xI x2), (xI x3), (xI x4), (xI x5), x6, (xI x7), (xI x8), (xI x9), (xI x10), (xI x11), (xI x12)]; let v90 : X := Ff 962 [(xI x0), (xI x1), (xI x2), (xI x3), (xI x4), (xI x5), x6, (xI x7), (xI x8), (xI x9), (xI x10), (xI x11), (xI x12)]; let v91 : X := Ff 963 [(xI x0), (xI x1), (xI x2), (xI x3), (xI x4), (xI x5), x6, (xI x7), (xI x8), (xI x9), (xI x10), (xI x11), (xI x12)]; let v92 : X := Ff 964 [(xI x0), (xI x1), (xI x2), (xI x3), (xI x4), (xI x5), x6, (xI x7), (xI x8), (xI x9), (xI x10), (xI x11), (xI x12)]; let v93 : X := Ff 965 [(xI x0), (xI x1), (xI x2), (xI x3), (xI x4), (xI x5), x6, (xI x7), (xI x8), (xI x9), (xI x10), (xI x11), (xI x12)]; let v94 : X := Ff 966 [(xI x0), (xI x1), (xI x2), (xI x3), (xI x4), (xI x5), x6, (xI x7), (xI x8), (xI x9), (xI x10), (xI x11), (xI x12)]; let v95 : X := Ff 908 [(xI v88.i), (xI v89.i), (xI v90.i), (xI v91.i), (xI v92.i), (xI v93.i), v94, (xI x19), (xI x20), (xI x21)]; let v96 : X := Ff 908 [(xI x0), (xI x1), (xI x2), (xI x3), (xI x4), (xI x5), x6, (xI x19), (xI x20), (xI x21)]; let v97 : X := Ff 960 [(xI x0), (xI x1), (xI x2), (xI x3), (xI x4), (xI x5), x6, (xI x0), (xI x1), (xI x2), (xI x3), (xI x4), (xI x5)]; let v98 : X := Ff 961 [(xI x0), (xI x1), (xI x2), (xI x3), (xI x4), (xI x5), x6, (xI x0), (xI x1), (xI x2), (xI x3), (xI x4), (xI x5)]; let v99 : X := Ff 962 [(xI x0), (xI x1), (xI x2), (xI x3), (xI x4), (xI x5), x6, (xI x0), (xI x1), (xI x2), (xI x3), (xI x4), (xI x5)]; let v100 : X := Ff 963 [(xI x0), (xI x1), (xI x2), (xI x3), (xI x4), (xI x5), x6, (xI x0), (xI x1), (xI x2), (xI x3), (xI x4), (xI x5)]; let v101 : X := Ff 964 [(xI x0), (xI x1), (xI x2), (xI x3), (xI x4), (xI x5), x6, (xI x0), (xI x1), (xI x2), (xI x3), (xI x4), (xI x5)]; let v102 : X := Ff 965 [(xI x0), (xI x1), (xI x2), (xI x3), (xI x4), (xI x5), x6, (xI x0), (xI x1), (xI x2), (xI x3), (xI x4), (xI x5)]; let v103 : X := Ff 966 [(xI x0), (xI x1), (xI x2), (xI x3), (xI x4), (xI x5), x6, (xI x0), (xI x1), (xI x2), (xI x3), (xI x4), (xI x5)]; let v104 : X := Ff 715 [(xI v97.i), (xI v98.i), (xI v99.i), (xI v100.i), (xI v101.i), (xI v102.i), v103, (xI x0), (xI x1), (xI x2), (xI x3), (xI x4), (xI x5), x6]; (((¬ ((((¬ (v77.i = 0)) ∨ (¬ (v78.i = 0))) ∨ (¬ (v95.i = v96.i))) ∨ (¬ (v104.b = true)))) →
(Px 710 [(xI x0), (xI x1), (xI x2), (xI x3), (xI x4), (xI x5), x6, (xI x19), (xI x20), (xI x21)] ∧
(let v108 : X := Ff 930 [(xI x0), (xI x1), (xI x2), (xI x3), (xI x4), (xI x5), x6, (xI x19), (xI x20), (xI x21)]; let v109 : X := Ff 931 [(xI x0), (xI x1), (xI x2), (xI x3), (xI x4), (xI x5), x6, (xI x19), (xI x20), (xI x21)]; let v110 : X := Ff 932 [(xI x0), (xI x1), (xI x2), (xI x3), (xI x4), (xI x5), x6, (xI x19), (xI x20), (xI x21)]; let v111 : X := Ff 933 [(xI x0), (xI x1), (xI x2), (xI x3), (xI x4), (xI x5), x6, (xI x19), (xI x20), (xI x21)]; let v112 : X := Ff 934 [(xI x0), (xI x1), (xI x2), (xI x3), (xI x4), (xI x5), x6, (xI x19), (xI x20), (xI x21)]; let v113 : X := Ff 935 [(xI x0), (xI x1), (xI x2), (xI x3), (xI x4), (xI x5), x6, (xI x19), (xI x20), (xI x21)]; let v114 : X := Ff 936 [(xI x0), (xI x1), (xI x2), (xI x3), (xI x4), (xI x5), x6, (xI x19), (xI x20), (xI x21)]; (Px 710 [(xI v108.i), (xI v109.i), (xI v110.i), (xI v111.i), (xI v112.i), (xI v113.i), v114, (xI (x19 * (-1))), (xI (x20 * (-1))), (xI (x21 * (-1)))] ∧
(let v116 : X := Ff 930 [(xI v108.i), (xI v109.i), (xI v110.i), (xI v111.i), (xI v112.i), (xI v113.i), v114, (xI (x19 * (-1))), (xI (x20 * (-1))), (xI (x21 * (-1)))]; let v117 : X := Ff 931 [(xI v108.i), (xI v109.i), (xI v110.i), (xI v111.i), (xI v112.i), (xI v113.i), v114, (xI (x19 * (-1))), (xI (x20 * (-1))), (xI (x21 * (-1)))]; let v118 : X := Ff 932 [(xI v108.i), (xI v109.i), (xI v110.i), (xI v111.i), (xI v112.i), (xI v113.i), v114, (xI (x19 * (-1))), (xI (x20 * (-1))), (xI (x21 * (-1)))]; let v119 : X := Ff 933 [(xI v108.i), (xI v109.i), (xI v110.i), (xI v111.i), (xI v112.i), (xI v113.i), v114, (xI (x19 * (-1))), (xI (x20 * (-1))), (xI (x21 * (-1)))]; let v120 : X := Ff 934 [(xI v108.i), (xI v109.i), (xI v110.i), (xI v111.i), (xI v112.i), (xI v113.i), v114, (xI (x19 * (-1))), (xI (x20 * (-1))), (xI (x21 * (-1)))]; let v121 : X := Ff 935 [(xI v108.i), (xI v109.i), (xI v110.i), (xI v111.i), (xI v112.i), (xI v113.i), v114, (xI (x19 * (-1))), (xI (x20 * (-1))), (xI (x21 * (-1)))]; let v122 : X := Ff 936 [(xI v108.i), (xI v109.i), (xI v110.i), (xI v111.i), (xI v112.i), (xI v113.i), v114, (xI (x19 * (-1))), (xI (x20 * (-1))), (xI (x21 * (-1)))]; let v123 : X := Ff 715 [(xI v116.i), (xI v117.i), (xI v118.i), (xI v119.i), (xI v120.i), (xI v121.i), v122, (xI x0), (xI x1), (xI x2), (xI x3), (xI x4), (xI x5), x6]; (((¬ (v123.b = true)) →
(false = true)) ∧
((v123.b = true) →
(Px 710 [(xI v88.i), (xI v89.i), (xI v90.i), (xI v91.i), (xI v92.i), (xI v93.i), v94, (xI x13), (xI x14), (xI x15), (xI x16), (xI x17), (xI x18)] ∧
(Px 710 [(xI x0), (xI x1), (xI x2), (xI x3), (xI x4), (xI x5), x6, (xI x13), (xI x14), (xI x15), (xI x16), (xI x17), (xI x18)] ∧
(let v129 : X := Ff 967 [(xI v88.i), (xI v89.i), (xI v90.i), (xI v91.i), (xI v92.i), (xI v93.i), v94, (xI x13), (xI x14), (xI x15), (xI x16), (xI x17), (xI x18)]; let v130 : X := Ff 967 [(xI x0), (xI x1), (xI x2), (xI x3), (xI x4), (xI x5), x6, (xI x13), (xI x14), (xI x15), (xI x16), (xI x17), (xI x18)]; let v131 : X := Ff 240 [(xI x7), (xI x8), (xI x9), (xI x10), (xI x11), (xI x12), (xI x13), (xI x14), (xI x15), (xI x16), (xI x17), (xI x18)]; let v132 : X := Ff 960 [(xI v88.i), (xI v89.i), (xI v90.i), (xI v91.i), (xI v92.i), (xI v93.i), v94, (xI x13), (xI x14), (xI x15), (xI x16), (xI x17), (xI x18)]; let v133 : X := Ff 961 [(xI v88.i), (xI v89.i), (xI v90.i), (xI v91.i), (xI v92.i), (xI v93.i), v94, (xI x13), (xI x14), (xI x15), (xI x16), (xI x17), (xI x18)]; let v134 : X := Ff 962 [(xI v88.i), (xI v89.i), (xI v90.i), (xI v91.i), (xI v92.i), (xI v93.i), v94, (xI x13), (xI x14), (xI x15), (xI x16), (xI x17), (xI x18)]; let v135 : X := Ff 963 [(xI v88.i), (xI v89.i), (xI v90.i), (xI v91.i), (xI v92.i), (xI v93.i), v94, (xI x13), (xI x14), (xI x15), (xI x16), (xI x17), (xI x18)]; let v136 : X := Ff 964 [(xI v88.i), (xI v89.i), (xI v90.i), (xI v91.i), (xI v92.i), (xI v93.i), v94, (xI x13), (xI x14), (xI x15), (xI x16), (xI x17), (xI x18)]; let v137 : X := Ff 965 [(xI v88.i), (xI v89.i), (xI v90.i), (xI v91.i), (xI v92.i), (xI v93.i), v94, (xI x13), (xI x14), (xI x15), (xI x16), (xI x17), (xI x18)]; let v138 : X := Ff 966 [(xI v88.i), (xI v89.i), (xI v90.i), (xI v91.i), (xI v92.i), (xI v93.i), v94, (xI x13), (xI x14), (xI x15), (xI x16), (xI x17), (xI x18)]; let v139 : X := Ff 960 [(xI x0), (xI x1), (xI x2), (xI x3), (xI x4), (xI x5), x6, (xI x13), (xI x14), (xI x15), (xI x16), (xI x17), (xI x18)]; let v140 : X := Ff 961 [(xI x0), (xI x1), (xI x2), (xI x3), (xI x4), (xI x5), x6, (xI x13), (xI x14), (xI x15), (xI x16), (xI x17), (xI x18)]; let v141 : X := Ff 962 [(xI x0), (xI x1), (xI x2), (xI x3), (xI x4), (xI x5), x6, (xI x13), (xI x14), (xI x15), (xI x16), (xI x17), (xI x18)]; let v142 : X := Ff 963 [(xI x0), (xI x1), (xI x2), (xI x3), (xI x4), (xI x5), x6, (xI x13), (xI x14), (xI x15), (xI x16), (xI x17), (xI x18)]; let v143 : X := Ff 964 [(xI x0), (xI x1), (xI x2), (xI x3), (xI x4), (xI x5), x6, (xI x13), (xI x14), (xI x15), (xI x16), (xI x17), (xI x18)]; let v144 : X := Ff 965 [(xI x0), (xI x1), (xI x2), (xI x3), (xI x4), (xI x5), x6, (xI x13), (xI x14), (xI x15), (xI x16), (xI x17), (xI x18)]; let v145 : X := Ff 966 [(xI x0), (xI x1), (xI x2), (xI x3), (xI x4), (xI x5), x6, (xI x13), (xI x14), (xI x15), (xI x16), (xI x17), (xI x18)]; let v146 : X := Ff 715 [(xI v132.i), (xI v133.i), (xI v134.i), (xI v135.i), (xI v136.i), (xI v137.i), v138, (xI v139.i), (xI v140.i), (xI v141.i), (xI v142.i), (xI v143.i), (xI v144.i), v145]; (((v129.i = 0) ∧ (v130.i = 0)) ∧ ((¬ (v131.b = true)) ∨ (v146.b = true))))))))))))) ∧
(((((¬ (v77.i = 0)) ∨ (¬ (v78.i = 0))) ∨ (¬ (v95.i = v96.i))) ∨ (¬ (v104.b = true))) →
(false = true)))))))) ∧
((¬ (v73.b = true)) →
(let v149 : X := Ff 967 [(xI x0), (xI x1), (xI x2), (xI x3), (xI x4), (xI x5), x6, (xI x7), (xI x8), (xI x9), (xI x10), (xI x11), (xI x12)]; let v150 : X := Ff 967 [(xI x0), (xI x1), (xI x2), (xI x3), (xI x4), (xI x5), x6, (xI x0), (xI x1), (xI x2), (xI x3), (xI x4), (xI x5)]; (((¬ ((¬ (v149.i = 0)) ∨ (¬ (v150.i = 0)))) →
(let v153 : X := Ff 960 [(xI x0), (xI x1), (xI x2), (xI x3), (xI x4), (xI x5), x6, (xI x7), (xI x8), (xI x9), (xI x10), (xI x11), (xI x12)]; let v154 : X := Ff 961 [(xI x0), (xI x1), (xI x2), (xI x3), (xI x4), (xI x5), x6, (xI x7), (xI x8), (xI x9), (xI x10), (xI x11), (xI x12)]; let v155 : X := Ff 962 [(xI x0), (xI x1), (xI x2), (xI x3), (xI x4), (xI x5), x6, (xI x7), (xI x8), (xI x9), (xI x10), (xI x11), (xI x12)]; let v156 : X := Ff 963 [(xI x0), (xI x1), (xI x2), (xI x3), (xI x4), (xI x5), x6, (xI x7), (xI x8), (xI x9), (xI x10), (xI x11), (xI x12)]; let v157 : X := Ff 964 [(xI x0), (xI x1), (xI x2), (xI x3), (xI x4), (xI x5), x6, (xI x7), (xI x8), (xI x9), (xI x10), (xI x11), (xI x12)]; let v158 : X := Ff 965 [(xI x0), (xI x1), (xI x2), (xI x3), (xI x4), (xI x5), x6, (xI x7), (xI x8), (xI x9), (xI x10), (xI x11), (xI x12)]; let v159 : X := Ff 966 [(xI x0), (xI x1), (xI x2), (xI x3), (xI x4), (xI x5), x6, (xI x7), (xI x8), (xI x9), (xI x10), (xI x11), (xI x12)]; Px 710 [(xI v153.i), (xI v154.i), (xI v155.i), (xI v156.i), (xI v157.i), (xI v158.i), v159, (xI x19), (xI x20), (xI x21)])) ∧
(let v160 : X := Ff 960 [(xI x0), (xI x1), (xI x2), (xI x3), (xI x4), (xI x5), x6, (xI x7), (xI x8), (xI x9), (xI x10), (xI x11), (xI x12)]; let v161 : X := Ff 961 [(xI x0), (xI x1), (xI x2), (xI x3), (xI x4), (xI x5), x6, (xI x7), (xI x8), (xI x9), (xI x10), (xI x11), (xI x12)]; let v162 : X := Ff 962 [(xI x0), (xI x1), (xI x2), (xI x3), (xI x4), (xI x5), x6, (xI x7), (xI x8), (xI x9), (xI x10), (xI x11), (xI x12)]; let v163 : X := Ff 963 [(xI x0), (xI x1), (xI x2), (xI x3), (xI x4), (xI x5), x6, (xI x7), (xI x8), (xI x9), (xI x10), (xI x11), (xI x12)]; let v164 : X := Ff 964 [(xI x0), (xI x1), (xI x2), (xI x3), (xI x4), (xI x5), x6, (xI x7), (xI x8), (xI x9), (xI x10), (xI x11), (xI x12)]; let v165 : X := Ff 965 [(xI x0), (xI x1), (xI x2), (xI x3), (xI x4), (xI x5), x6, (xI x7), (xI x8), (xI x9), (xI x10), (xI x11), (xI x12)]; let v166 : X := Ff 966 [(xI x0), (xI x1), (xI x2), (xI x3), (xI x4), (xI x5), x6, (xI x7), (xI x8), (xI x9), (xI x10), (xI x11), (xI x12)]; let v167 : X := Ff 908 [(xI v160.i), (xI v161.i), (xI v162.i), (xI v163.i), (xI v164.i), (xI v165.i), v166, (xI x19), (xI x20), (xI x21)]; let v168 : X := Ff 960 [(xI x0), (xI x1), (xI x2), (xI x3), (xI x4), (xI x5), x6, (xI x0), (xI x1), (xI x2), (xI x3), (xI x4), (xI x5)]; let v169 : X := Ff 961 [(xI x0), (xI x1), (xI x2), (xI x3), (xI x4), (xI x5), x6, (xI x0), (xI x1), (xI x2), (xI x3), (xI x4), (xI x5)]; let v170 : X := Ff 962 [(xI x0), (xI x1), (xI x2), (xI x3), (xI x4), (xI x5), x6, (xI x0), (xI x1), (xI x2), (xI x3), (xI x4), (xI x5)]; let v171 : X := Ff 963 [(xI x0), (xI x1), (xI x2), (xI x3), (xI x4), (xI x5), x6, (xI x0), (xI x1), (xI x2), (xI x3), (xI x4), (xI x5)]; let v172 : X := Ff 964 [(xI x0), (xI x1), (xI x2), (xI x3), (xI x4), (xI x5), x6, (xI x0), (xI x1), (xI x2), (xI x3), (xI x4), (xI x5)]; let v173 : X := Ff 965 [(xI x0), (xI x1), (xI x2), (xI x3), (xI x4), (xI x5), x6, (xI x0), (xI x1), (xI x2), (xI x3), (xI x4), (xI x5)]; let v174 : X := Ff 966 [(xI x0), (xI x1), (xI x2), (xI x3), (xI x4), (xI x5), x6, (xI x0), (xI x1), (xI x2), (xI x3), (xI x4), (xI x5)]; let v175 : X := Ff 715 [(xI v168.i), (xI v169.i), (xI v170.i), (xI v171.i), (xI v172.i), (xI v173.i), v174, (xI x0), (xI x1), (xI x2), (xI x3), (xI x4), (xI x5), x6]; (((¬ ((((¬ (v149.i = 0)) ∨ (¬ (v150.i = 0))) ∨ (¬ (v167.i = 0))) ∨ (¬ (v175.b = true)))) →
(Px 710 [(xI x0), (xI x1), (xI x2), (xI x3), (xI x4), (xI x5), x6, (xI x19), (xI x20), (xI x21)] ∧
(let v179 : X := Ff 930 [(xI x0), (xI x1), (xI x2), (xI x3), (xI x4), (xI x5), x6, (xI x19), (xI x20), (xI x21)]; let v180 : X := Ff 931 [(xI x0), (xI x1), (xI x2), (xI x3), (xI x4), (xI x5), x6, (xI x19), (xI x20), (xI x21)]; let v181 : X := Ff 932 [(xI x0), (xI x1), (xI x2), (xI x3), (xI x4), (xI x5), x6, (xI x19), (xI x20), (xI x21)]; let v182 : X := Ff 933 [(xI x0), (xI x1), (xI x2), (xI x3), (xI x4), (xI x5), x6, (xI x19), (xI x20), (xI x21)]; let v183 : X := Ff 934 [(xI x0), (xI x1), (xI x2), (xI x3), (xI x4), (xI x5), x6, (xI x19), (xI x20), (xI x21)]; let v184 : X := Ff 935 [(xI x0), (xI x1), (xI x2), (xI x3), (xI x4), (xI x5), x6, (xI x19), (xI x20), (xI x21)]; let v185 : X := Ff 936 [(xI x0), (xI x1), (xI x2), (xI x3), (xI x4), (xI x5), x6, (xI x19), (xI x20), (xI x21)]; (Px 710 [(xI v179.i), (xI v180.i), (xI v181.i), (xI v182.i), (xI v183.i), (xI v184.i), v185, (xI (x19 * (-1))), (xI (x20 * (-1))), (xI (x21 * (-1)))] ∧
(let v187 : X := Ff 930 [(xI v179.i), (xI v180.i), (xI v181.i), (xI v182.i), (xI v183.i), (xI v184.i), v185, (xI (x19 * (-1))), (xI (x20 * (-1))), (xI (x21 * (-1)))]; let v188 : X := Ff 931 [(xI v179.i), (xI v180.i), (xI v181.i), (xI v182.i), (xI v183.i), (xI v184.i), v185, (xI (x19 * (-1))), (xI (x20 * (-1))), (xI (x21 * (-1)))]; let v189 : X := Ff 932 [(xI v179.i), (xI v180.i), (xI v181.i), (xI v182.i), (xI v183.i), (xI v184.i), v185, (xI (x19 * (-1))), (xI (x20 * (-1))), (xI (x21 * (-1)))]; let v190 : X := Ff 933 [(xI v179.i), (xI v180.i), (xI v181.i), (xI v182.i), (xI v183.i), (xI v184.i), v185, (xI (x19 * (-1))), (xI (x20 * (-1))), (xI (x21 * (-1)))]; let v191 : X := Ff 934 [(xI v179.i), (xI v180.i), (xI v181.i), (xI v182.i), (xI v183.i), (xI v184.i), v185, (xI (x19 * (-1))), (xI (x20 * (-1))), (xI (x21 * (-1)))]; let v192 : X := Ff 935 [(xI v179.i), (xI v180.i), (xI v181.i), (xI v182.i), (xI v183.i), (xI v184.i), v185, (xI (x19 * (-1))), (xI (x20 * (-1))), (xI (x21 * (-1)))]; let v193 : X := Ff 936 [(xI v179.i), (xI v180.i), (xI v181.i), (xI v182.i), (xI v183.i), (xI v184.i), v185, (xI (x19 * (-1))), (xI (x20 * (-1))), (xI (x21 * (-1)))]; let v194 : X := Ff 715 [(xI v187.i), (xI v188.i), (xI v189.i), (xI v190.i), (xI v191.i), (xI v192.i), v193, (xI x0), (xI x1), (xI x2), (xI x3), (xI x4), (xI x5), x6]; (((¬ (v194.b = true)) →
(false = true)) ∧
((v194.b = true) →
(Px 710 [(xI v160.i), (xI v161.i), (xI v162.i), (xI v163.i), (xI v164.i), (xI v165.i), v166, (xI x13), (xI x14), (xI x15), (xI x16), (xI x17), (xI x18)] ∧
(Px 710 [(xI x0), (xI x1), (xI x2), (xI x3), (xI x4), (xI x5), x6, (xI x13), (xI x14), (xI x15), (xI x16), (xI x17), (xI x18)] ∧
(let v200 : X := Ff 967 [(xI v160.i), (xI v161.i), (xI v162.i), (xI v163.i), (xI v164.i), (xI v165.i), v166, (xI x13), (xI x14), (xI x15), (xI x16), (xI x17), (xI x18)]; let v201 : X := Ff 967 [(xI x0), (xI x1), (xI x2), (xI x3), (xI x4), (xI x5), x6, (xI x13), (xI x14), (xI x15), (xI x16), (xI x17), (xI x18)]; let v202 : X := Ff 240 [(xI x7), (xI x8), (xI x9), (xI x10), (xI x11), (xI x12), (xI x13), (xI x14), (xI x15), (xI x16), (xI x17), (xI x18)]; let v203 : X := Ff 960 [(xI v160.i), (xI v161.i), (xI v162.i), (xI v163.i), (xI v164.i), (xI v165.i), v166, (xI x13), (xI x14), (xI x15), (xI x16), (xI x17), (xI x18)]; let v204 : X := Ff 961 [(xI v160.i), (xI v161.i), (xI v162.i), (xI v163.i), (xI v164.i), (xI v165.i), v166, (xI x13), (xI x14), (xI x15), (xI x16), (xI x17), (xI x18)]; let v205 : X := Ff 962 [(xI v160.i), (xI v161.i), (xI v162.i), (xI v163.i), (xI v164.i), (xI v165.i), v166, (xI x13), (xI x14), (xI x15), (xI x16), (xI x17), (xI x18)]; let v206 : X := Ff 963 [(xI v160.i), (xI v161.i), (xI v162.i), (xI v163.i), (xI v164.i), (xI v165.i), v166, (xI x13), (xI x14), (xI x15), (xI x16), (xI x17), (xI x18)]; let v207 : X := Ff 964 [(xI v160.i), (xI v161.i), (xI v162.i), (xI v163.i), (xI v164.i), (xI v165.i), v166, (xI x13), (xI x14), (xI x15), (xI x16), (xI x17), (xI x18)]; let v208 : X := Ff 965 [(xI v160.i), (xI v161.i), (xI v162.i), (xI v163.i), (xI v164.i), (xI v165.i), v166, (xI x13), (xI x14), (xI x15), (xI x16), (xI x17), (xI x18)]; let v209 : X := Ff 966 [(xI v160.i), (xI v161.i), (xI v162.i), (xI v163.i), (xI v164.i), (xI v165.i), v166, (xI x13), (xI x14), (xI x15), (xI x16), (xI x17), (xI x18)]; let v210 : X := Ff 960 [(xI x0), (xI x1), (xI x2), (xI x3), (xI x4), (xI x5), x6, (xI x13), (xI x14), (xI x15), (xI x16), (xI x17), (xI x18)]; let v211 : X := Ff 961 [(xI x0), (xI x1), (xI x2), (xI x3), (xI x4), (xI x5), x6, (xI x13), (xI x14), (xI x15), (xI x16), (xI x17), (xI x18)]; let v212 : X := Ff 962 [(xI x0), (xI x1), (xI x2), (xI x3), (xI x4), (xI x5), x6, (xI x13), (xI x14), (xI x15), (xI x16), (xI x17), (xI x18)]; let v213 : X := Ff 963 [(xI x0), (xI x1), (xI x2), (xI x3), (xI x4), (xI x5), x6, (xI x13), (xI x14), (xI x15), (xI x16), (xI x17), (xI x18)]; let v214 : X := Ff 964 [(xI x0), (xI x1), (xI x2), (xI x3), (xI x4), (xI x5), x6, (xI x13), (xI x14), (xI x15), (xI x16), (xI x17), (xI x18)]; let v215 : X := Ff 965 [(xI x0), (xI x1), (xI x2), (xI x3), (xI x4), (xI x5), x6, (xI x13), (xI x14), (xI x15), (xI x16), (xI x17), (xI x18)]; let v216 : X := Ff 966 [(xI x0), (xI x1), (xI x2), (xI x3), (xI x4), (xI x5), x6, (xI x13), (xI x14), (xI x15), (xI x16), (xI x17), (xI x18)]; let v217 : X := Ff 715 [(xI v203.i), (xI v204.i), (xI v205.i), (xI v206.i), (xI v207.i), (xI v208.i), v209, (xI v210.i), (xI v211.i), (xI v212.i), (xI v213.i), (xI v214.i), (xI v215.i), v216]; (((v200.i = 0) ∧ (v201.i = 0)) ∧ ((¬ (v202.b = true)) ∨ (v217.b = true))))))))))))) ∧
(((((¬ (v149.i = 0)) ∨ (¬ (v150.i = 0))) ∨ (¬ (v167.i = 0))) ∨ (¬ (v175.b = true))) →
(false = true))))))))))))))))))))))))))))))))))))))))))))))))))))))))) ∧
(((1000 < x6.i) ∨ (¬ (v0.b = true))) →
(true = true))))
noncomputable def sh : List RSh := (shTs Tryd.prog [28, 25, 25, 23]).getD []
attribute [irreducible] sh
theorem link (x0 : Int) (x1 : Int) (x2 : Int) (x3 : Int) (x4 : Int) (x5 : Int) (x6 : X) (x7 : Int) (x8 : Int) (x9 : Int) (x10 : Int) (x11 : Int) (x12 : Int) (x13 : Int) (x14 : Int) (x15 : Int) (x16 : Int) (x17 : Int) (x18 : Int) (x19 : Int) (x20 : Int) (x21 : Int) : (walkR Tryd.prog (cfG none L07 R07 [] sumC) Tryd.f7 1600 sh).law { ρ0 with x := fun j => [xI x0, xI x1, xI x2, xI x3, xI x4, xI x5, x6, xI x7, xI x8, xI x9, xI x10, xI x11, xI x12, xI x13, xI x14, xI x15, xI x16, xI x17, xI x18, xI x19, xI x20, xI x21].getD j (xI 0) } = lawP x0 x1 x2 x3 x4 x5 x6 x7 x8 x9 x10 x11 x12 x13 x14 x15 x16 x17 x18 x19 x20 x21 := by kernel_rfl
set_option maxHeartbeats 4000000 in
theorem lawP_ok (x0 : Int) (x1 : Int) (x2 : Int) (x3 : Int) (x4 : Int) (x5 : Int) (x6 : X) (x7 : Int) (x8 : Int) (x9 : Int) (x10 : Int) (x11 : Int) (x12 : Int) (x13 : Int) (x14 : Int) (x15 : Int) (x16 : Int) (x17 : Int) (x18 : Int) (x19 : Int) (x20 : Int) (x21 : Int) (g0 : -9223372036854775808 ≤ x0 ∧ x0 ≤ 9223372036854775807) (g1 : -9223372036854775808 ≤ x1 ∧ x1 ≤ 9223372036854775807) (g2 : -9223372036854775808 ≤ x2 ∧ x2 ≤ 9223372036854775807) (g3 : -9223372036854775808 ≤ x3 ∧ x3 ≤ 9223372036854775807) (g4 : -9223372036854775808 ≤ x4 ∧ x4 ≤ 9223372036854775807) (g5 : -9223372036854775808 ≤ x5 ∧ x5 ≤ 9223372036854775807) (g6 : 0 ≤ x6.i ∧ x6.i ≤ 9223372036854775807 ∧ RowOk [.int .i64 (-9223372036854775808) (9223372036854775807)] x6.r x6.i.toNat) (g7 : -9223372036854775808 ≤ x7 ∧ x7 ≤ 9223372036854775807) (g8 : -9223372036854775808 ≤ x8 ∧ x8 ≤ 9223372036854775807) (g9 : -9223372036854775808 ≤ x9 ∧ x9 ≤ 9223372036854775807) (g10 : -9223372036854775808 ≤ x10 ∧ x10 ≤ 9223372036854775807) (g11 : -9223372036854775808 ≤ x11 ∧ x11 ≤ 9223372036854775807) (g12 : -9223372036854775808 ≤ x12 ∧ x12 ≤ 9223372036854775807) (g13 : -9223372036854775808 ≤ x13 ∧ x13 ≤ 9223372036854775807) (g14 : -9223372036854775808 ≤ x14 ∧ x14 ≤ 9223372036854775807) (g15 : -9223372036854775808 ≤ x15 ∧ x15 ≤ 9223372036854775807) (g16 : -9223372036854775808 ≤ x16 ∧ x16 ≤ 9223372036854775807) (g17 : -9223372036854775808 ≤ x17 ∧ x17 ≤ 9223372036854775807) (g18 : -9223372036854775808 ≤ x18 ∧ x18 ≤ 9223372036854775807) (g19 : -9223372036854775808 ≤ x19 ∧ x19 ≤ 9223372036854775807) (g20 : -9223372036854775808 ≤ x20 ∧ x20 ≤ 9223372036854775807) (g21 : -9223372036854775808 ≤ x21 ∧ x21 ≤ 9223372036854775807) : lawP x0 x1 x2 x3 x4 x5 x6 x7 x8 x9 x10 x11 x12 x13 x14 x15 x16 x17 x18 x19 x20 x21 := by
  unfold lawP
  intro v0
  refine And.intro ?_ ?_
  · intro h2
    refine And.intro ?_ ?_
    · intro h4
      rfl -- #0
    intro h5
    refine And.intro ?_ ?_
    · intro h7
      rfl -- #1
    intro h8
    refine And.intro ?_ ?_
    · intro h10
      rfl -- #2
    intro h11
    refine And.intro ?_ ?_
    · intro h13
      rfl -- #3
    intro h14
    refine And.intro ?_ ?_
    · intro h16
      rfl -- #4
    intro h17
    refine And.intro ?_ ?_
    · intro h19
      rfl -- #5
    intro h20
    refine And.intro ?_ ?_
    · intro h22
      rfl -- #6
    intro h23
    refine And.intro ?_ ?_
    · intro h25
      rfl -- #7
    intro h26
    refine And.intro ?_ ?_
    · intro h28
      rfl -- #8
    intro h29
    refine And.intro ?_ ?_
    · intro h31
      rfl -- #9
    intro h32
    refine And.intro ?_ ?_
    · intro h34
      rfl -- #10
    intro h35
    refine And.intro ?_ ?_
    · intro h37
      rfl -- #11
    intro h38
    refine And.intro ?_ ?_
    · intro h40
      rfl -- #12
    intro h41
    refine And.intro ?_ ?_
    · intro h43
      rfl -- #13
    intro h44
    refine And.intro ?_ ?_
    · intro h46
      rfl -- #14
    intro h47
    refine And.intro ?_ ?_
    · intro h49
      rfl -- #15
    intro h50
    refine And.intro ?_ ?_
    · intro h52
      rfl -- #16
    intro h53
    refine And.intro ?_ ?_
    · intro h55
      rfl -- #17
    intro h56
    refine And.intro ?_ ?_
    · intro h58
      rfl -- #18
    intro h59
    refine And.intro ?_ ?_
    · intro h61
      rfl -- #19
    intro h62
    refine And.intro ?_ ?_
    · intro h64
      rfl -- #20
    intro h65
    intro v66
    intro v67
    refine And.intro ?_ ?_
    · intro h69
      rfl -- #21
    intro h70
    have gv : validG ⟨bxI x0 x1 x2 x3 x4 x5, lstX deI x6⟩ = true := by
      cases hb : v0.b with
      | true => exact hb
      | false => exact absurd (.inr (by rw [hb]; decide)) h2
    have hb : newE (bxI x7 x8 x9 x10 x11 x12) 0 = 0 := new_e0 ⟨in20_iff.2 (by omega), rfl⟩ (by show ¬ 2097152 < v66.i; omega)
    have hc : newE (bxI x13 x14 x15 x16 x17 x18) 0 = 0 := new_e0 ⟨in20_iff.2 (by omega), rfl⟩ (by show ¬ 2097152 < v67.i; omega)
    have ho := new_of gv
    have gC := val_crp (b := bxI x0 x1 x2 x3 x4 x5) hb (val_mat gv)
    have hin : (shfB (bxI x0 x1 x2 x3 x4 x5) (lstX deI x6) (x19, x20, x21)).in20 = true := by
      unfold shfB
      split
      · exact val_in gv
      · exact (in20_iff (a := x0 + x19) (b := x1 + x20) (c := x2 + x21) (d := x3 + x19) (e := x4 + x20) (f := x5 + x21)).2 (by omega)
    refine andI ?_ fun o71 => ?_
    · exact gv -- #22
    refine andI ?_ fun o72 => ?_
    · exact gv -- #23
    intro v73
    refine And.intro ?_ ?_
    · intro h75
      refine andI ?_ fun o76 => ?_
      · exact gv -- #24
      intro v77
      intro v78
      refine And.intro ?_ ?_
      · intro h80
        intro v81
        intro v82
        intro v83
        intro v84
        intro v85
        intro v86
        intro v87
        have e87 : lstX deI v87 = crpL (bxI x0 x1 x2 x3 x4 x5) (lstX deI x6) (bxI x7 x8 x9 x10 x11 x12) := lstX_rowG (enc := enI) (dec := deI) (fun _ => rfl) _
        skip -- #25
        show validG ⟨newB (bxI x7 x8 x9 x10 x11 x12) 0, lstX deI v87⟩ = true
        rw [e87]
        exact gC
      intro v88
      intro v89
      intro v90
      intro v91
      intro v92
      intro v93
      intro v94
      have e94 : lstX deI v94 = crpL (bxI x0 x1 x2 x3 x4 x5) (lstX deI x6) (bxI x7 x8 x9 x10 x11 x12) := lstX_rowG (enc := enI) (dec := deI) (fun _ => rfl) _
      intro v95
      have e95 : v95.i = getL (bxI x0 x1 x2 x3 x4 x5) (lstX deI x6) (x19, x20, x21) := by
        have h : v95.i = getL (newB (bxI x7 x8 x9 x10 x11 x12) 0) (lstX deI v94) (x19, x20, x21) := rfl
        rw [h, e94, crp_get hb]
        exact if_pos h75
      intro v96
      intro v97
      intro v98
      intro v99
      intro v100
      intro v101
      intro v102
      intro v103
      have e103 : lstX deI v103 = crpL (bxI x0 x1 x2 x3 x4 x5) (lstX deI x6) (bxI x0 x1 x2 x3 x4 x5) := lstX_rowG (enc := enI) (dec := deI) (fun _ => rfl) _
      intro v104
      have e104 : v104.b = true := by
        show eqG (newB (bxI x0 x1 x2 x3 x4 x5) 0) (lstX deI v103) (bxI x0 x1 x2 x3 x4 x5) (lstX deI x6) = true
        rw [e103]
        exact eqG_of (newB_of gv) (crp_own gv)
      refine And.intro ?_ ?_
      · intro h106
        refine andI ?_ fun o107 => ?_
        · exact gv -- #26
        intro v108
        intro v109
        intro v110
        intro v111
        intro v112
        intro v113
        intro v114
        have e114 : lstX deI v114 = lstX deI x6 := lstX_rowG (enc := enI) (dec := deI) (fun _ => rfl) _
        refine andI ?_ fun o115 => ?_
        · skip -- #27
          show validG ⟨shfB (bxI x0 x1 x2 x3 x4 x5) (lstX deI x6) (x19, x20, x21), lstX deI v114⟩ = true
          rw [e114]
          exact val_shf gv hin
        intro v116
        intro v117
        intro v118
        intro v119
        intro v120
        intro v121
        intro v122
        have e122 : lstX deI v122 = lstX deI v114 := lstX_rowG (enc := enI) (dec := deI) (fun _ => rfl) _
        intro v123
        have e123 : v123.b = true := by
          show eqG (shfB (shfB (bxI x0 x1 x2 x3 x4 x5) (lstX deI x6) (x19, x20, x21)) (lstX deI v114) (x19 * (-1), x20 * (-1), x21 * (-1))) (lstX deI v122) (bxI x0 x1 x2 x3 x4 x5) (lstX deI x6) = true
          rw [e122, e114]
          exact eqG_of shf_back rfl
        refine And.intro ?_ ?_
        · intro h125
          exact absurd e123 h125 -- #28
        intro h126
        refine andI ?_ fun o127 => ?_
        · skip -- #29
          show validG ⟨newB (bxI x7 x8 x9 x10 x11 x12) 0, lstX deI v94⟩ = true
          rw [e94]
          exact gC
        refine andI ?_ fun o128 => ?_
        · exact gv -- #30
        intro v129
        intro v130
        intro v131
        intro v132
        intro v133
        intro v134
        intro v135
        intro v136
        intro v137
        intro v138
        have e138 : lstX deI v138 = crpL (newB (bxI x7 x8 x9 x10 x11 x12) 0) (lstX deI v94) (bxI x13 x14 x15 x16 x17 x18) := lstX_rowG (enc := enI) (dec := deI) (fun _ => rfl) _
        intro v139
        intro v140
        intro v141
        intro v142
        intro v143
        intro v144
        intro v145
        have e145 : lstX deI v145 = crpL (bxI x0 x1 x2 x3 x4 x5) (lstX deI x6) (bxI x13 x14 x15 x16 x17 x18) := lstX_rowG (enc := enI) (dec := deI) (fun _ => rfl) _
        intro v146
        skip -- #31
        refine ⟨⟨hc, hc⟩, ?_⟩
        by_cases hco : coB x7 x8 x9 x10 x11 x12 x13 x14 x15 x16 x17 x18
        · refine .inr ?_
          show eqG (newB (bxI x13 x14 x15 x16 x17 x18) 0) (lstX deI v138) (newB (bxI x13 x14 x15 x16 x17 x18) 0) (lstX deI v145) = true
          rw [e138, e145, e94]
          exact eqG_of rfl (crp_crp hb hc (val_mat gv) hco)
        · exact .inl fun h => hco (of_decide_eq_true h)
      intro h147
      skip -- #32
      rcases h147 with ((h | h) | h) | h
      · exact absurd hb h
      · exact absurd ho h
      · exact absurd e95 h
      · exact absurd e104 h
    intro h148
    intro v149
    intro v150
    refine And.intro ?_ ?_
    · intro h152
      intro v153
      intro v154
      intro v155
      intro v156
      intro v157
      intro v158
      intro v159
      have e159 : lstX deI v159 = crpL (bxI x0 x1 x2 x3 x4 x5) (lstX deI x6) (bxI x7 x8 x9 x10 x11 x12) := lstX_rowG (enc := enI) (dec := deI) (fun _ => rfl) _
      skip -- #33
      show validG ⟨newB (bxI x7 x8 x9 x10 x11 x12) 0, lstX deI v159⟩ = true
      rw [e159]
      exact gC
    intro v160
    intro v161
    intro v162
    intro v163
    intro v164
    intro v165
    intro v166
    have e166 : lstX deI v166 = crpL (bxI x0 x1 x2 x3 x4 x5) (lstX deI x6) (bxI x7 x8 x9 x10 x11 x12) := lstX_rowG (enc := enI) (dec := deI) (fun _ => rfl) _
    intro v167
    have e167 : v167.i = 0 := by
      have h : v167.i = getL (newB (bxI x7 x8 x9 x10 x11 x12) 0) (lstX deI v166) (x19, x20, x21) := rfl
      rw [h, e166, crp_get hb]
      exact if_neg h148
    intro v168
    intro v169
    intro v170
    intro v171
    intro v172
    intro v173
    intro v174
    have e174 : lstX deI v174 = crpL (bxI x0 x1 x2 x3 x4 x5) (lstX deI x6) (bxI x0 x1 x2 x3 x4 x5) := lstX_rowG (enc := enI) (dec := deI) (fun _ => rfl) _
    intro v175
    have e175 : v175.b = true := by
      show eqG (newB (bxI x0 x1 x2 x3 x4 x5) 0) (lstX deI v174) (bxI x0 x1 x2 x3 x4 x5) (lstX deI x6) = true
      rw [e174]
      exact eqG_of (newB_of gv) (crp_own gv)
    refine And.intro ?_ ?_
    · intro h177
      refine andI ?_ fun o178 => ?_
      · exact gv -- #34
      intro v179
      intro v180
      intro v181
      intro v182
      intro v183
      intro v184
      intro v185
      have e185 : lstX deI v185 = lstX deI x6 := lstX_rowG (enc := enI) (dec := deI) (fun _ => rfl) _
      refine andI ?_ fun o186 => ?_
      · skip -- #35
        show validG ⟨shfB (bxI x0 x1 x2 x3 x4 x5) (lstX deI x6) (x19, x20, x21), lstX deI v185⟩ = true
        rw [e185]
        exact val_shf gv hin
      intro v187
      intro v188
      intro v189
      intro v190
      intro v191
      intro v192
      intro v193
      have e193 : lstX deI v193 = lstX deI v185 := lstX_rowG (enc := enI) (dec := deI) (fun _ => rfl) _
      intro v194
      have e194 : v194.b = true := by
        show eqG (shfB (shfB (bxI x0 x1 x2 x3 x4 x5) (lstX deI x6) (x19, x20, x21)) (lstX deI v185) (x19 * (-1), x20 * (-1), x21 * (-1))) (lstX deI v193) (bxI x0 x1 x2 x3 x4 x5) (lstX deI x6) = true
        rw [e193, e185]
        exact eqG_of shf_back rfl
      refine And.intro ?_ ?_
      · intro h196
        exact absurd e194 h196 -- #36
      intro h197
      refine andI ?_ fun o198 => ?_
      · skip -- #37
        show validG ⟨newB (bxI x7 x8 x9 x10 x11 x12) 0, lstX deI v166⟩ = true
        rw [e166]
        exact gC
      refine andI ?_ fun o199 => ?_
      · exact gv -- #38
      intro v200
      intro v201
      intro v202
      intro v203
      intro v204
      intro v205
      intro v206
      intro v207
      intro v208
      intro v209
      have e209 : lstX deI v209 = crpL (newB (bxI x7 x8 x9 x10 x11 x12) 0) (lstX deI v166) (bxI x13 x14 x15 x16 x17 x18) := lstX_rowG (enc := enI) (dec := deI) (fun _ => rfl) _
      intro v210
      intro v211
      intro v212
      intro v213
      intro v214
      intro v215
      intro v216
      have e216 : lstX deI v216 = crpL (bxI x0 x1 x2 x3 x4 x5) (lstX deI x6) (bxI x13 x14 x15 x16 x17 x18) := lstX_rowG (enc := enI) (dec := deI) (fun _ => rfl) _
      intro v217
      skip -- #39
      refine ⟨⟨hc, hc⟩, ?_⟩
      by_cases hco : coB x7 x8 x9 x10 x11 x12 x13 x14 x15 x16 x17 x18
      · refine .inr ?_
        show eqG (newB (bxI x13 x14 x15 x16 x17 x18) 0) (lstX deI v209) (newB (bxI x13 x14 x15 x16 x17 x18) 0) (lstX deI v216) = true
        rw [e209, e216, e166]
        exact eqG_of rfl (crp_crp hb hc (val_mat gv) hco)
      · exact .inl fun h => hco (of_decide_eq_true h)
    intro h218
    skip -- #40
    rcases h218 with ((h | h) | h) | h
    · exact absurd hb h
    · exact absurd ho h
    · exact absurd e167 h
    · exact absurd e175 h
  intro h219
  rfl -- #41

/-! ### The frame -/
theorem shape_flat : flatR sh = [.int .i64 (-9223372036854775808) 9223372036854775807, .int .i64 (-9223372036854775808) 9223372036854775807, .int .i64 (-9223372036854775808) 9223372036854775807, .int .i64 (-9223372036854775808) 9223372036854775807, .int .i64 (-9223372036854775808) 9223372036854775807, .int .i64 (-9223372036854775808) 9223372036854775807, .row [.int .i64 (-9223372036854775808) (9223372036854775807)] 9223372036854775807, .int .i64 (-9223372036854775808) 9223372036854775807, .int .i64 (-9223372036854775808) 9223372036854775807, .int .i64 (-9223372036854775808) 9223372036854775807, .int .i64 (-9223372036854775808) 9223372036854775807, .int .i64 (-9223372036854775808) 9223372036854775807, .int .i64 (-9223372036854775808) 9223372036854775807, .int .i64 (-9223372036854775808) 9223372036854775807, .int .i64 (-9223372036854775808) 9223372036854775807, .int .i64 (-9223372036854775808) 9223372036854775807, .int .i64 (-9223372036854775808) 9223372036854775807, .int .i64 (-9223372036854775808) 9223372036854775807, .int .i64 (-9223372036854775808) 9223372036854775807, .int .i64 (-9223372036854775808) 9223372036854775807, .int .i64 (-9223372036854775808) 9223372036854775807, .int .i64 (-9223372036854775808) 9223372036854775807] := by kernel_rfl
theorem lawful (ds : Ds) (hr : rshX sh ds) : (walkR Tryd.prog (cfG none L07 R07 [] sumC) Tryd.f7 1600 sh).law { ρ0 with x := fun j => ds.getD j (xI 0) } := by
  have hr := rshX_flat hr
  rw [shape_flat] at hr
  match ds, hr with
  | [d0, d1, d2, d3, d4, d5, d6, d7, d8, d9, d10, d11, d12, d13, d14, d15, d16, d17, d18, d19, d20, d21], hr =>
    obtain ⟨⟨e0, l0, u0⟩, ⟨e1, l1, u1⟩, ⟨e2, l2, u2⟩, ⟨e3, l3, u3⟩, ⟨e4, l4, u4⟩, ⟨e5, l5, u5⟩, l6, ⟨e7, l7, u7⟩, ⟨e8, l8, u8⟩, ⟨e9, l9, u9⟩, ⟨e10, l10, u10⟩, ⟨e11, l11, u11⟩, ⟨e12, l12, u12⟩, ⟨e13, l13, u13⟩, ⟨e14, l14, u14⟩, ⟨e15, l15, u15⟩, ⟨e16, l16, u16⟩, ⟨e17, l17, u17⟩, ⟨e18, l18, u18⟩, ⟨e19, l19, u19⟩, ⟨e20, l20, u20⟩, ⟨e21, l21, u21⟩, _⟩ := hr
    generalize d0.i = x0 at *
    generalize d1.i = x1 at *
    generalize d2.i = x2 at *
    generalize d3.i = x3 at *
    generalize d4.i = x4 at *
    generalize d5.i = x5 at *
    generalize d6 = x6 at *
    generalize d7.i = x7 at *
    generalize d8.i = x8 at *
    generalize d9.i = x9 at *
    generalize d10.i = x10 at *
    generalize d11.i = x11 at *
    generalize d12.i = x12 at *
    generalize d13.i = x13 at *
    generalize d14.i = x14 at *
    generalize d15.i = x15 at *
    generalize d16.i = x16 at *
    generalize d17.i = x17 at *
    generalize d18.i = x18 at *
    generalize d19.i = x19 at *
    generalize d20.i = x20 at *
    generalize d21.i = x21 at *
    subst e0 e1 e2 e3 e4 e5 e7 e8 e9 e10 e11 e12 e13 e14 e15 e16 e17 e18 e19 e20 e21
    exact Eq.mpr (link x0 x1 x2 x3 x4 x5 x6 x7 x8 x9 x10 x11 x12 x13 x14 x15 x16 x17 x18 x19 x20 x21) (lawP_ok x0 x1 x2 x3 x4 x5 x6 x7 x8 x9 x10 x11 x12 x13 x14 x15 x16 x17 x18 x19 x20 x21 ⟨l0, u0⟩ ⟨l1, u1⟩ ⟨l2, u2⟩ ⟨l3, u3⟩ ⟨l4, u4⟩ ⟨l5, u5⟩ l6 ⟨l7, u7⟩ ⟨l8, u8⟩ ⟨l9, u9⟩ ⟨l10, u10⟩ ⟨l11, u11⟩ ⟨l12, u12⟩ ⟨l13, u13⟩ ⟨l14, u14⟩ ⟨l15, u15⟩ ⟨l16, u16⟩ ⟨l17, u17⟩ ⟨l18, u18⟩ ⟨l19, u19⟩ ⟨l20, u20⟩ ⟨l21, u21⟩)
theorem shape {H : Type} {ds : List (DataW H)} (h : ds.length = 4) : Rows.gridCropsSpec.fn H ds = { results := [.lit (.bool true)], args := ds } := by
  match ds, h with
  | [d1, d2, d3, d4], _ => rfl
set_option maxRecDepth 100000 in
theorem calls {H : Type} {enc : TypeId × Value → H} (W : World) (base : Nat) (args : Array Value) (ds : List (DataW H)) (p : List MemPlace) (hval : ∀ (j : Nat) t v, Tryd.f7.params[j]? = some t → args[j]? = some v → Value.okWide Tryd.prog W .any base t v)
    (hA : DataW.TrodAll enc Tryd.prog W 0 (fun _ => true) true Tryd.f7.params.toList args.toList ds p) (hg : GlobOk ρ0.g W.heap.size W) : Calls Tryd.prog 7 args W fun e w' => e = .returned (.bool true) ∧ Below W.heap.size W w' := by
  rw [Tryd.params7] at hA hval
  have hs : shTs Tryd.prog [28, 25, 25, 23] = some sh := by
    have : (shTs Tryd.prog [28, 25, 25, 23]).isSome = true := by kernel_rfl
    obtain ⟨s, h⟩ := Option.isSome_iff_exists.1 this
    unfold sh
    rw [h]; rfl
  obtain ⟨ds', hr⟩ := args_rel hA (fun i t v ht hv => hval i t v (by simpa using ht) (by simpa using hv)) hs
  have := law_callsR (L07_ok) Tryd.func7 rfl 1600 hg hr lawful
  simpa using this
set_option maxRecDepth 100000 in
theorem lifted (os : Os) (started : os.Started) (H : Type) (enc : TypeId × Value → H) :
    ReturnsInHanded {} Tryd.checked os 7 .any (fun w args => (Rows.gridCropsSpec.pre enc Tryd.prog Tryd.f7 [] false w args ∧ laidMetH Tryd.prog [("voxel/point.axes", Rows.laid_voxel_point_axes)] w) ∧ sizedMet enc Tryd.prog Tryd.f7 (OpenSpec.ofChange Rows.gridCropsSpec) false w args)
      (Rows.gridCropsSpec.post enc Tryd.prog Tryd.f7 false true false false) := by
  refine returnsInHanded_of_change_and (C := Tryd.checked) (X := fun w _ => laidMetH Tryd.prog [("voxel/point.axes", Rows.laid_voxel_point_axes)] w) (fun _ _ _ hh h => h.of_heap hh) own started (by kernel_rfl) Tryd.func7
    (ChangeSpec.witness_shaped (enc := enc) (C := Tryd.checked) (os := os) (X := fun w _ => laidMetH Tryd.prog [("voxel/point.axes", Rows.laid_voxel_point_axes)] w) false (World.doorLaid Tryd.prog 400 os) #[((Tryd.prog.info? 28).bind (·.zero)).getD undef, ((Tryd.prog.info? 25).bind (·.zero)).getD undef, ((Tryd.prog.info? 25).bind (·.zero)).getD undef, ((Tryd.prog.info? 23).bind (·.zero)).getD undef] 8 rfl (World.shaped_of_RefB (by kernel_rfl) (by kernel_rfl)) (by kernel_rfl) (by kernel_rfl) (by kernel_rfl) (door_met os _)) ?_
  intro W base args ds gs before hval hW _ _ hL _
  have hW0 := hW
  obtain ⟨p, q, hA, hV, _⟩ := hW0
  have hlen : ds.length = 4 := (trodAll_len hA).trans (by kernel_rfl)
  refine (calls W base args ds p hval hA (glob_ok hL)).mono fun e W' ⟨he, hb⟩ => ?_
  subst he
  exact ⟨_, rfl, law_post kids slices (by rw [Tryd.params7]; decide +kernel) rfl rfl Tryd.underlying4 (shape hlen) hW hb⟩

theorem over : Rows.GridCropsSaid :=
  OpenClaim.holds_of_wide 7 Tryd.f7 rfl rfl rfl rfl rfl rfl rfl ⟨rfl, rfl, rfl, rfl, rfl⟩ rfl rfl rfl rfl rfl (by kernel_rfl) Tryd.func7 (by kernel_rfl)
    (of_decide_eq_true (by kernel_rfl)) (by unfold Func.isWrapper; first | (rw [if_pos (by decide +kernel)]; kernel_rfl) | (rw [if_neg (by decide +kernel)]; exact ⟨rfl, rfl⟩))
    (fun os started H enc _ => lifted os started H enc)

/-- The statement: the row, its listed variable tied to the program's text. -/
theorem proved : Rows.GridCropsCardSaid :=
  Claim7.holds_tied_plain_at .later [] [.data] true (true, "127ed38f03d5299d2a50fe8d6cb549502e2ebfd838967b6e2d31f5f549e46494") false
    over (fun _ h => by cases h) (by kernel_rfl) (fun _ h => by cases h) gridCrops_row_tie rfl ⟨rfl, rfl⟩ (by kernel_rfl) rfl
    (fun f fn hf hfn => by
      obtain rfl : f = 7 := Option.some.inj ((show Tryd.prog.funcNamed "voxel/voxellaw07.GridCrops" = some 7 by kernel_rfl).symm.trans hf) |>.symm
      obtain rfl : fn = Tryd.f7 := (Option.some.inj (Tryd.func7.symm.trans hfn)).symm
      exact ⟨by kernel_rfl, fun j t ht => by
        rw [Tryd.params7] at ht
        have hm : t ∈ [28, 25, 25, 23] := by simpa using Array.mem_of_getElem? ht
        have hall : ([28, 25, 25, 23].all fun u => !Tryd.prog.wantsStandIn u) = true := by kernel_rfl
        exact (show Tryd.prog.wantsStandIn t = false by simpa using List.all_eq_true.1 hall t hm)⟩)
    (by kernel_rfl)
#print axioms proved
end Go.Proofs.YtleapeclbkclaaaDoor.gridCrops
