/- Proved: StencilTurnsAreAGroup: the statement 'StencilTurnsAreAGroupCardSaid' of this seat, for every input that it names; no condition besides. -/
import Derived.Test.YtaacclebncplbaaGreatDoorC20Td
import Derived.Test.YtaacclebncplbaaGreatDoorC20Y
import Derived.Test.YtaacclebncplbaaGreatDoorRows
import Derived.Test.YtaacclebncplbaaGreatDoorCards
import Derived.Test.YtaacclebncplbaaGreatDoorTie
import Derived.SevenTiedAt
import Derived.ProofKit
import Derived.LaidMore
import Derived.Stop.Joined
namespace Go.Proofs.YtaacclebncplbaaGreatDoor.stencilTurnsAreAGroup
open Go Go.ChangeShapes Go.WideShapes Go.ChangeAt Go.RowKit Vc
set_option linter.unusedVariables false
def lawP (x0 x1 x2 x3 x4 x5 : Int) (x6 : X) (x7 x8 x9 x10 : Int) : Prop :=
(let v0 := Ff 700 [xI x0, xI x1, xI x2, xI x3, xI x4, xI x5, x6]; (((((((¬ (((v0.b = true) ∧ (x6.i ≤ 520)) ∧ ((((((((-1000) ≤ x0) ∧ ((-1000) ≤ x1)) ∧ ((-1000) ≤ x2)) ∧ (x0 ≤ 1000)) ∧ (x1 ≤ 1000)) ∧ (x2 ≤ 1000)) ∧ (((((((-1000) ≤ x3) ∧ ((-1000) ≤ x4)) ∧ ((-1000) ≤ x5)) ∧ (x3 ≤ 1000)) ∧ (x4 ≤ 1000)) ∧ (x5 ≤ 1000))))) ∨ (¬ ((((((((-1000) ≤ x8) ∧ ((-1000) ≤ x9)) ∧ ((-1000) ≤ x10)) ∧ (x8 ≤ 1000)) ∧ (x9 ≤ 1000)) ∧ (x10 ≤ 1000)) ∧ (((((((-1000) ≤ x8) ∧ ((-1000) ≤ x9)) ∧ ((-1000) ≤ x10)) ∧ (x8 ≤ 1000)) ∧ (x9 ≤ 1000)) ∧ (x10 ≤ 1000))))) ∨ (130 < x6.i)) ∨ (x7 < 0)) ∨ (47 < x7)) →
(true = true)) ∧
((¬ (((((¬ (((v0.b = true) ∧ (x6.i ≤ 520)) ∧ ((((((((-1000) ≤ x0) ∧ ((-1000) ≤ x1)) ∧ ((-1000) ≤ x2)) ∧ (x0 ≤ 1000)) ∧ (x1 ≤ 1000)) ∧ (x2 ≤ 1000)) ∧ (((((((-1000) ≤ x3) ∧ ((-1000) ≤ x4)) ∧ ((-1000) ≤ x5)) ∧ (x3 ≤ 1000)) ∧ (x4 ≤ 1000)) ∧ (x5 ≤ 1000))))) ∨ (¬ ((((((((-1000) ≤ x8) ∧ ((-1000) ≤ x9)) ∧ ((-1000) ≤ x10)) ∧ (x8 ≤ 1000)) ∧ (x9 ≤ 1000)) ∧ (x10 ≤ 1000)) ∧ (((((((-1000) ≤ x8) ∧ ((-1000) ≤ x9)) ∧ ((-1000) ≤ x10)) ∧ (x8 ≤ 1000)) ∧ (x9 ≤ 1000)) ∧ (x10 ≤ 1000))))) ∨ (130 < x6.i)) ∨ (x7 < 0)) ∨ (47 < x7))) →
(Px 710 [xI x0, xI x1, xI x2, xI x3, xI x4, xI x5, x6] ∧
(let v5 := Ff 1041 [xI x0, xI x1, xI x2, xI x3, xI x4, xI x5, x6]; (((¬ (v5.i = 0)) →
(0 < v5.i)) ∧
((((v5.i = 0) ∨ (¬ ((v5.r 0 0).i = 0))) →
(false = true)) ∧
((¬ ((v5.i = 0) ∨ (¬ ((v5.r 0 0).i = 0)))) →
(Px 1110 [v5, xI 0, (mkX (rwRep [(xB false)]) 48)] ∧
(∀ x20 : X, (∀ x21 : X, (((0 ≤ x20.i) ∧ (x20.i ≤ 48)) →
((0 ≤ x21.i ∧ x21.i ≤ 48 ∧ RowOk [.bool] x21.r (x21.i).toNat) →
(Px 1110 [v5, x20, x21] →
(((x20.i < v5.i) →
((x20.i < v5.i) ∧
((x20.i < v5.i) ∧
((x20.i < v5.i) ∧
(((v5.r x20.i 0).i < x21.i) ∧
(Px 1110 [v5, (xI (x20.i + 1)), (mkX (rwSet x21.r (v5.r x20.i 0).i 0 (xB true)) x21.i)] ∧
(let v22 := Ff 1110 [v5, (xI (x20.i + 1)), (mkX (rwSet x21.r (v5.r x20.i 0).i 0 (xB true)) x21.i)]; let v23 := Ff 1110 [v5, x20, x21]; ((v22.i < v23.i) ∧
(0 < v23.i))))))))) ∧
((¬ (x20.i < v5.i)) →
(Px 1078 [xI 0] ∧
(∀ x30 : X, (((0 ≤ x30.i) ∧ (x30.i ≤ 48)) →
(Px 1078 [x30] →
(((x30.i < v5.i) →
((x30.i < v5.i) ∧
(let v32 := Ff 311 [(xI (v5.r x30.i 0).i)]; ((0 ≤ v32.i) ∧
((v32.i < x21.i) ∧
(((¬ ((x21.r v32.i 0).b = true)) →
(false = true)) ∧
(((x21.r v32.i 0).b = true) →
(Px 1078 [xI 0] ∧
(∀ x40 : X, (((0 ≤ x40.i) ∧ (x40.i ≤ 48)) →
(Px 1078 [x40] →
(((x40.i < v5.i) →
(let v43 := Ff 310 [(xI (v5.r x30.i 0).i), (xI (v5.r x40.i 0).i)]; ((0 ≤ v43.i) ∧
((v43.i < x21.i) ∧
((x40.i < v5.i) ∧
((x30.i < v5.i) ∧
(((¬ ((x21.r v43.i 0).b = true)) →
(false = true)) ∧
(((x21.r v43.i 0).b = true) →
(Px 1078 [(xI (x40.i + 1))] ∧
(let v52 := Ff 1078 [(xI (x40.i + 1))]; let v53 := Ff 1078 [x40]; ((v52.i < v53.i) ∧
(0 < v53.i)))))))))))) ∧
((¬ (x40.i < v5.i)) →
(Px 1078 [(xI (x30.i + 1))] ∧
(let v57 := Ff 1078 [(xI (x30.i + 1))]; let v58 := Ff 1078 [x30]; ((v57.i < v58.i) ∧
(0 < v58.i))))))))))))))))) ∧
((¬ (x30.i < v5.i)) →
(Px 1112 [xI x0, xI x1, xI x2, xI x3, xI x4, xI x5, x6, xI 0, xI 0] ∧
(∀ x50 : X, (∀ x51 : X, (((0 ≤ x50.i) ∧ (x50.i ≤ 48)) →
(((0 ≤ x51.i) ∧ (x51.i ≤ 48)) →
(Px 1112 [xI x0, xI x1, xI x2, xI x3, xI x4, xI x5, x6, x50, x51] →
(((x50.i < 48) →
(Px 947 [xI x50.i, xI x0, xI x1, xI x2, xI x3, xI x4, xI x5, x6] ∧
(let v68 := Ff 940 [xI x50.i, xI x0, xI x1, xI x2, xI x3, xI x4, xI x5, x6]; let v69 := Ff 941 [xI x50.i, xI x0, xI x1, xI x2, xI x3, xI x4, xI x5, x6]; let v70 := Ff 942 [xI x50.i, xI x0, xI x1, xI x2, xI x3, xI x4, xI x5, x6]; let v71 := Ff 943 [xI x50.i, xI x0, xI x1, xI x2, xI x3, xI x4, xI x5, x6]; let v72 := Ff 944 [xI x50.i, xI x0, xI x1, xI x2, xI x3, xI x4, xI x5, x6]; let v73 := Ff 945 [xI x50.i, xI x0, xI x1, xI x2, xI x3, xI x4, xI x5, x6]; let v74 := Ff 946 [xI x50.i, xI x0, xI x1, xI x2, xI x3, xI x4, xI x5, x6]; (Px 710 [xI v68.i, xI v69.i, xI v70.i, xI v71.i, xI v72.i, xI v73.i, v74] ∧
(Px 1113 [xI x0, xI x1, xI x2, xI x3, xI x4, xI x5, x6, xI x50.i, xI 0, (xB true)] ∧
(∀ x60 : X, (∀ x61 : X, (((0 ≤ x60.i) ∧ (x60.i ≤ 48)) →
(Px 1113 [xI x0, xI x1, xI x2, xI x3, xI x4, xI x5, x6, xI x50.i, x60, x61] →
(((x60.i < x50.i) →
(Px 947 [xI x60.i, xI x0, xI x1, xI x2, xI x3, xI x4, xI x5, x6] ∧
(let v82 := Ff 940 [xI x60.i, xI x0, xI x1, xI x2, xI x3, xI x4, xI x5, x6]; let v83 := Ff 941 [xI x60.i, xI x0, xI x1, xI x2, xI x3, xI x4, xI x5, x6]; let v84 := Ff 942 [xI x60.i, xI x0, xI x1, xI x2, xI x3, xI x4, xI x5, x6]; let v85 := Ff 943 [xI x60.i, xI x0, xI x1, xI x2, xI x3, xI x4, xI x5, x6]; let v86 := Ff 944 [xI x60.i, xI x0, xI x1, xI x2, xI x3, xI x4, xI x5, x6]; let v87 := Ff 945 [xI x60.i, xI x0, xI x1, xI x2, xI x3, xI x4, xI x5, x6]; let v88 := Ff 946 [xI x60.i, xI x0, xI x1, xI x2, xI x3, xI x4, xI x5, x6]; (Px 710 [xI v82.i, xI v83.i, xI v84.i, xI v85.i, xI v86.i, xI v87.i, v88] ∧
(let v90 := Ff 1103 [xI v68.i, xI v69.i, xI v70.i, xI v71.i, xI v72.i, xI v73.i, v74]; let v91 := Ff 1104 [xI v68.i, xI v69.i, xI v70.i, xI v71.i, xI v72.i, xI v73.i, v74]; let v92 := Ff 1105 [xI v68.i, xI v69.i, xI v70.i, xI v71.i, xI v72.i, xI v73.i, v74]; let v93 := Ff 1106 [xI v68.i, xI v69.i, xI v70.i, xI v71.i, xI v72.i, xI v73.i, v74]; let v94 := Ff 1107 [xI v68.i, xI v69.i, xI v70.i, xI v71.i, xI v72.i, xI v73.i, v74]; let v95 := Ff 1108 [xI v68.i, xI v69.i, xI v70.i, xI v71.i, xI v72.i, xI v73.i, v74]; let v96 := Ff 1109 [xI v68.i, xI v69.i, xI v70.i, xI v71.i, xI v72.i, xI v73.i, v74]; let v97 := Ff 1103 [xI v82.i, xI v83.i, xI v84.i, xI v85.i, xI v86.i, xI v87.i, v88]; let v98 := Ff 1104 [xI v82.i, xI v83.i, xI v84.i, xI v85.i, xI v86.i, xI v87.i, v88]; let v99 := Ff 1105 [xI v82.i, xI v83.i, xI v84.i, xI v85.i, xI v86.i, xI v87.i, v88]; let v100 := Ff 1106 [xI v82.i, xI v83.i, xI v84.i, xI v85.i, xI v86.i, xI v87.i, v88]; let v101 := Ff 1107 [xI v82.i, xI v83.i, xI v84.i, xI v85.i, xI v86.i, xI v87.i, v88]; let v102 := Ff 1108 [xI v82.i, xI v83.i, xI v84.i, xI v85.i, xI v86.i, xI v87.i, v88]; let v103 := Ff 1109 [xI v82.i, xI v83.i, xI v84.i, xI v85.i, xI v86.i, xI v87.i, v88]; let v104 := Ff 715 [xI v90.i, xI v91.i, xI v92.i, xI v93.i, xI v94.i, xI v95.i, v96, xI v97.i, xI v98.i, xI v99.i, xI v100.i, xI v101.i, xI v102.i, v103]; (Px 1113 [xI x0, xI x1, xI x2, xI x3, xI x4, xI x5, x6, xI x50.i, (xI (x60.i + 1)), (xB (x61.b && (!v104.b)))] ∧
(let v106 := Ff 1113 [xI x0, xI x1, xI x2, xI x3, xI x4, xI x5, x6, xI x50.i, (xI (x60.i + 1)), (xB (x61.b && (!v104.b)))]; let v107 := Ff 1113 [xI x0, xI x1, xI x2, xI x3, xI x4, xI x5, x6, xI x50.i, x60, x61]; ((v106.i < v107.i) ∧
(0 < v107.i))))))))) ∧
((¬ (x60.i < x50.i)) →
(((bif x61.b then (x51.i + 1) else x51.i) ≤ 48) ∧
(Px 1112 [xI x0, xI x1, xI x2, xI x3, xI x4, xI x5, x6, (xI (x50.i + 1)), (xI (bif x61.b then (x51.i + 1) else x51.i))] ∧
(let v112 := Ff 1112 [xI x0, xI x1, xI x2, xI x3, xI x4, xI x5, x6, (xI (x50.i + 1)), (xI (bif x61.b then (x51.i + 1) else x51.i))]; let v113 := Ff 1112 [xI x0, xI x1, xI x2, xI x3, xI x4, xI x5, x6, x50, x51]; ((v112.i < v113.i) ∧
(0 < v113.i)))))))))))))))) ∧
((¬ (x50.i < 48)) →
((Px 947 [xI x7, xI x0, xI x1, xI x2, xI x3, xI x4, xI x5, x6] ∧
((let v119 := Ff 940 [xI x7, xI x0, xI x1, xI x2, xI x3, xI x4, xI x5, x6]; let v120 := Ff 941 [xI x7, xI x0, xI x1, xI x2, xI x3, xI x4, xI x5, x6]; let v121 := Ff 942 [xI x7, xI x0, xI x1, xI x2, xI x3, xI x4, xI x5, x6]; let v122 := Ff 943 [xI x7, xI x0, xI x1, xI x2, xI x3, xI x4, xI x5, x6]; let v123 := Ff 944 [xI x7, xI x0, xI x1, xI x2, xI x3, xI x4, xI x5, x6]; let v124 := Ff 945 [xI x7, xI x0, xI x1, xI x2, xI x3, xI x4, xI x5, x6]; let v125 := Ff 946 [xI x7, xI x0, xI x1, xI x2, xI x3, xI x4, xI x5, x6]; (Px 710 [xI v119.i, xI v120.i, xI v121.i, xI v122.i, xI v123.i, xI v124.i, v125, xI x8, xI x9, xI x10] ∧
(Px 710 [xI x0, xI x1, xI x2, xI x3, xI x4, xI x5, x6] ∧
(let v128 := Ff 930 [xI v119.i, xI v120.i, xI v121.i, xI v122.i, xI v123.i, xI v124.i, v125, xI x8, xI x9, xI x10]; let v129 := Ff 931 [xI v119.i, xI v120.i, xI v121.i, xI v122.i, xI v123.i, xI v124.i, v125, xI x8, xI x9, xI x10]; let v130 := Ff 932 [xI v119.i, xI v120.i, xI v121.i, xI v122.i, xI v123.i, xI v124.i, v125, xI x8, xI x9, xI x10]; let v131 := Ff 933 [xI v119.i, xI v120.i, xI v121.i, xI v122.i, xI v123.i, xI v124.i, v125, xI x8, xI x9, xI x10]; let v132 := Ff 934 [xI v119.i, xI v120.i, xI v121.i, xI v122.i, xI v123.i, xI v124.i, v125, xI x8, xI x9, xI x10]; let v133 := Ff 935 [xI v119.i, xI v120.i, xI v121.i, xI v122.i, xI v123.i, xI v124.i, v125, xI x8, xI x9, xI x10]; let v134 := Ff 936 [xI v119.i, xI v120.i, xI v121.i, xI v122.i, xI v123.i, xI v124.i, v125, xI x8, xI x9, xI x10]; (Px 710 [xI v128.i, xI v129.i, xI v130.i, xI v131.i, xI v132.i, xI v133.i, v134] ∧
(let v136 := Ff 1042 [xI x0, xI x1, xI x2, xI x3, xI x4, xI x5, x6]; let v137 := Ff 1043 [xI x0, xI x1, xI x2, xI x3, xI x4, xI x5, x6]; let v138 := Ff 1044 [xI x0, xI x1, xI x2, xI x3, xI x4, xI x5, x6]; let v139 := Ff 1045 [xI x0, xI x1, xI x2, xI x3, xI x4, xI x5, x6]; let v140 := Ff 1046 [xI x0, xI x1, xI x2, xI x3, xI x4, xI x5, x6]; let v141 := Ff 1047 [xI x0, xI x1, xI x2, xI x3, xI x4, xI x5, x6]; let v142 := Ff 1048 [xI x0, xI x1, xI x2, xI x3, xI x4, xI x5, x6]; let v143 := Ff 1042 [xI v128.i, xI v129.i, xI v130.i, xI v131.i, xI v132.i, xI v133.i, v134]; let v144 := Ff 1043 [xI v128.i, xI v129.i, xI v130.i, xI v131.i, xI v132.i, xI v133.i, v134]; let v145 := Ff 1044 [xI v128.i, xI v129.i, xI v130.i, xI v131.i, xI v132.i, xI v133.i, v134]; let v146 := Ff 1045 [xI v128.i, xI v129.i, xI v130.i, xI v131.i, xI v132.i, xI v133.i, v134]; let v147 := Ff 1046 [xI v128.i, xI v129.i, xI v130.i, xI v131.i, xI v132.i, xI v133.i, v134]; let v148 := Ff 1047 [xI v128.i, xI v129.i, xI v130.i, xI v131.i, xI v132.i, xI v133.i, v134]; let v149 := Ff 1048 [xI v128.i, xI v129.i, xI v130.i, xI v131.i, xI v132.i, xI v133.i, v134]; let v150 := Ff 715 [xI v136.i, xI v137.i, xI v138.i, xI v139.i, xI v140.i, xI v141.i, v142, xI v143.i, xI v144.i, xI v145.i, xI v146.i, xI v147.i, xI v148.i, v149]; (((v150.b = true) →
(let v153 := Ff 1049 [xI v128.i, xI v129.i, xI v130.i, xI v131.i, xI v132.i, xI v133.i, v134]; (Px 947 [xI v153.i, xI v128.i, xI v129.i, xI v130.i, xI v131.i, xI v132.i, xI v133.i, v134] ∧
(let v155 := Ff 940 [xI v153.i, xI v128.i, xI v129.i, xI v130.i, xI v131.i, xI v132.i, xI v133.i, v134]; let v156 := Ff 941 [xI v153.i, xI v128.i, xI v129.i, xI v130.i, xI v131.i, xI v132.i, xI v133.i, v134]; let v157 := Ff 942 [xI v153.i, xI v128.i, xI v129.i, xI v130.i, xI v131.i, xI v132.i, xI v133.i, v134]; let v158 := Ff 943 [xI v153.i, xI v128.i, xI v129.i, xI v130.i, xI v131.i, xI v132.i, xI v133.i, v134]; let v159 := Ff 944 [xI v153.i, xI v128.i, xI v129.i, xI v130.i, xI v131.i, xI v132.i, xI v133.i, v134]; let v160 := Ff 945 [xI v153.i, xI v128.i, xI v129.i, xI v130.i, xI v131.i, xI v132.i, xI v133.i, v134]; let v161 := Ff 946 [xI v153.i, xI v128.i, xI v129.i, xI v130.i, xI v131.i, xI v132.i, xI v133.i, v134]; (Px 710 [xI v155.i, xI v156.i, xI v157.i, xI v158.i, xI v159.i, xI v160.i, v161] ∧
(let v163 := Ff 1103 [xI v155.i, xI v156.i, xI v157.i, xI v158.i, xI v159.i, xI v160.i, v161]; let v164 := Ff 1104 [xI v155.i, xI v156.i, xI v157.i, xI v158.i, xI v159.i, xI v160.i, v161]; let v165 := Ff 1105 [xI v155.i, xI v156.i, xI v157.i, xI v158.i, xI v159.i, xI v160.i, v161]; let v166 := Ff 1106 [xI v155.i, xI v156.i, xI v157.i, xI v158.i, xI v159.i, xI v160.i, v161]; let v167 := Ff 1107 [xI v155.i, xI v156.i, xI v157.i, xI v158.i, xI v159.i, xI v160.i, v161]; let v168 := Ff 1108 [xI v155.i, xI v156.i, xI v157.i, xI v158.i, xI v159.i, xI v160.i, v161]; let v169 := Ff 1109 [xI v155.i, xI v156.i, xI v157.i, xI v158.i, xI v159.i, xI v160.i, v161]; let v170 := Ff 715 [xI v143.i, xI v144.i, xI v145.i, xI v146.i, xI v147.i, xI v148.i, v149, xI v163.i, xI v164.i, xI v165.i, xI v166.i, xI v167.i, xI v168.i, v169]; (((v170.b = true) →
 Px 711 [xI x0, xI x1, xI x2, xI x3, xI x4, xI x5, x6, xI v128.i, xI v129.i, xI v130.i, xI v131.i, xI v132.i, xI v133.i, v134]) ∧
(let v173 := Ff 1050 [xI x0, xI x1, xI x2, xI x3, xI x4, xI x5, x6, xI v128.i, xI v129.i, xI v130.i, xI v131.i, xI v132.i, xI v133.i, v134]; (((v170.b = true) ∧ (v173.b = true)) ∧ ((x51.i * v5.i) = 48)))))))))) ∧
((¬ (v150.b = true)) →
(false = true))))))))) ∧
(let v175 := Ff 940 [xI x7, xI x0, xI x1, xI x2, xI x3, xI x4, xI x5, x6]; let v176 := Ff 941 [xI x7, xI x0, xI x1, xI x2, xI x3, xI x4, xI x5, x6]; let v177 := Ff 942 [xI x7, xI x0, xI x1, xI x2, xI x3, xI x4, xI x5, x6]; let v178 := Ff 943 [xI x7, xI x0, xI x1, xI x2, xI x3, xI x4, xI x5, x6]; let v179 := Ff 944 [xI x7, xI x0, xI x1, xI x2, xI x3, xI x4, xI x5, x6]; let v180 := Ff 945 [xI x7, xI x0, xI x1, xI x2, xI x3, xI x4, xI x5, x6]; let v181 := Ff 946 [xI x7, xI x0, xI x1, xI x2, xI x3, xI x4, xI x5, x6]; (Px 710 [xI v175.i, xI v176.i, xI v177.i, xI v178.i, xI v179.i, xI v180.i, v181, xI x8, xI x9, xI x10] ∧
(Px 710 [xI x0, xI x1, xI x2, xI x3, xI x4, xI x5, x6] ∧
(let v184 := Ff 930 [xI v175.i, xI v176.i, xI v177.i, xI v178.i, xI v179.i, xI v180.i, v181, xI x8, xI x9, xI x10]; let v185 := Ff 931 [xI v175.i, xI v176.i, xI v177.i, xI v178.i, xI v179.i, xI v180.i, v181, xI x8, xI x9, xI x10]; let v186 := Ff 932 [xI v175.i, xI v176.i, xI v177.i, xI v178.i, xI v179.i, xI v180.i, v181, xI x8, xI x9, xI x10]; let v187 := Ff 933 [xI v175.i, xI v176.i, xI v177.i, xI v178.i, xI v179.i, xI v180.i, v181, xI x8, xI x9, xI x10]; let v188 := Ff 934 [xI v175.i, xI v176.i, xI v177.i, xI v178.i, xI v179.i, xI v180.i, v181, xI x8, xI x9, xI x10]; let v189 := Ff 935 [xI v175.i, xI v176.i, xI v177.i, xI v178.i, xI v179.i, xI v180.i, v181, xI x8, xI x9, xI x10]; let v190 := Ff 936 [xI v175.i, xI v176.i, xI v177.i, xI v178.i, xI v179.i, xI v180.i, v181, xI x8, xI x9, xI x10]; (Px 710 [xI v184.i, xI v185.i, xI v186.i, xI v187.i, xI v188.i, xI v189.i, v190] ∧
(let v192 := Ff 1042 [xI x0, xI x1, xI x2, xI x3, xI x4, xI x5, x6]; let v193 := Ff 1043 [xI x0, xI x1, xI x2, xI x3, xI x4, xI x5, x6]; let v194 := Ff 1044 [xI x0, xI x1, xI x2, xI x3, xI x4, xI x5, x6]; let v195 := Ff 1045 [xI x0, xI x1, xI x2, xI x3, xI x4, xI x5, x6]; let v196 := Ff 1046 [xI x0, xI x1, xI x2, xI x3, xI x4, xI x5, x6]; let v197 := Ff 1047 [xI x0, xI x1, xI x2, xI x3, xI x4, xI x5, x6]; let v198 := Ff 1048 [xI x0, xI x1, xI x2, xI x3, xI x4, xI x5, x6]; let v199 := Ff 1042 [xI v184.i, xI v185.i, xI v186.i, xI v187.i, xI v188.i, xI v189.i, v190]; let v200 := Ff 1043 [xI v184.i, xI v185.i, xI v186.i, xI v187.i, xI v188.i, xI v189.i, v190]; let v201 := Ff 1044 [xI v184.i, xI v185.i, xI v186.i, xI v187.i, xI v188.i, xI v189.i, v190]; let v202 := Ff 1045 [xI v184.i, xI v185.i, xI v186.i, xI v187.i, xI v188.i, xI v189.i, v190]; let v203 := Ff 1046 [xI v184.i, xI v185.i, xI v186.i, xI v187.i, xI v188.i, xI v189.i, v190]; let v204 := Ff 1047 [xI v184.i, xI v185.i, xI v186.i, xI v187.i, xI v188.i, xI v189.i, v190]; let v205 := Ff 1048 [xI v184.i, xI v185.i, xI v186.i, xI v187.i, xI v188.i, xI v189.i, v190]; let v206 := Ff 715 [xI v192.i, xI v193.i, xI v194.i, xI v195.i, xI v196.i, xI v197.i, v198, xI v199.i, xI v200.i, xI v201.i, xI v202.i, xI v203.i, xI v204.i, v205]; (((v206.b = true) →
(let v209 := Ff 1049 [xI v184.i, xI v185.i, xI v186.i, xI v187.i, xI v188.i, xI v189.i, v190]; (Px 947 [xI v209.i, xI v184.i, xI v185.i, xI v186.i, xI v187.i, xI v188.i, xI v189.i, v190] ∧
(let v211 := Ff 940 [xI v209.i, xI v184.i, xI v185.i, xI v186.i, xI v187.i, xI v188.i, xI v189.i, v190]; let v212 := Ff 941 [xI v209.i, xI v184.i, xI v185.i, xI v186.i, xI v187.i, xI v188.i, xI v189.i, v190]; let v213 := Ff 942 [xI v209.i, xI v184.i, xI v185.i, xI v186.i, xI v187.i, xI v188.i, xI v189.i, v190]; let v214 := Ff 943 [xI v209.i, xI v184.i, xI v185.i, xI v186.i, xI v187.i, xI v188.i, xI v189.i, v190]; let v215 := Ff 944 [xI v209.i, xI v184.i, xI v185.i, xI v186.i, xI v187.i, xI v188.i, xI v189.i, v190]; let v216 := Ff 945 [xI v209.i, xI v184.i, xI v185.i, xI v186.i, xI v187.i, xI v188.i, xI v189.i, v190]; let v217 := Ff 946 [xI v209.i, xI v184.i, xI v185.i, xI v186.i, xI v187.i, xI v188.i, xI v189.i, v190]; (Px 710 [xI v211.i, xI v212.i, xI v213.i, xI v214.i, xI v215.i, xI v216.i, v217] ∧
(let v219 := Ff 1103 [xI v211.i, xI v212.i, xI v213.i, xI v214.i, xI v215.i, xI v216.i, v217]; let v220 := Ff 1104 [xI v211.i, xI v212.i, xI v213.i, xI v214.i, xI v215.i, xI v216.i, v217]; let v221 := Ff 1105 [xI v211.i, xI v212.i, xI v213.i, xI v214.i, xI v215.i, xI v216.i, v217]; let v222 := Ff 1106 [xI v211.i, xI v212.i, xI v213.i, xI v214.i, xI v215.i, xI v216.i, v217]; let v223 := Ff 1107 [xI v211.i, xI v212.i, xI v213.i, xI v214.i, xI v215.i, xI v216.i, v217]; let v224 := Ff 1108 [xI v211.i, xI v212.i, xI v213.i, xI v214.i, xI v215.i, xI v216.i, v217]; let v225 := Ff 1109 [xI v211.i, xI v212.i, xI v213.i, xI v214.i, xI v215.i, xI v216.i, v217]; let v226 := Ff 715 [xI v199.i, xI v200.i, xI v201.i, xI v202.i, xI v203.i, xI v204.i, v205, xI v219.i, xI v220.i, xI v221.i, xI v222.i, xI v223.i, xI v224.i, v225]; (((v226.b = true) →
 Px 711 [xI x0, xI x1, xI x2, xI x3, xI x4, xI x5, x6, xI v184.i, xI v185.i, xI v186.i, xI v187.i, xI v188.i, xI v189.i, v190]) ∧
(let v229 := Ff 1050 [xI x0, xI x1, xI x2, xI x3, xI x4, xI x5, x6, xI v184.i, xI v185.i, xI v186.i, xI v187.i, xI v188.i, xI v189.i, v190]; (((v226.b = true) ∧ (v229.b = true)) ∧ ((x51.i * v5.i) = 48)))))))))) ∧
((¬ (v206.b = true)) →
(false = true))))))))))) ∧
(Px 947 [xI x7, xI x0, xI x1, xI x2, xI x3, xI x4, xI x5, x6] ∧
(let v232 := Ff 940 [xI x7, xI x0, xI x1, xI x2, xI x3, xI x4, xI x5, x6]; let v233 := Ff 941 [xI x7, xI x0, xI x1, xI x2, xI x3, xI x4, xI x5, x6]; let v234 := Ff 942 [xI x7, xI x0, xI x1, xI x2, xI x3, xI x4, xI x5, x6]; let v235 := Ff 943 [xI x7, xI x0, xI x1, xI x2, xI x3, xI x4, xI x5, x6]; let v236 := Ff 944 [xI x7, xI x0, xI x1, xI x2, xI x3, xI x4, xI x5, x6]; let v237 := Ff 945 [xI x7, xI x0, xI x1, xI x2, xI x3, xI x4, xI x5, x6]; let v238 := Ff 946 [xI x7, xI x0, xI x1, xI x2, xI x3, xI x4, xI x5, x6]; (Px 710 [xI v232.i, xI v233.i, xI v234.i, xI v235.i, xI v236.i, xI v237.i, v238, xI x8, xI x9, xI x10] ∧
(Px 710 [xI x0, xI x1, xI x2, xI x3, xI x4, xI x5, x6] ∧
(let v241 := Ff 930 [xI v232.i, xI v233.i, xI v234.i, xI v235.i, xI v236.i, xI v237.i, v238, xI x8, xI x9, xI x10]; let v242 := Ff 931 [xI v232.i, xI v233.i, xI v234.i, xI v235.i, xI v236.i, xI v237.i, v238, xI x8, xI x9, xI x10]; let v243 := Ff 932 [xI v232.i, xI v233.i, xI v234.i, xI v235.i, xI v236.i, xI v237.i, v238, xI x8, xI x9, xI x10]; let v244 := Ff 933 [xI v232.i, xI v233.i, xI v234.i, xI v235.i, xI v236.i, xI v237.i, v238, xI x8, xI x9, xI x10]; let v245 := Ff 934 [xI v232.i, xI v233.i, xI v234.i, xI v235.i, xI v236.i, xI v237.i, v238, xI x8, xI x9, xI x10]; let v246 := Ff 935 [xI v232.i, xI v233.i, xI v234.i, xI v235.i, xI v236.i, xI v237.i, v238, xI x8, xI x9, xI x10]; let v247 := Ff 936 [xI v232.i, xI v233.i, xI v234.i, xI v235.i, xI v236.i, xI v237.i, v238, xI x8, xI x9, xI x10]; (Px 710 [xI v241.i, xI v242.i, xI v243.i, xI v244.i, xI v245.i, xI v246.i, v247] ∧
(let v249 := Ff 1042 [xI x0, xI x1, xI x2, xI x3, xI x4, xI x5, x6]; let v250 := Ff 1043 [xI x0, xI x1, xI x2, xI x3, xI x4, xI x5, x6]; let v251 := Ff 1044 [xI x0, xI x1, xI x2, xI x3, xI x4, xI x5, x6]; let v252 := Ff 1045 [xI x0, xI x1, xI x2, xI x3, xI x4, xI x5, x6]; let v253 := Ff 1046 [xI x0, xI x1, xI x2, xI x3, xI x4, xI x5, x6]; let v254 := Ff 1047 [xI x0, xI x1, xI x2, xI x3, xI x4, xI x5, x6]; let v255 := Ff 1048 [xI x0, xI x1, xI x2, xI x3, xI x4, xI x5, x6]; let v256 := Ff 1042 [xI v241.i, xI v242.i, xI v243.i, xI v244.i, xI v245.i, xI v246.i, v247]; let v257 := Ff 1043 [xI v241.i, xI v242.i, xI v243.i, xI v244.i, xI v245.i, xI v246.i, v247]; let v258 := Ff 1044 [xI v241.i, xI v242.i, xI v243.i, xI v244.i, xI v245.i, xI v246.i, v247]; let v259 := Ff 1045 [xI v241.i, xI v242.i, xI v243.i, xI v244.i, xI v245.i, xI v246.i, v247]; let v260 := Ff 1046 [xI v241.i, xI v242.i, xI v243.i, xI v244.i, xI v245.i, xI v246.i, v247]; let v261 := Ff 1047 [xI v241.i, xI v242.i, xI v243.i, xI v244.i, xI v245.i, xI v246.i, v247]; let v262 := Ff 1048 [xI v241.i, xI v242.i, xI v243.i, xI v244.i, xI v245.i, xI v246.i, v247]; let v263 := Ff 715 [xI v249.i, xI v250.i, xI v251.i, xI v252.i, xI v253.i, xI v254.i, v255, xI v256.i, xI v257.i, xI v258.i, xI v259.i, xI v260.i, xI v261.i, v262]; (((v263.b = true) →
(let v266 := Ff 1049 [xI v241.i, xI v242.i, xI v243.i, xI v244.i, xI v245.i, xI v246.i, v247]; (Px 947 [xI v266.i, xI v241.i, xI v242.i, xI v243.i, xI v244.i, xI v245.i, xI v246.i, v247] ∧
(let v268 := Ff 940 [xI v266.i, xI v241.i, xI v242.i, xI v243.i, xI v244.i, xI v245.i, xI v246.i, v247]; let v269 := Ff 941 [xI v266.i, xI v241.i, xI v242.i, xI v243.i, xI v244.i, xI v245.i, xI v246.i, v247]; let v270 := Ff 942 [xI v266.i, xI v241.i, xI v242.i, xI v243.i, xI v244.i, xI v245.i, xI v246.i, v247]; let v271 := Ff 943 [xI v266.i, xI v241.i, xI v242.i, xI v243.i, xI v244.i, xI v245.i, xI v246.i, v247]; let v272 := Ff 944 [xI v266.i, xI v241.i, xI v242.i, xI v243.i, xI v244.i, xI v245.i, xI v246.i, v247]; let v273 := Ff 945 [xI v266.i, xI v241.i, xI v242.i, xI v243.i, xI v244.i, xI v245.i, xI v246.i, v247]; let v274 := Ff 946 [xI v266.i, xI v241.i, xI v242.i, xI v243.i, xI v244.i, xI v245.i, xI v246.i, v247]; (Px 710 [xI v268.i, xI v269.i, xI v270.i, xI v271.i, xI v272.i, xI v273.i, v274] ∧
(let v276 := Ff 1103 [xI v268.i, xI v269.i, xI v270.i, xI v271.i, xI v272.i, xI v273.i, v274]; let v277 := Ff 1104 [xI v268.i, xI v269.i, xI v270.i, xI v271.i, xI v272.i, xI v273.i, v274]; let v278 := Ff 1105 [xI v268.i, xI v269.i, xI v270.i, xI v271.i, xI v272.i, xI v273.i, v274]; let v279 := Ff 1106 [xI v268.i, xI v269.i, xI v270.i, xI v271.i, xI v272.i, xI v273.i, v274]; let v280 := Ff 1107 [xI v268.i, xI v269.i, xI v270.i, xI v271.i, xI v272.i, xI v273.i, v274]; let v281 := Ff 1108 [xI v268.i, xI v269.i, xI v270.i, xI v271.i, xI v272.i, xI v273.i, v274]; let v282 := Ff 1109 [xI v268.i, xI v269.i, xI v270.i, xI v271.i, xI v272.i, xI v273.i, v274]; let v283 := Ff 715 [xI v256.i, xI v257.i, xI v258.i, xI v259.i, xI v260.i, xI v261.i, v262, xI v276.i, xI v277.i, xI v278.i, xI v279.i, xI v280.i, xI v281.i, v282]; (((v283.b = true) →
 Px 711 [xI x0, xI x1, xI x2, xI x3, xI x4, xI x5, x6, xI v241.i, xI v242.i, xI v243.i, xI v244.i, xI v245.i, xI v246.i, v247]) ∧
(let v286 := Ff 1050 [xI x0, xI x1, xI x2, xI x3, xI x4, xI x5, x6, xI v241.i, xI v242.i, xI v243.i, xI v244.i, xI v245.i, xI v246.i, v247]; (((v283.b = true) ∧ (v286.b = true)) ∧ ((x51.i * v5.i) = 48)))))))))) ∧
((¬ (v263.b = true)) →
(false = true)))))))))))))))))))))))))))))))))))))))))
noncomputable def sh : List RSh := (shTs Tryz.prog [28, 3, 23]).getD []
attribute [irreducible] sh
theorem link (x0 x1 x2 x3 x4 x5 : Int) (x6 : X) (x7 x8 x9 x10 : Int) : (walkR Tryz.prog (cfO (some Ff) L20zd R20zd lpGrp sumC) Tryz.f6 1000 sh).law { ρ0 with x := fun j => [xI x0, xI x1, xI x2, xI x3, xI x4, xI x5, x6, xI x7, xI x8, xI x9, xI x10].getD j (xI 0) } = lawP x0 x1 x2 x3 x4 x5 x6 x7 x8 x9 x10 := by kernel_rfl
set_option maxHeartbeats 4000000 in
theorem lawP_ok (x0 x1 x2 x3 x4 x5 : Int) (x6 : X) (x7 x8 x9 x10 : Int) (g0 : -9223372036854775808 ≤ x0 ∧ x0 ≤ 9223372036854775807) (g1 : -9223372036854775808 ≤ x1 ∧ x1 ≤ 9223372036854775807) (g2 : -9223372036854775808 ≤ x2 ∧ x2 ≤ 9223372036854775807) (g3 : -9223372036854775808 ≤ x3 ∧ x3 ≤ 9223372036854775807) (g4 : -9223372036854775808 ≤ x4 ∧ x4 ≤ 9223372036854775807) (g5 : -9223372036854775808 ≤ x5 ∧ x5 ≤ 9223372036854775807) (g6 : 0 ≤ x6.i ∧ x6.i ≤ 9223372036854775807 ∧ RowOk [.int .i64 (-9223372036854775808) (9223372036854775807)] x6.r x6.i.toNat) (g7 : -9223372036854775808 ≤ x7 ∧ x7 ≤ 9223372036854775807) (g8 : -9223372036854775808 ≤ x8 ∧ x8 ≤ 9223372036854775807) (g9 : -9223372036854775808 ≤ x9 ∧ x9 ≤ 9223372036854775807) (g10 : -9223372036854775808 ≤ x10 ∧ x10 ≤ 9223372036854775807) : lawP x0 x1 x2 x3 x4 x5 x6 x7 x8 x9 x10 := by
 unfold lawP
 intro v0
 refine And.intro ?_ ?_
 ·intro h2
  rfl
 intro h3
 obtain ⟨h31, h3e⟩ := not_or.1 h3
 obtain ⟨h31, h3d⟩ := not_or.1 h31
 obtain ⟨h31, h3c⟩ := not_or.1 h31
 obtain ⟨ha, hb⟩ := not_or.1 h31
 have ha := Decidable.not_not.1 ha
 have hb := Decidable.not_not.1 hb
 have gv : validG ⟨(bxI x0 x1 x2 x3 x4 x5), lstX deI x6⟩ = true := ha.1.1
 have hS : nB 1000 (bxI x0 x1 x2 x3 x4 x5) := by
  have := ha.2
  show ((-1000 ≤ x0 ∧ x0 ≤ 1000) ∧ (-1000 ≤ x1 ∧ x1 ≤ 1000) ∧ (-1000 ≤ x2 ∧ x2 ≤ 1000)) ∧ (-1000 ≤ x3 ∧ x3 ≤ 1000) ∧ (-1000 ≤ x4 ∧ x4 ≤ 1000) ∧ (-1000 ≤ x5 ∧ x5 ≤ 1000)
  omega
 have hk : inT x7 := by unfold inT; omega
 have hP : nP 1000 (x8, x9, x10) := by
  show (-1000 ≤ x8 ∧ x8 ≤ 1000) ∧ (-1000 ≤ x9 ∧ x9 ≤ 1000) ∧ (-1000 ≤ x10 ∧ x10 ≤ 1000)
  omega
 refine andI ?_ fun o4 => ?_
 ·exact gv
 intro v5
 have e5 : lstX deI v5 = tnL (bxI x0 x1 x2 x3 x4 x5) (lstX deI x6) 48 := lst_rowI
 obtain ⟨r5, hd5⟩ := tn_head (g := (⟨(bxI x0 x1 x2 x3 x4 x5), (lstX deI x6)⟩ : Gr)) gv
 have hd5 : tnL (bxI x0 x1 x2 x3 x4 x5) (lstX deI x6) 48 = 0 :: r5 := hd5
 have l5 := lstX_len deI v5
 have i5 : v5.i = ((tnL (bxI x0 x1 x2 x3 x4 x5) (lstX deI x6) 48).length : Int) := rfl
 rw [hd5, List.length_cons] at i5
 have z5 : (v5.r 0 0).i = 0 := by
  have := lxI_at (o := v5) (n := 0) (Int.le_refl 0) (by omega)
  rw [e5, hd5] at this
  exact this.symm
 have hm : ∀ j : Int, 0 ≤ j → j < v5.i → inS (⟨(bxI x0 x1 x2 x3 x4 x5), (lstX deI x6)⟩ : Gr) (v5.r j 0).i := fun j a b => el_inS gv e5 a b
 refine And.intro ?_ ?_
 ·intro h7
  omega
 refine And.intro ?_ ?_
 ·intro h9
  exact absurd h9 (not_or.2 ⟨by omega, fun h => h z5⟩)
 intro h10
 refine andI ?_ fun o11 => ?_
 ·exact ⟨⟨Int.le_refl _, by show (0 : Int) ≤ v5.i; omega⟩, rfl, fun k hk => ⟨(fun h => by cases h), (fun h => by cases h)⟩⟩
 intro x20 x21 h12 r13 p14
 obtain ⟨i0, i1, i2⟩ := p14
 have i1 : x21.i = 48 := i1
 refine And.intro ?_ ?_
 ·intro h16
  refine andI ?_ fun o17 => ?_
  ·exact h16
  refine andI ?_ fun o18 => ?_
  ·exact h16
  refine andI ?_ fun o19 => ?_
  ·exact h16
  refine andI ?_ fun o20 => ?_
  ·have := (hm _ i0.1 h16).1
   unfold inT at this
   omega
  refine andI ?_ fun o21 => ?_
  ·exact ⟨⟨by show 0 ≤ x20.i + 1; omega, by show x20.i + 1 ≤ v5.i; omega⟩, i1, fun k hk => flg_step i0.1 h16 i2 k hk⟩
  intro v22 v23
  refine andI ?_ fun o24 => ?_
  ·show v5.i + 1 - (x20.i + 1) < v5.i + 1 - x20.i
   omega
  show 0 < v5.i + 1 - x20.i
  omega
 intro h25
 have hF : flg (⟨(bxI x0 x1 x2 x3 x4 x5), (lstX deI x6)⟩ : Gr) x21 := flg_of gv fun k hk => by
  rw [i2 k hk, List.take_of_length_le (by omega), e5]
 refine andI ?_ fun o26 => ?_
 ·exact Int.le_refl _
 intro x30 h27 p28
 have p28 : 0 ≤ x30.i := p28
 refine And.intro ?_ ?_
 ·intro h30
  have s30 := hm _ p28 h30
  have s32 := inS_iv gv s30
  have q32 := s32.1
  unfold inT at q32
  refine andI ?_ fun o31 => ?_
  ·exact h30
  intro v32
  refine andI ?_ fun o33 => ?_
  ·show 0 ≤ ivB (v5.r x30.i 0).i
   omega
  refine andI ?_ fun o34 => ?_
  ·show ivB (v5.r x30.i 0).i < x21.i
   omega
  refine And.intro ?_ ?_
  ·intro h36
   exact absurd (hF _ s32) h36
  intro h37
  refine andI ?_ fun o38 => ?_
  ·exact Int.le_refl _
  intro x40 h39 p40
  have p40 : 0 ≤ x40.i := p40
  refine And.intro ?_ ?_
  ·intro h42
   have s43 := inS_cm gv s30 (hm _ p40 h42)
   have q43 := s43.1
   unfold inT at q43
   intro v43
   refine andI ?_ fun o44 => ?_
   ·show 0 ≤ cmB (v5.r x30.i 0).i (v5.r x40.i 0).i
    omega
   refine andI ?_ fun o45 => ?_
   ·show cmB (v5.r x30.i 0).i (v5.r x40.i 0).i < x21.i
    omega
   refine andI ?_ fun o46 => ?_
   ·exact h42
   refine andI ?_ fun o47 => ?_
   ·exact h30
   refine And.intro ?_ ?_
   ·intro h49
    exact absurd (hF _ s43) h49
   intro h50
   refine andI ?_ fun o51 => ?_
   ·show 0 ≤ x40.i + 1
    omega
   intro v52 v53
   refine andI ?_ fun o54 => ?_
   ·show 3000000 - (x40.i + 1) < 3000000 - x40.i
    omega
   show 0 < 3000000 - x40.i
   omega
  intro h55
  refine andI ?_ fun o56 => ?_
  ·show 0 ≤ x30.i + 1
   omega
  intro v57 v58
  refine andI ?_ fun o59 => ?_
  ·show 3000000 - (x30.i + 1) < 3000000 - x30.i
   omega
  show 0 < 3000000 - x30.i
  omega
 intro h60
 refine andI ?_ fun o61 => ?_
 ·exact ⟨⟨Int.le_refl _, by decide⟩, rfl⟩
 intro x50 x51 h62 h63 p64
 obtain ⟨j0, j1⟩ := p64
 have j1 : x51.i = (fsN (⟨(bxI x0 x1 x2 x3 x4 x5), (lstX deI x6)⟩ : Gr) x50.i.toNat : Nat) := j1
 have j2 := fsN_le (g := (⟨(bxI x0 x1 x2 x3 x4 x5), (lstX deI x6)⟩ : Gr)) x50.i.toNat
 refine And.intro ?_ ?_
 ·intro h66
  refine andI ?_ fun o67 => ?_
  ·exact gv
  intro v68 v69 v70 v71 v72 v73 v74
  have e74 : lstX deI v74 = turL (x50.i) (bxI x0 x1 x2 x3 x4 x5) (lstX deI x6) := lst_rowI
  refine andI ?_ fun o75 => ?_
  ·show validG ⟨turB (x50.i) (bxI x0 x1 x2 x3 x4 x5), lstX deI v74⟩ = true
   rw [e74]
   exact tur_val gv
  refine andI ?_ fun o76 => ?_
  ·exact ⟨⟨Int.le_refl _, j0.1⟩, frB_0.symm⟩
  intro x60 x61 h77 p78
  obtain ⟨k0, k1⟩ := p78
  have k0 : 0 ≤ x60.i ∧ x60.i ≤ x50.i := k0
  have k1 : x61.b = frB (⟨(bxI x0 x1 x2 x3 x4 x5), (lstX deI x6)⟩ : Gr) x50.i.toNat x60.i.toNat := k1
  refine And.intro ?_ ?_
  ·intro h80
   refine andI ?_ fun o81 => ?_
   ·exact gv
   intro v82 v83 v84 v85 v86 v87 v88
   have e88 : lstX deI v88 = turL (x60.i) (bxI x0 x1 x2 x3 x4 x5) (lstX deI x6) := lst_rowI
   refine andI ?_ fun o89 => ?_
   ·show validG ⟨turB (x60.i) (bxI x0 x1 x2 x3 x4 x5), lstX deI v88⟩ = true
    rw [e88]
    exact tur_val gv
   intro v90 v91 v92 v93 v94 v95 v96
   have e96 : lstX deI v96 = lstX deI v74 := lst_rowI
   intro v97 v98 v99 v100 v101 v102 v103
   have e103 : lstX deI v103 = lstX deI v88 := lst_rowI
   intro v104
   have e104 : v104.b = eqP (⟨(bxI x0 x1 x2 x3 x4 x5), (lstX deI x6)⟩ : Gr) x50.i.toNat x60.i.toNat := (show v104.b = eqG (ppB (turB x50.i (bxI x0 x1 x2 x3 x4 x5)) (lstX deI v74)) (lstX deI v96) (ppB (turB x60.i (bxI x0 x1 x2 x3 x4 x5)) (lstX deI v88)) (lstX deI v103) by kernel_rfl).trans (eqP_at e74 e88 e96 e103 j0.1 k0.1)
   refine andI ?_ fun o105 => ?_
   ·refine ⟨⟨by show 0 ≤ x60.i + 1; omega, by show x60.i + 1 ≤ x50.i; omega⟩, ?_⟩
    show (x61.b && !v104.b) = frB (⟨(bxI x0 x1 x2 x3 x4 x5), (lstX deI x6)⟩ : Gr) x50.i.toNat (x60.i + 1).toNat
    rw [show (x60.i + 1).toNat = x60.i.toNat + 1 by omega, frB_s, k1, e104]
   intro v106 v107
   refine andI ?_ fun o108 => ?_
   ·show 49 - (x60.i + 1) < 49 - x60.i
    omega
   show 0 < 49 - x60.i
   omega
  intro h109
  have hx : x60.i = x50.i := by have := k0.2; omega
  have k2 : x61.b = frB (⟨(bxI x0 x1 x2 x3 x4 x5), (lstX deI x6)⟩ : Gr) x50.i.toNat x50.i.toNat := by rw [k1, hx]
  have k3 : (bif x61.b then x51.i + 1 else x51.i) = (fsN (⟨(bxI x0 x1 x2 x3 x4 x5), (lstX deI x6)⟩ : Gr) (x50.i.toNat + 1) : Nat) := by
   rw [k2, j1]
   show _ = ((fsN (⟨(bxI x0 x1 x2 x3 x4 x5), (lstX deI x6)⟩ : Gr) x50.i.toNat + if frB (⟨(bxI x0 x1 x2 x3 x4 x5), (lstX deI x6)⟩ : Gr) x50.i.toNat x50.i.toNat = true then 1 else 0 : Nat) : Int)
   cases frB (⟨(bxI x0 x1 x2 x3 x4 x5), (lstX deI x6)⟩ : Gr) x50.i.toNat x50.i.toNat
   ·rfl
   ·simp
  refine andI ?_ fun o110 => ?_
  ·have := fsN_le (g := (⟨(bxI x0 x1 x2 x3 x4 x5), (lstX deI x6)⟩ : Gr)) (x50.i.toNat + 1)
   omega
  refine andI ?_ fun o111 => ?_
  ·refine ⟨⟨by show 0 ≤ x50.i + 1; omega, by show x50.i + 1 ≤ 48; omega⟩, ?_⟩
   show (bif x61.b then x51.i + 1 else x51.i) = ((fsN (⟨(bxI x0 x1 x2 x3 x4 x5), (lstX deI x6)⟩ : Gr) (x50.i + 1).toNat : Nat) : Int)
   rw [k3, show (x50.i + 1).toNat = x50.i.toNat + 1 by omega]
  intro v112 v113
  refine andI ?_ fun o114 => ?_
  ·show 49 - (x50.i + 1) < 49 - x50.i
   omega
  show 0 < 49 - x50.i
  omega
 intro h115
 have h48 : x50.i.toNat = 48 := by have := j0.2; omega
 rw [h48] at j1
 have hcnt : x51.i * v5.i = 48 := by
  have := fs_all (g := (⟨(bxI x0 x1 x2 x3 x4 x5), (lstX deI x6)⟩ : Gr)) gv
  have e : v5.i = ((tnL (bxI x0 x1 x2 x3 x4 x5) (lstX deI x6) 48).length : Int) := rfl
  rw [j1, e, ← Int.natCast_mul]
  show ((fsN (⟨(bxI x0 x1 x2 x3 x4 x5), (lstX deI x6)⟩ : Gr) 48 * (tnL (bxI x0 x1 x2 x3 x4 x5) (lstX deI x6) 48).length : Nat) : Int) = 48
  rw [this]
  rfl
 refine And.intro ?_ ?_
 ·refine andI ?_ fun o117 => ?_
  ·exact gv
  refine And.intro ?_ ?_
  ·intro v119 v120 v121 v122 v123 v124 v125
   have e125 : lstX deI v125 = turL (x7) (bxI x0 x1 x2 x3 x4 x5) (lstX deI x6) := lst_rowI
   refine andI ?_ fun o126 => ?_
   ·show validG ⟨turB (x7) (bxI x0 x1 x2 x3 x4 x5), lstX deI v125⟩ = true
    rw [e125]
    exact tur_val gv
   refine andI ?_ fun o127 => ?_
   ·exact gv
   intro v128 v129 v130 v131 v132 v133 v134
   have e134 : lstX deI v134 = lstX deI v125 := lst_rowI
   have b134 : (bxI v128.i v129.i v130.i v131.i v132.i v133.i) = shfB (turB x7 (bxI x0 x1 x2 x3 x4 x5)) (lstX deI v125) (x8, x9, x10) := by kernel_rfl
   have T134 : validG (⟨(bxI v128.i v129.i v130.i v131.i v132.i v133.i), lstX deI v134⟩ : Gr) = true := by rw [b134]; exact grp_val gv hk hS hP e125 e134
   have c134 : (caG (⟨(bxI x0 x1 x2 x3 x4 x5), (lstX deI x6)⟩ : Gr) 48).1 = (caG (⟨(bxI v128.i v129.i v130.i v131.i v132.i v133.i), lstX deI v134⟩ : Gr) 48).1 := by rw [b134] at T134 ⊢; exact grp_all gv hk T134 e125 e134
   clear_value v128 v129 v130 v131 v132 v133
   refine andI ?_ fun o135 => ?_
   ·exact T134
   intro v136 v137 v138 v139 v140 v141 v142
   have e142 : lstX deI v142 = (caN (bxI x0 x1 x2 x3 x4 x5) (lstX deI x6) 48).1.cs := lst_rowI
   intro v143 v144 v145 v146 v147 v148 v149
   have e149 : lstX deI v149 = (caN (⟨(bxI v128.i v129.i v130.i v131.i v132.i v133.i), lstX deI v134⟩ : Gr).bx (⟨(bxI v128.i v129.i v130.i v131.i v132.i v133.i), lstX deI v134⟩ : Gr).cs 48).1.cs := lst_rowI
   intro v150
   have e150 : v150.b = true := (show v150.b = eqG (caN (bxI x0 x1 x2 x3 x4 x5) (lstX deI x6) 48).1.bx (lstX deI v142) (caN (⟨(bxI v128.i v129.i v130.i v131.i v132.i v133.i), lstX deI v134⟩ : Gr).bx (⟨(bxI v128.i v129.i v130.i v131.i v132.i v133.i), lstX deI v134⟩ : Gr).cs 48).1.bx (lstX deI v149) by kernel_rfl).trans <| grp_eq (g := (⟨(bxI v128.i v129.i v130.i v131.i v132.i v133.i), lstX deI v134⟩ : Gr)) c134 e142 e149
   refine And.intro ?_ ?_
   ·intro h152 v153
    refine andI ?_ fun o154 => ?_
    ·exact T134
    intro v155 v156 v157 v158 v159 v160 v161
    have e161 : lstX deI v161 = turL (caN (⟨(bxI v128.i v129.i v130.i v131.i v132.i v133.i), lstX deI v134⟩ : Gr).bx (⟨(bxI v128.i v129.i v130.i v131.i v132.i v133.i), lstX deI v134⟩ : Gr).cs 48).2 (⟨(bxI v128.i v129.i v130.i v131.i v132.i v133.i), lstX deI v134⟩ : Gr).bx (⟨(bxI v128.i v129.i v130.i v131.i v132.i v133.i), lstX deI v134⟩ : Gr).cs := lst_rowI
    have b161 : (bxI v155.i v156.i v157.i v158.i v159.i v160.i) = turB (caN (⟨(bxI v128.i v129.i v130.i v131.i v132.i v133.i), lstX deI v134⟩ : Gr).bx (⟨(bxI v128.i v129.i v130.i v131.i v132.i v133.i), lstX deI v134⟩ : Gr).cs 48).2 (⟨(bxI v128.i v129.i v130.i v131.i v132.i v133.i), lstX deI v134⟩ : Gr).bx := by kernel_rfl
    have V161 : validG ⟨(bxI v155.i v156.i v157.i v158.i v159.i v160.i), lstX deI v161⟩ = true := by rw [b161, e161]; exact tur_val T134
    refine andI ?_ fun o162 => ?_
    ·exact V161
    intro v163 v164 v165 v166 v167 v168 v169
    have e169 : lstX deI v169 = lstX deI v161 := lst_rowI
    intro v170
    have e170 : v170.b = true := (show v170.b = eqG (caN (⟨(bxI v128.i v129.i v130.i v131.i v132.i v133.i), lstX deI v134⟩ : Gr).bx (⟨(bxI v128.i v129.i v130.i v131.i v132.i v133.i), lstX deI v134⟩ : Gr).cs 48).1.bx (lstX deI v149) (ppB (turB (caN (⟨(bxI v128.i v129.i v130.i v131.i v132.i v133.i), lstX deI v134⟩ : Gr).bx (⟨(bxI v128.i v129.i v130.i v131.i v132.i v133.i), lstX deI v134⟩ : Gr).cs 48).2 (⟨(bxI v128.i v129.i v130.i v131.i v132.i v133.i), lstX deI v134⟩ : Gr).bx) (lstX deI v161)) (lstX deI v169) by kernel_rfl).trans <| grp_pat (g := (⟨(bxI v128.i v129.i v130.i v131.i v132.i v133.i), lstX deI v134⟩ : Gr)) T134 e149 e161 e169
    refine And.intro ?_ ?_
    ·intro h172
     exact ⟨gv, T134⟩
    intro v173
    have e173 : v173.b = true := (show v173.b = lkB (bxI x0 x1 x2 x3 x4 x5) (lstX deI x6) (⟨(bxI v128.i v129.i v130.i v131.i v132.i v133.i), lstX deI v134⟩ : Gr).bx (⟨(bxI v128.i v129.i v130.i v131.i v132.i v133.i), lstX deI v134⟩ : Gr).cs by kernel_rfl).trans <| grp_lk (g := (⟨(bxI v128.i v129.i v130.i v131.i v132.i v133.i), lstX deI v134⟩ : Gr)) c134
    exact ⟨⟨e170, e173⟩, hcnt⟩
   intro h174
   exact absurd e150 h174
  intro v175 v176 v177 v178 v179 v180 v181
  have e181 : lstX deI v181 = turL (x7) (bxI x0 x1 x2 x3 x4 x5) (lstX deI x6) := lst_rowI
  refine andI ?_ fun o182 => ?_
  ·show validG ⟨turB (x7) (bxI x0 x1 x2 x3 x4 x5), lstX deI v181⟩ = true
   rw [e181]
   exact tur_val gv
  refine andI ?_ fun o183 => ?_
  ·exact gv
  intro v184 v185 v186 v187 v188 v189 v190
  have e190 : lstX deI v190 = lstX deI v181 := lst_rowI
  have b190 : (bxI v184.i v185.i v186.i v187.i v188.i v189.i) = shfB (turB x7 (bxI x0 x1 x2 x3 x4 x5)) (lstX deI v181) (x8, x9, x10) := by kernel_rfl
  have T190 : validG (⟨(bxI v184.i v185.i v186.i v187.i v188.i v189.i), lstX deI v190⟩ : Gr) = true := by rw [b190]; exact grp_val gv hk hS hP e181 e190
  have c190 : (caG (⟨(bxI x0 x1 x2 x3 x4 x5), (lstX deI x6)⟩ : Gr) 48).1 = (caG (⟨(bxI v184.i v185.i v186.i v187.i v188.i v189.i), lstX deI v190⟩ : Gr) 48).1 := by rw [b190] at T190 ⊢; exact grp_all gv hk T190 e181 e190
  clear_value v184 v185 v186 v187 v188 v189
  refine andI ?_ fun o191 => ?_
  ·exact T190
  intro v192 v193 v194 v195 v196 v197 v198
  have e198 : lstX deI v198 = (caN (bxI x0 x1 x2 x3 x4 x5) (lstX deI x6) 48).1.cs := lst_rowI
  intro v199 v200 v201 v202 v203 v204 v205
  have e205 : lstX deI v205 = (caN (⟨(bxI v184.i v185.i v186.i v187.i v188.i v189.i), lstX deI v190⟩ : Gr).bx (⟨(bxI v184.i v185.i v186.i v187.i v188.i v189.i), lstX deI v190⟩ : Gr).cs 48).1.cs := lst_rowI
  intro v206
  have e206 : v206.b = true := (show v206.b = eqG (caN (bxI x0 x1 x2 x3 x4 x5) (lstX deI x6) 48).1.bx (lstX deI v198) (caN (⟨(bxI v184.i v185.i v186.i v187.i v188.i v189.i), lstX deI v190⟩ : Gr).bx (⟨(bxI v184.i v185.i v186.i v187.i v188.i v189.i), lstX deI v190⟩ : Gr).cs 48).1.bx (lstX deI v205) by kernel_rfl).trans <| grp_eq (g := (⟨(bxI v184.i v185.i v186.i v187.i v188.i v189.i), lstX deI v190⟩ : Gr)) c190 e198 e205
  refine And.intro ?_ ?_
  ·intro h208 v209
   refine andI ?_ fun o210 => ?_
   ·exact T190
   intro v211 v212 v213 v214 v215 v216 v217
   have e217 : lstX deI v217 = turL (caN (⟨(bxI v184.i v185.i v186.i v187.i v188.i v189.i), lstX deI v190⟩ : Gr).bx (⟨(bxI v184.i v185.i v186.i v187.i v188.i v189.i), lstX deI v190⟩ : Gr).cs 48).2 (⟨(bxI v184.i v185.i v186.i v187.i v188.i v189.i), lstX deI v190⟩ : Gr).bx (⟨(bxI v184.i v185.i v186.i v187.i v188.i v189.i), lstX deI v190⟩ : Gr).cs := lst_rowI
   have b217 : (bxI v211.i v212.i v213.i v214.i v215.i v216.i) = turB (caN (⟨(bxI v184.i v185.i v186.i v187.i v188.i v189.i), lstX deI v190⟩ : Gr).bx (⟨(bxI v184.i v185.i v186.i v187.i v188.i v189.i), lstX deI v190⟩ : Gr).cs 48).2 (⟨(bxI v184.i v185.i v186.i v187.i v188.i v189.i), lstX deI v190⟩ : Gr).bx := by kernel_rfl
   have V217 : validG ⟨(bxI v211.i v212.i v213.i v214.i v215.i v216.i), lstX deI v217⟩ = true := by rw [b217, e217]; exact tur_val T190
   refine andI ?_ fun o218 => ?_
   ·exact V217
   intro v219 v220 v221 v222 v223 v224 v225
   have e225 : lstX deI v225 = lstX deI v217 := lst_rowI
   intro v226
   have e226 : v226.b = true := (show v226.b = eqG (caN (⟨(bxI v184.i v185.i v186.i v187.i v188.i v189.i), lstX deI v190⟩ : Gr).bx (⟨(bxI v184.i v185.i v186.i v187.i v188.i v189.i), lstX deI v190⟩ : Gr).cs 48).1.bx (lstX deI v205) (ppB (turB (caN (⟨(bxI v184.i v185.i v186.i v187.i v188.i v189.i), lstX deI v190⟩ : Gr).bx (⟨(bxI v184.i v185.i v186.i v187.i v188.i v189.i), lstX deI v190⟩ : Gr).cs 48).2 (⟨(bxI v184.i v185.i v186.i v187.i v188.i v189.i), lstX deI v190⟩ : Gr).bx) (lstX deI v217)) (lstX deI v225) by kernel_rfl).trans <| grp_pat (g := (⟨(bxI v184.i v185.i v186.i v187.i v188.i v189.i), lstX deI v190⟩ : Gr)) T190 e205 e217 e225
   refine And.intro ?_ ?_
   ·intro h228
    exact ⟨gv, T190⟩
   intro v229
   have e229 : v229.b = true := (show v229.b = lkB (bxI x0 x1 x2 x3 x4 x5) (lstX deI x6) (⟨(bxI v184.i v185.i v186.i v187.i v188.i v189.i), lstX deI v190⟩ : Gr).bx (⟨(bxI v184.i v185.i v186.i v187.i v188.i v189.i), lstX deI v190⟩ : Gr).cs by kernel_rfl).trans <| grp_lk (g := (⟨(bxI v184.i v185.i v186.i v187.i v188.i v189.i), lstX deI v190⟩ : Gr)) c190
   exact ⟨⟨e226, e229⟩, hcnt⟩
  intro h230
  exact absurd e206 h230
 refine andI ?_ fun o231 => ?_
 ·exact gv
 intro v232 v233 v234 v235 v236 v237 v238
 have e238 : lstX deI v238 = turL (x7) (bxI x0 x1 x2 x3 x4 x5) (lstX deI x6) := lst_rowI
 refine andI ?_ fun o239 => ?_
 ·show validG ⟨turB (x7) (bxI x0 x1 x2 x3 x4 x5), lstX deI v238⟩ = true
  rw [e238]
  exact tur_val gv
 refine andI ?_ fun o240 => ?_
 ·exact gv
 intro v241 v242 v243 v244 v245 v246 v247
 have e247 : lstX deI v247 = lstX deI v238 := lst_rowI
 have b247 : (bxI v241.i v242.i v243.i v244.i v245.i v246.i) = shfB (turB x7 (bxI x0 x1 x2 x3 x4 x5)) (lstX deI v238) (x8, x9, x10) := by kernel_rfl
 have T247 : validG (⟨(bxI v241.i v242.i v243.i v244.i v245.i v246.i), lstX deI v247⟩ : Gr) = true := by rw [b247]; exact grp_val gv hk hS hP e238 e247
 have c247 : (caG (⟨(bxI x0 x1 x2 x3 x4 x5), (lstX deI x6)⟩ : Gr) 48).1 = (caG (⟨(bxI v241.i v242.i v243.i v244.i v245.i v246.i), lstX deI v247⟩ : Gr) 48).1 := by rw [b247] at T247 ⊢; exact grp_all gv hk T247 e238 e247
 clear_value v241 v242 v243 v244 v245 v246
 refine andI ?_ fun o248 => ?_
 ·exact T247
 intro v249 v250 v251 v252 v253 v254 v255
 have e255 : lstX deI v255 = (caN (bxI x0 x1 x2 x3 x4 x5) (lstX deI x6) 48).1.cs := lst_rowI
 intro v256 v257 v258 v259 v260 v261 v262
 have e262 : lstX deI v262 = (caN (⟨(bxI v241.i v242.i v243.i v244.i v245.i v246.i), lstX deI v247⟩ : Gr).bx (⟨(bxI v241.i v242.i v243.i v244.i v245.i v246.i), lstX deI v247⟩ : Gr).cs 48).1.cs := lst_rowI
 intro v263
 have e263 : v263.b = true := (show v263.b = eqG (caN (bxI x0 x1 x2 x3 x4 x5) (lstX deI x6) 48).1.bx (lstX deI v255) (caN (⟨(bxI v241.i v242.i v243.i v244.i v245.i v246.i), lstX deI v247⟩ : Gr).bx (⟨(bxI v241.i v242.i v243.i v244.i v245.i v246.i), lstX deI v247⟩ : Gr).cs 48).1.bx (lstX deI v262) by kernel_rfl).trans <| grp_eq (g := (⟨(bxI v241.i v242.i v243.i v244.i v245.i v246.i), lstX deI v247⟩ : Gr)) c247 e255 e262
 refine And.intro ?_ ?_
 ·intro h265 v266
  refine andI ?_ fun o267 => ?_
  ·exact T247
  intro v268 v269 v270 v271 v272 v273 v274
  have e274 : lstX deI v274 = turL (caN (⟨(bxI v241.i v242.i v243.i v244.i v245.i v246.i), lstX deI v247⟩ : Gr).bx (⟨(bxI v241.i v242.i v243.i v244.i v245.i v246.i), lstX deI v247⟩ : Gr).cs 48).2 (⟨(bxI v241.i v242.i v243.i v244.i v245.i v246.i), lstX deI v247⟩ : Gr).bx (⟨(bxI v241.i v242.i v243.i v244.i v245.i v246.i), lstX deI v247⟩ : Gr).cs := lst_rowI
  have b274 : (bxI v268.i v269.i v270.i v271.i v272.i v273.i) = turB (caN (⟨(bxI v241.i v242.i v243.i v244.i v245.i v246.i), lstX deI v247⟩ : Gr).bx (⟨(bxI v241.i v242.i v243.i v244.i v245.i v246.i), lstX deI v247⟩ : Gr).cs 48).2 (⟨(bxI v241.i v242.i v243.i v244.i v245.i v246.i), lstX deI v247⟩ : Gr).bx := by kernel_rfl
  have V274 : validG ⟨(bxI v268.i v269.i v270.i v271.i v272.i v273.i), lstX deI v274⟩ = true := by rw [b274, e274]; exact tur_val T247
  refine andI ?_ fun o275 => ?_
  ·exact V274
  intro v276 v277 v278 v279 v280 v281 v282
  have e282 : lstX deI v282 = lstX deI v274 := lst_rowI
  intro v283
  have e283 : v283.b = true := (show v283.b = eqG (caN (⟨(bxI v241.i v242.i v243.i v244.i v245.i v246.i), lstX deI v247⟩ : Gr).bx (⟨(bxI v241.i v242.i v243.i v244.i v245.i v246.i), lstX deI v247⟩ : Gr).cs 48).1.bx (lstX deI v262) (ppB (turB (caN (⟨(bxI v241.i v242.i v243.i v244.i v245.i v246.i), lstX deI v247⟩ : Gr).bx (⟨(bxI v241.i v242.i v243.i v244.i v245.i v246.i), lstX deI v247⟩ : Gr).cs 48).2 (⟨(bxI v241.i v242.i v243.i v244.i v245.i v246.i), lstX deI v247⟩ : Gr).bx) (lstX deI v274)) (lstX deI v282) by kernel_rfl).trans <| grp_pat (g := (⟨(bxI v241.i v242.i v243.i v244.i v245.i v246.i), lstX deI v247⟩ : Gr)) T247 e262 e274 e282
  refine And.intro ?_ ?_
  ·intro h285
   exact ⟨gv, T247⟩
  intro v286
  have e286 : v286.b = true := (show v286.b = lkB (bxI x0 x1 x2 x3 x4 x5) (lstX deI x6) (⟨(bxI v241.i v242.i v243.i v244.i v245.i v246.i), lstX deI v247⟩ : Gr).bx (⟨(bxI v241.i v242.i v243.i v244.i v245.i v246.i), lstX deI v247⟩ : Gr).cs by kernel_rfl).trans <| grp_lk (g := (⟨(bxI v241.i v242.i v243.i v244.i v245.i v246.i), lstX deI v247⟩ : Gr)) c247
  exact ⟨⟨e283, e286⟩, hcnt⟩
 intro h287
 exact absurd e263 h287
theorem shape_flat : flatR sh = [.int .i64 (-9223372036854775808) 9223372036854775807, .int .i64 (-9223372036854775808) 9223372036854775807, .int .i64 (-9223372036854775808) 9223372036854775807, .int .i64 (-9223372036854775808) 9223372036854775807, .int .i64 (-9223372036854775808) 9223372036854775807, .int .i64 (-9223372036854775808) 9223372036854775807, .row [.int .i64 (-9223372036854775808) (9223372036854775807)] 9223372036854775807, .int .i64 (-9223372036854775808) 9223372036854775807, .int .i64 (-9223372036854775808) 9223372036854775807, .int .i64 (-9223372036854775808) 9223372036854775807, .int .i64 (-9223372036854775808) 9223372036854775807] := by kernel_rfl
theorem lawful (ds : Ds) (hr : rshX sh ds) : (walkR Tryz.prog (cfO (some Ff) L20zd R20zd lpGrp sumC) Tryz.f6 1000 sh).law { ρ0 with x := fun j => ds.getD j (xI 0) } := by
 have hr := rshX_flat hr
 rw [shape_flat] at hr
 match ds, hr with
 | [d0, d1, d2, d3, d4, d5, d6, d7, d8, d9, d10], hr =>
  obtain ⟨⟨e0, l0, u0⟩, ⟨e1, l1, u1⟩, ⟨e2, l2, u2⟩, ⟨e3, l3, u3⟩, ⟨e4, l4, u4⟩, ⟨e5, l5, u5⟩, l6, ⟨e7, l7, u7⟩, ⟨e8, l8, u8⟩, ⟨e9, l9, u9⟩, ⟨e10, l10, u10⟩, _⟩ := hr
  generalize d0.i = x0, d1.i = x1, d2.i = x2, d3.i = x3, d4.i = x4, d5.i = x5, d6 = x6, d7.i = x7, d8.i = x8, d9.i = x9, d10.i = x10 at *
  subst e0 e1 e2 e3 e4 e5 e7 e8 e9 e10
  exact Eq.mpr (link x0 x1 x2 x3 x4 x5 x6 x7 x8 x9 x10) (lawP_ok x0 x1 x2 x3 x4 x5 x6 x7 x8 x9 x10 ⟨l0, u0⟩ ⟨l1, u1⟩ ⟨l2, u2⟩ ⟨l3, u3⟩ ⟨l4, u4⟩ ⟨l5, u5⟩ l6 ⟨l7, u7⟩ ⟨l8, u8⟩ ⟨l9, u9⟩ ⟨l10, u10⟩)
theorem shape {H : Type} {ds : List (DataW H)} (h : ds.length = 3) : Rows.stencilTurnsAreAGroupSpec.fn H ds = { results := [.lit (.bool true)], args := ds } := by
 match ds, h with
 | [d1, d2, d3], _ => rfl
set_option maxRecDepth 100000 in
theorem calls {H : Type} {enc : TypeId × Value → H} (W : World) (base : Nat) (args : Array Value) (ds : List (DataW H)) (p : List MemPlace) (hval : ∀ (j : Nat) t v, Tryz.f6.params[j]? = some t → args[j]? = some v → Value.okWide Tryz.prog W .any base t v)
 (hA : DataW.TrodAll enc Tryz.prog W 0 (fun _ => true) true Tryz.f6.params.toList args.toList ds p) (hg : GlobOk ρ0.g W.heap.size W) : Calls Tryz.prog 6 args W fun e w' => e = .returned (.bool true) ∧ Below W.heap.size W w' := by
 rw [Tryz.params6] at hA hval
 have hs : shTs Tryz.prog [28, 3, 23] = some sh := by
  have : (shTs Tryz.prog [28, 3, 23]).isSome = true := by kernel_rfl
  obtain ⟨s, h⟩ := Option.isSome_iff_exists.1 this
  unfold sh
  rw [h]; rfl
 obtain ⟨ds', hr⟩ := args_rel hA (fun i t v ht hv => hval i t v (by simpa using ht) (by simpa using hv)) hs
 have := law_callsR (L20zd_ok) Tryz.func6 rfl 1000 hg hr lawful
 simpa using this
set_option maxRecDepth 100000 in
theorem lifted (os : Os) (started : os.Started) (H : Type) (enc : TypeId × Value → H) :
 ReturnsInHanded {} Tryz.checked os 6 .any (fun w args => (Rows.stencilTurnsAreAGroupSpec.pre enc Tryz.prog Tryz.f6 [] false w args ∧ laidMetH Tryz.prog [("voxel/point.axes", Rows.laid_voxel_point_axes)] w) ∧ sizedMet enc Tryz.prog Tryz.f6 (OpenSpec.ofChange Rows.stencilTurnsAreAGroupSpec) false w args)
  (Rows.stencilTurnsAreAGroupSpec.post enc Tryz.prog Tryz.f6 false true false false) := by
 refine returnsInHanded_of_change_and (C := Tryz.checked) (X := fun w _ => laidMetH Tryz.prog [("voxel/point.axes", Rows.laid_voxel_point_axes)] w) (fun _ _ _ hh h => h.of_heap hh) own started (by kernel_rfl) Tryz.func6
  (ChangeSpec.witness_shaped (enc := enc) (C := Tryz.checked) (os := os) (X := fun w _ => laidMetH Tryz.prog [("voxel/point.axes", Rows.laid_voxel_point_axes)] w) false (World.doorLaid Tryz.prog 400 os) #[((Tryz.prog.info? 28).bind (·.zero)).getD undef, ((Tryz.prog.info? 3).bind (·.zero)).getD undef, ((Tryz.prog.info? 23).bind (·.zero)).getD undef] 8 rfl (World.shaped_of_RefB (by kernel_rfl) (by kernel_rfl)) (by kernel_rfl) (by kernel_rfl) (by kernel_rfl) (door_met os _)) ?_
 intro W base args ds gs before hval hW _ _ hL _
 have hW0 := hW
 obtain ⟨p, q, hA, hV, _⟩ := hW0
 have hlen : ds.length = 3 := (trodAll_len hA).trans (by kernel_rfl)
 refine (calls W base args ds p hval hA (glob_ok hL)).mono fun e W' ⟨he, hb⟩ => ?_
 subst he
 exact ⟨_, rfl, law_post kids slices (by rw [Tryz.params6]; decide +kernel) rfl rfl Tryz.underlying4 (shape hlen) hW hb⟩
theorem over : Rows.StencilTurnsAreAGroupSaid :=
 OpenClaim.holds_of_wide 6 Tryz.f6 rfl rfl rfl rfl rfl rfl rfl ⟨rfl, rfl, rfl, rfl, rfl⟩ rfl rfl rfl rfl rfl (by kernel_rfl) Tryz.func6 (by kernel_rfl)
  (of_decide_eq_true (by kernel_rfl)) (by unfold Func.isWrapper; first | (rw [if_pos (by decide +kernel)]; kernel_rfl) | (rw [if_neg (by decide +kernel)]; exact ⟨rfl, rfl⟩))
  (fun os started H enc _ => lifted os started H enc)
theorem proved : Rows.StencilTurnsAreAGroupCardSaid :=
 Claim7.holds_tied_plain_at .later [] [.data] true (true, "936f70b05c3747b5be2f074d4c150df06903d0dfa610a7c395a2b8dac20d7423") false
  over (fun _ h => by cases h) (by kernel_rfl) (fun _ h => by cases h) stencilTurnsAreAGroup_row_tie rfl ⟨rfl, rfl⟩ (by kernel_rfl) rfl
  (fun f fn hf hfn => by
    obtain rfl : f = 6 := Option.some.inj ((show Tryz.prog.funcNamed "voxel/voxellaw20.StencilTurnsAreAGroup" = some 6 by kernel_rfl).symm.trans hf) |>.symm
    obtain rfl : fn = Tryz.f6 := (Option.some.inj (Tryz.func6.symm.trans hfn)).symm
    exact ⟨by kernel_rfl, fun j t ht => by
     rw [Tryz.params6] at ht
     have hm : t ∈ [28, 3, 23] := by simpa using Array.mem_of_getElem? ht
     have hall : ([28, 3, 23].all fun u => !Tryz.prog.wantsStandIn u) = true := by kernel_rfl
     exact (show Tryz.prog.wantsStandIn t = false by simpa using List.all_eq_true.1 hall t hm)⟩)
  (by kernel_rfl)
#print axioms proved
end Go.Proofs.YtaacclebncplbaaGreatDoor.stencilTurnsAreAGroup
