/- Proved: GridMatchesSpec: the statement 'GridMatchesSpecCardSaid' of this seat, for every input that it names; no condition besides. -/
import Derived.Test.YtleapeclbkclaaaGreatDoorC07Vc
import Derived.Test.YtleapeclbkclaaaGreatDoorC07Za
import Derived.Test.YtleapeclbkclaaaGreatDoorRows
import Derived.Test.YtleapeclbkclaaaGreatDoorCards
import Derived.Test.YtleapeclbkclaaaGreatDoorTie
import Derived.SevenTiedAt
import Derived.ProofKit
import Derived.LaidMore
import Derived.Stop.Joined
namespace Go.Proofs.YtleapeclbkclaaaGreatDoor.gridMatchesSpec
open Go Go.ChangeShapes Go.WideShapes Go.ChangeAt Go.RowKit Vc
set_option linter.unusedVariables false


/-- The law's walk, as the machine leaves it. -/
def lawP (x0 : Int) (x1 : Int) (x2 : Int) (x3 : Int) (x4 : Int) (x5 : Int) (x6 : X) (x7 : Int) (x8 : Int) (x9 : Int) (x10 : Int) (x11 : Int) (x12 : Int) (x13 : X) (x14 : Int) (x15 : Int) (x16 : Int) (x17 : Int) (x18 : Int) (x19 : Int) (x20 : Int) (x21 : Int) (x22 : Int) (x23 : Int) (x24 : Int) (x25 : X) : Prop :=
(let v0 : X := Ff 700 [(xI x0), (xI x1), (xI x2), (xI x3), (xI x4), (xI x5), x6]; (((¬ ((1000 < x6.i) ∨ (¬ (v0.b = true)))) →
((((x0 < (-10000)) ∨ (10000 < x0)) →
(true = true)) ∧
((¬ ((x0 < (-10000)) ∨ (10000 < x0))) →
((((x1 < (-10000)) ∨ (10000 < x1)) →
(true = true)) ∧
((¬ ((x1 < (-10000)) ∨ (10000 < x1))) →
((((x2 < (-10000)) ∨ (10000 < x2)) →
(true = true)) ∧
((¬ ((x2 < (-10000)) ∨ (10000 < x2))) →
((((x3 < (-10000)) ∨ (10000 < x3)) →
(true = true)) ∧
((¬ ((x3 < (-10000)) ∨ (10000 < x3))) →
((((x4 < (-10000)) ∨ (10000 < x4)) →
(true = true)) ∧
((¬ ((x4 < (-10000)) ∨ (10000 < x4))) →
((((x5 < (-10000)) ∨ (10000 < x5)) →
(true = true)) ∧
((¬ ((x5 < (-10000)) ∨ (10000 < x5))) →
(let v21 : X := Ff 700 [(xI x7), (xI x8), (xI x9), (xI x10), (xI x11), (xI x12), x13]; (((¬ ((1000 < x13.i) ∨ (¬ (v21.b = true)))) →
((((x7 < (-10000)) ∨ (10000 < x7)) →
(true = true)) ∧
((¬ ((x7 < (-10000)) ∨ (10000 < x7))) →
((((x8 < (-10000)) ∨ (10000 < x8)) →
(true = true)) ∧
((¬ ((x8 < (-10000)) ∨ (10000 < x8))) →
((((x9 < (-10000)) ∨ (10000 < x9)) →
(true = true)) ∧
((¬ ((x9 < (-10000)) ∨ (10000 < x9))) →
((((x10 < (-10000)) ∨ (10000 < x10)) →
(true = true)) ∧
((¬ ((x10 < (-10000)) ∨ (10000 < x10))) →
((((x11 < (-10000)) ∨ (10000 < x11)) →
(true = true)) ∧
((¬ ((x11 < (-10000)) ∨ (10000 < x11))) →
((((x12 < (-10000)) ∨ (10000 < x12)) →
(true = true)) ∧
((¬ ((x12 < (-10000)) ∨ (10000 < x12))) →
((((x14 < (-10000)) ∨ (10000 < x14)) →
(true = true)) ∧
((¬ ((x14 < (-10000)) ∨ (10000 < x14))) →
((((x15 < (-10000)) ∨ (10000 < x15)) →
(true = true)) ∧
((¬ ((x15 < (-10000)) ∨ (10000 < x15))) →
((((x16 < (-10000)) ∨ (10000 < x16)) →
(true = true)) ∧
((¬ ((x16 < (-10000)) ∨ (10000 < x16))) →
((((x17 < (-10000)) ∨ (10000 < x17)) →
(true = true)) ∧
((¬ ((x17 < (-10000)) ∨ (10000 < x17))) →
((((x18 < (-10000)) ∨ (10000 < x18)) →
(true = true)) ∧
((¬ ((x18 < (-10000)) ∨ (10000 < x18))) →
((((x19 < (-10000)) ∨ (10000 < x19)) →
(true = true)) ∧
((¬ ((x19 < (-10000)) ∨ (10000 < x19))) →
((((x20 < (-10000)) ∨ (10000 < x20)) →
(true = true)) ∧
((¬ ((x20 < (-10000)) ∨ (10000 < x20))) →
((((x21 < (-10000)) ∨ (10000 < x21)) →
(true = true)) ∧
((¬ ((x21 < (-10000)) ∨ (10000 < x21))) →
((((x22 < (-10000)) ∨ (10000 < x22)) →
(true = true)) ∧
((¬ ((x22 < (-10000)) ∨ (10000 < x22))) →
(((((100 < x25.i) ∨ (x23 < 0)) ∨ (255 < x23)) →
(true = true)) ∧
((¬ (((100 < x25.i) ∨ (x23 < 0)) ∨ (255 < x23))) →
(Px 991 [x25, (xI 0)] ∧
(∀ x30 : X, (((0 ≤ x30.i) ∧ (x30.i ≤ 101)) →
(Px 991 [x25, x30] →
(((x30.i < x25.i) →
((x30.i < x25.i) ∧
(((((x25.r x30.i 0).i < (-10000)) ∨ (10000 < (x25.r x30.i 0).i)) →
(true = true)) ∧
((¬ (((x25.r x30.i 0).i < (-10000)) ∨ (10000 < (x25.r x30.i 0).i))) →
(((((x25.r x30.i 1).i < (-10000)) ∨ (10000 < (x25.r x30.i 1).i)) →
(true = true)) ∧
((¬ (((x25.r x30.i 1).i < (-10000)) ∨ (10000 < (x25.r x30.i 1).i))) →
(((((x25.r x30.i 2).i < (-10000)) ∨ (10000 < (x25.r x30.i 2).i)) →
(true = true)) ∧
((¬ (((x25.r x30.i 2).i < (-10000)) ∨ (10000 < (x25.r x30.i 2).i))) →
(((¬ ((0 ≤ (x25.r x30.i 4).i) ∧ ((x25.r x30.i 4).i < 256))) →
(true = true)) ∧
(((0 ≤ (x25.r x30.i 4).i) ∧ ((x25.r x30.i 4).i < 256)) →
(Px 991 [x25, (xI (x30.i + 1))] ∧
(let v91 : X := Ff 991 [x25, (xI (x30.i + 1))]; let v92 : X := Ff 991 [x25, x30]; ((v91.i < v92.i) ∧
(0 < v92.i)))))))))))))) ∧
((¬ (x30.i < x25.i)) →
(Px 710 [(xI x0), (xI x1), (xI x2), (xI x3), (xI x4), (xI x5), x6, (xI x20), (xI x21), (xI x22), (xI x23)] ∧
(Px 710 [(xI x0), (xI x1), (xI x2), (xI x3), (xI x4), (xI x5), x6, (xI x20), (xI x21), (xI x22), (xI x23)] ∧
(Px 710 [(xI x0), (xI x1), (xI x2), (xI x3), (xI x4), (xI x5), x6, (xI x20), (xI x21), (xI x22)] ∧
(Px 710 [(xI x0), (xI x1), (xI x2), (xI x3), (xI x4), (xI x5), x6, (xI x20), (xI x21), (xI x22)] ∧
(let v99 : X := Ff 701 [(xI x0), (xI x1), (xI x2), (xI x3), (xI x4), (xI x5), x6, (xI x20), (xI x21), (xI x22), (xI x23)]; let v100 : X := Ff 702 [(xI x0), (xI x1), (xI x2), (xI x3), (xI x4), (xI x5), x6, (xI x20), (xI x21), (xI x22), (xI x23)]; let v101 : X := Ff 703 [(xI x0), (xI x1), (xI x2), (xI x3), (xI x4), (xI x5), x6, (xI x20), (xI x21), (xI x22), (xI x23)]; let v102 : X := Ff 704 [(xI x0), (xI x1), (xI x2), (xI x3), (xI x4), (xI x5), x6, (xI x20), (xI x21), (xI x22), (xI x23)]; let v103 : X := Ff 705 [(xI x0), (xI x1), (xI x2), (xI x3), (xI x4), (xI x5), x6, (xI x20), (xI x21), (xI x22), (xI x23)]; let v104 : X := Ff 706 [(xI x0), (xI x1), (xI x2), (xI x3), (xI x4), (xI x5), x6, (xI x20), (xI x21), (xI x22), (xI x23)]; let v105 : X := Ff 707 [(xI x0), (xI x1), (xI x2), (xI x3), (xI x4), (xI x5), x6, (xI x20), (xI x21), (xI x22), (xI x23)]; let v106 : X := Ff 715 [(xI v99.i), (xI v100.i), (xI v101.i), (xI v102.i), (xI v103.i), (xI v104.i), v105, (xI v99.i), (xI v100.i), (xI v101.i), (xI v102.i), (xI v103.i), (xI v104.i), v105]; (((v106.b = true) →
(Px 917 [(xI x0), (xI x1), (xI x2), (xI x3), (xI x4), (xI x5), x6, x25] ∧
(Px 917 [(xI x0), (xI x1), (xI x2), (xI x3), (xI x4), (xI x5), x6, x25] ∧
(let v111 : X := Ff 910 [(xI x0), (xI x1), (xI x2), (xI x3), (xI x4), (xI x5), x6, x25]; let v112 : X := Ff 911 [(xI x0), (xI x1), (xI x2), (xI x3), (xI x4), (xI x5), x6, x25]; let v113 : X := Ff 912 [(xI x0), (xI x1), (xI x2), (xI x3), (xI x4), (xI x5), x6, x25]; let v114 : X := Ff 913 [(xI x0), (xI x1), (xI x2), (xI x3), (xI x4), (xI x5), x6, x25]; let v115 : X := Ff 914 [(xI x0), (xI x1), (xI x2), (xI x3), (xI x4), (xI x5), x6, x25]; let v116 : X := Ff 915 [(xI x0), (xI x1), (xI x2), (xI x3), (xI x4), (xI x5), x6, x25]; let v117 : X := Ff 916 [(xI x0), (xI x1), (xI x2), (xI x3), (xI x4), (xI x5), x6, x25]; let v118 : X := Ff 715 [(xI v111.i), (xI v112.i), (xI v113.i), (xI v114.i), (xI v115.i), (xI v116.i), v117, (xI v111.i), (xI v112.i), (xI v113.i), (xI v114.i), (xI v115.i), (xI v116.i), v117]; (((v118.b = true) →
(Px 994 [(xI x0), (xI x1), (xI x2), (xI x3), (xI x4), (xI x5), x6, (xI x14), (xI x15), (xI x16), (xI x17), (xI x18), (xI x19), (xI x23)] ∧
(Px 994 [(xI x0), (xI x1), (xI x2), (xI x3), (xI x4), (xI x5), x6, (xI x14), (xI x15), (xI x16), (xI x17), (xI x18), (xI x19), (xI x23)] ∧
(let v123 : X := Ff 920 [(xI x0), (xI x1), (xI x2), (xI x3), (xI x4), (xI x5), x6, (xI x14), (xI x15), (xI x16), (xI x17), (xI x18), (xI x19), (xI x23)]; let v124 : X := Ff 921 [(xI x0), (xI x1), (xI x2), (xI x3), (xI x4), (xI x5), x6, (xI x14), (xI x15), (xI x16), (xI x17), (xI x18), (xI x19), (xI x23)]; let v125 : X := Ff 922 [(xI x0), (xI x1), (xI x2), (xI x3), (xI x4), (xI x5), x6, (xI x14), (xI x15), (xI x16), (xI x17), (xI x18), (xI x19), (xI x23)]; let v126 : X := Ff 923 [(xI x0), (xI x1), (xI x2), (xI x3), (xI x4), (xI x5), x6, (xI x14), (xI x15), (xI x16), (xI x17), (xI x18), (xI x19), (xI x23)]; let v127 : X := Ff 924 [(xI x0), (xI x1), (xI x2), (xI x3), (xI x4), (xI x5), x6, (xI x14), (xI x15), (xI x16), (xI x17), (xI x18), (xI x19), (xI x23)]; let v128 : X := Ff 925 [(xI x0), (xI x1), (xI x2), (xI x3), (xI x4), (xI x5), x6, (xI x14), (xI x15), (xI x16), (xI x17), (xI x18), (xI x19), (xI x23)]; let v129 : X := Ff 926 [(xI x0), (xI x1), (xI x2), (xI x3), (xI x4), (xI x5), x6, (xI x14), (xI x15), (xI x16), (xI x17), (xI x18), (xI x19), (xI x23)]; let v130 : X := Ff 715 [(xI v123.i), (xI v124.i), (xI v125.i), (xI v126.i), (xI v127.i), (xI v128.i), v129, (xI v123.i), (xI v124.i), (xI v125.i), (xI v126.i), (xI v127.i), (xI v128.i), v129]; (((v130.b = true) →
(Px 711 [(xI x0), (xI x1), (xI x2), (xI x3), (xI x4), (xI x5), x6, (xI x7), (xI x8), (xI x9), (xI x10), (xI x11), (xI x12), x13] ∧
(Px 711 [(xI x0), (xI x1), (xI x2), (xI x3), (xI x4), (xI x5), x6, (xI x7), (xI x8), (xI x9), (xI x10), (xI x11), (xI x12), x13] ∧
(Px 710 [(xI x0), (xI x1), (xI x2), (xI x3), (xI x4), (xI x5), x6, (xI x20), (xI x21), (xI x22)] ∧
(Px 710 [(xI x0), (xI x1), (xI x2), (xI x3), (xI x4), (xI x5), x6, (xI x20), (xI x21), (xI x22)] ∧
(let v137 : X := Ff 930 [(xI x0), (xI x1), (xI x2), (xI x3), (xI x4), (xI x5), x6, (xI x20), (xI x21), (xI x22)]; let v138 : X := Ff 931 [(xI x0), (xI x1), (xI x2), (xI x3), (xI x4), (xI x5), x6, (xI x20), (xI x21), (xI x22)]; let v139 : X := Ff 932 [(xI x0), (xI x1), (xI x2), (xI x3), (xI x4), (xI x5), x6, (xI x20), (xI x21), (xI x22)]; let v140 : X := Ff 933 [(xI x0), (xI x1), (xI x2), (xI x3), (xI x4), (xI x5), x6, (xI x20), (xI x21), (xI x22)]; let v141 : X := Ff 934 [(xI x0), (xI x1), (xI x2), (xI x3), (xI x4), (xI x5), x6, (xI x20), (xI x21), (xI x22)]; let v142 : X := Ff 935 [(xI x0), (xI x1), (xI x2), (xI x3), (xI x4), (xI x5), x6, (xI x20), (xI x21), (xI x22)]; let v143 : X := Ff 936 [(xI x0), (xI x1), (xI x2), (xI x3), (xI x4), (xI x5), x6, (xI x20), (xI x21), (xI x22)]; let v144 : X := Ff 715 [(xI v137.i), (xI v138.i), (xI v139.i), (xI v140.i), (xI v141.i), (xI v142.i), v143, (xI v137.i), (xI v138.i), (xI v139.i), (xI v140.i), (xI v141.i), (xI v142.i), v143]; (((v144.b = true) →
(Px 947 [(xI x24), (xI x0), (xI x1), (xI x2), (xI x3), (xI x4), (xI x5), x6] ∧
(Px 947 [(xI x24), (xI x0), (xI x1), (xI x2), (xI x3), (xI x4), (xI x5), x6] ∧
(let v149 : X := Ff 701 [(xI x0), (xI x1), (xI x2), (xI x3), (xI x4), (xI x5), x6, (xI x7), (xI x8), (xI x9), (xI x10), (xI x11), (xI x12), x13]; let v150 : X := Ff 702 [(xI x0), (xI x1), (xI x2), (xI x3), (xI x4), (xI x5), x6, (xI x7), (xI x8), (xI x9), (xI x10), (xI x11), (xI x12), x13]; let v151 : X := Ff 703 [(xI x0), (xI x1), (xI x2), (xI x3), (xI x4), (xI x5), x6, (xI x7), (xI x8), (xI x9), (xI x10), (xI x11), (xI x12), x13]; let v152 : X := Ff 704 [(xI x0), (xI x1), (xI x2), (xI x3), (xI x4), (xI x5), x6, (xI x7), (xI x8), (xI x9), (xI x10), (xI x11), (xI x12), x13]; let v153 : X := Ff 705 [(xI x0), (xI x1), (xI x2), (xI x3), (xI x4), (xI x5), x6, (xI x7), (xI x8), (xI x9), (xI x10), (xI x11), (xI x12), x13]; let v154 : X := Ff 706 [(xI x0), (xI x1), (xI x2), (xI x3), (xI x4), (xI x5), x6, (xI x7), (xI x8), (xI x9), (xI x10), (xI x11), (xI x12), x13]; let v155 : X := Ff 707 [(xI x0), (xI x1), (xI x2), (xI x3), (xI x4), (xI x5), x6, (xI x7), (xI x8), (xI x9), (xI x10), (xI x11), (xI x12), x13]; let v156 : X := Ff 715 [(xI v149.i), (xI v150.i), (xI v151.i), (xI v152.i), (xI v153.i), (xI v154.i), v155, (xI v149.i), (xI v150.i), (xI v151.i), (xI v152.i), (xI v153.i), (xI v154.i), v155]; let v157 : X := Ff 940 [(xI x24), (xI x0), (xI x1), (xI x2), (xI x3), (xI x4), (xI x5), x6]; let v158 : X := Ff 941 [(xI x24), (xI x0), (xI x1), (xI x2), (xI x3), (xI x4), (xI x5), x6]; let v159 : X := Ff 942 [(xI x24), (xI x0), (xI x1), (xI x2), (xI x3), (xI x4), (xI x5), x6]; let v160 : X := Ff 943 [(xI x24), (xI x0), (xI x1), (xI x2), (xI x3), (xI x4), (xI x5), x6]; let v161 : X := Ff 944 [(xI x24), (xI x0), (xI x1), (xI x2), (xI x3), (xI x4), (xI x5), x6]; let v162 : X := Ff 945 [(xI x24), (xI x0), (xI x1), (xI x2), (xI x3), (xI x4), (xI x5), x6]; let v163 : X := Ff 946 [(xI x24), (xI x0), (xI x1), (xI x2), (xI x3), (xI x4), (xI x5), x6]; let v164 : X := Ff 715 [(xI v157.i), (xI v158.i), (xI v159.i), (xI v160.i), (xI v161.i), (xI v162.i), v163, (xI v157.i), (xI v158.i), (xI v159.i), (xI v160.i), (xI v161.i), (xI v162.i), v163]; ((((v156.b = true) ∧ (v164.b = true)) →
(Px 711 [(xI x0), (xI x1), (xI x2), (xI x3), (xI x4), (xI x5), x6, (xI x7), (xI x8), (xI x9), (xI x10), (xI x11), (xI x12), x13] ∧
(Px 711 [(xI x0), (xI x1), (xI x2), (xI x3), (xI x4), (xI x5), x6, (xI x7), (xI x8), (xI x9), (xI x10), (xI x11), (xI x12), x13] ∧
(let v169 : X := Ff 950 [(xI x0), (xI x1), (xI x2), (xI x3), (xI x4), (xI x5), x6, (xI x7), (xI x8), (xI x9), (xI x10), (xI x11), (xI x12), x13]; let v170 : X := Ff 951 [v169, v169]; (v170.b = true))))) ∧
((¬ ((v156.b = true) ∧ (v164.b = true))) →
(false = true))))))) ∧
((¬ (v144.b = true)) →
(false = true))))))))) ∧
((¬ (v130.b = true)) →
(Px 710 [(xI x0), (xI x1), (xI x2), (xI x3), (xI x4), (xI x5), x6, (xI x20), (xI x21), (xI x22)] ∧
(Px 710 [(xI x0), (xI x1), (xI x2), (xI x3), (xI x4), (xI x5), x6, (xI x20), (xI x21), (xI x22)] ∧
(let v176 : X := Ff 930 [(xI x0), (xI x1), (xI x2), (xI x3), (xI x4), (xI x5), x6, (xI x20), (xI x21), (xI x22)]; let v177 : X := Ff 931 [(xI x0), (xI x1), (xI x2), (xI x3), (xI x4), (xI x5), x6, (xI x20), (xI x21), (xI x22)]; let v178 : X := Ff 932 [(xI x0), (xI x1), (xI x2), (xI x3), (xI x4), (xI x5), x6, (xI x20), (xI x21), (xI x22)]; let v179 : X := Ff 933 [(xI x0), (xI x1), (xI x2), (xI x3), (xI x4), (xI x5), x6, (xI x20), (xI x21), (xI x22)]; let v180 : X := Ff 934 [(xI x0), (xI x1), (xI x2), (xI x3), (xI x4), (xI x5), x6, (xI x20), (xI x21), (xI x22)]; let v181 : X := Ff 935 [(xI x0), (xI x1), (xI x2), (xI x3), (xI x4), (xI x5), x6, (xI x20), (xI x21), (xI x22)]; let v182 : X := Ff 936 [(xI x0), (xI x1), (xI x2), (xI x3), (xI x4), (xI x5), x6, (xI x20), (xI x21), (xI x22)]; let v183 : X := Ff 715 [(xI v176.i), (xI v177.i), (xI v178.i), (xI v179.i), (xI v180.i), (xI v181.i), v182, (xI v176.i), (xI v177.i), (xI v178.i), (xI v179.i), (xI v180.i), (xI v181.i), v182]; (((v183.b = true) →
(Px 947 [(xI x24), (xI x0), (xI x1), (xI x2), (xI x3), (xI x4), (xI x5), x6] ∧
(Px 947 [(xI x24), (xI x0), (xI x1), (xI x2), (xI x3), (xI x4), (xI x5), x6] ∧
(false = true)))) ∧
((¬ (v183.b = true)) →
(false = true)))))))))))) ∧
((¬ (v118.b = true)) →
(Px 710 [(xI x0), (xI x1), (xI x2), (xI x3), (xI x4), (xI x5), x6, (xI x20), (xI x21), (xI x22)] ∧
(Px 710 [(xI x0), (xI x1), (xI x2), (xI x3), (xI x4), (xI x5), x6, (xI x20), (xI x21), (xI x22)] ∧
(let v192 : X := Ff 930 [(xI x0), (xI x1), (xI x2), (xI x3), (xI x4), (xI x5), x6, (xI x20), (xI x21), (xI x22)]; let v193 : X := Ff 931 [(xI x0), (xI x1), (xI x2), (xI x3), (xI x4), (xI x5), x6, (xI x20), (xI x21), (xI x22)]; let v194 : X := Ff 932 [(xI x0), (xI x1), (xI x2), (xI x3), (xI x4), (xI x5), x6, (xI x20), (xI x21), (xI x22)]; let v195 : X := Ff 933 [(xI x0), (xI x1), (xI x2), (xI x3), (xI x4), (xI x5), x6, (xI x20), (xI x21), (xI x22)]; let v196 : X := Ff 934 [(xI x0), (xI x1), (xI x2), (xI x3), (xI x4), (xI x5), x6, (xI x20), (xI x21), (xI x22)]; let v197 : X := Ff 935 [(xI x0), (xI x1), (xI x2), (xI x3), (xI x4), (xI x5), x6, (xI x20), (xI x21), (xI x22)]; let v198 : X := Ff 936 [(xI x0), (xI x1), (xI x2), (xI x3), (xI x4), (xI x5), x6, (xI x20), (xI x21), (xI x22)]; let v199 : X := Ff 715 [(xI v192.i), (xI v193.i), (xI v194.i), (xI v195.i), (xI v196.i), (xI v197.i), v198, (xI v192.i), (xI v193.i), (xI v194.i), (xI v195.i), (xI v196.i), (xI v197.i), v198]; (((v199.b = true) →
(Px 947 [(xI x24), (xI x0), (xI x1), (xI x2), (xI x3), (xI x4), (xI x5), x6] ∧
(Px 947 [(xI x24), (xI x0), (xI x1), (xI x2), (xI x3), (xI x4), (xI x5), x6] ∧
(false = true)))) ∧
((¬ (v199.b = true)) →
(false = true)))))))))))) ∧
((¬ (v106.b = true)) →
(Px 710 [(xI x0), (xI x1), (xI x2), (xI x3), (xI x4), (xI x5), x6, (xI x20), (xI x21), (xI x22)] ∧
(Px 710 [(xI x0), (xI x1), (xI x2), (xI x3), (xI x4), (xI x5), x6, (xI x20), (xI x21), (xI x22)] ∧
(let v208 : X := Ff 930 [(xI x0), (xI x1), (xI x2), (xI x3), (xI x4), (xI x5), x6, (xI x20), (xI x21), (xI x22)]; let v209 : X := Ff 931 [(xI x0), (xI x1), (xI x2), (xI x3), (xI x4), (xI x5), x6, (xI x20), (xI x21), (xI x22)]; let v210 : X := Ff 932 [(xI x0), (xI x1), (xI x2), (xI x3), (xI x4), (xI x5), x6, (xI x20), (xI x21), (xI x22)]; let v211 : X := Ff 933 [(xI x0), (xI x1), (xI x2), (xI x3), (xI x4), (xI x5), x6, (xI x20), (xI x21), (xI x22)]; let v212 : X := Ff 934 [(xI x0), (xI x1), (xI x2), (xI x3), (xI x4), (xI x5), x6, (xI x20), (xI x21), (xI x22)]; let v213 : X := Ff 935 [(xI x0), (xI x1), (xI x2), (xI x3), (xI x4), (xI x5), x6, (xI x20), (xI x21), (xI x22)]; let v214 : X := Ff 936 [(xI x0), (xI x1), (xI x2), (xI x3), (xI x4), (xI x5), x6, (xI x20), (xI x21), (xI x22)]; let v215 : X := Ff 715 [(xI v208.i), (xI v209.i), (xI v210.i), (xI v211.i), (xI v212.i), (xI v213.i), v214, (xI v208.i), (xI v209.i), (xI v210.i), (xI v211.i), (xI v212.i), (xI v213.i), v214]; (((v215.b = true) →
(Px 947 [(xI x24), (xI x0), (xI x1), (xI x2), (xI x3), (xI x4), (xI x5), x6] ∧
(Px 947 [(xI x24), (xI x0), (xI x1), (xI x2), (xI x3), (xI x4), (xI x5), x6] ∧
(false = true)))) ∧
((¬ (v215.b = true)) →
(false = true)))))))))))))))))))))))))))))))))))))))))))))))))))) ∧
(((1000 < x13.i) ∨ (¬ (v21.b = true))) →
(true = true))))))))))))))))) ∧
(((1000 < x6.i) ∨ (¬ (v0.b = true))) →
(true = true))))
noncomputable def sh : List RSh := (shTs Tryz.prog [28, 28, 25, 23, 3, 3, 29]).getD []
attribute [irreducible] sh
theorem link (x0 : Int) (x1 : Int) (x2 : Int) (x3 : Int) (x4 : Int) (x5 : Int) (x6 : X) (x7 : Int) (x8 : Int) (x9 : Int) (x10 : Int) (x11 : Int) (x12 : Int) (x13 : X) (x14 : Int) (x15 : Int) (x16 : Int) (x17 : Int) (x18 : Int) (x19 : Int) (x20 : Int) (x21 : Int) (x22 : Int) (x23 : Int) (x24 : Int) (x25 : X) : (walkR Tryz.prog (cfG none L07z R07z lpGM sumC) Tryz.f3 1600 sh).law { ρ0 with x := fun j => [xI x0, xI x1, xI x2, xI x3, xI x4, xI x5, x6, xI x7, xI x8, xI x9, xI x10, xI x11, xI x12, x13, xI x14, xI x15, xI x16, xI x17, xI x18, xI x19, xI x20, xI x21, xI x22, xI x23, xI x24, x25].getD j (xI 0) } = lawP x0 x1 x2 x3 x4 x5 x6 x7 x8 x9 x10 x11 x12 x13 x14 x15 x16 x17 x18 x19 x20 x21 x22 x23 x24 x25 := by kernel_rfl
set_option maxHeartbeats 4000000 in
theorem lawP_ok (x0 : Int) (x1 : Int) (x2 : Int) (x3 : Int) (x4 : Int) (x5 : Int) (x6 : X) (x7 : Int) (x8 : Int) (x9 : Int) (x10 : Int) (x11 : Int) (x12 : Int) (x13 : X) (x14 : Int) (x15 : Int) (x16 : Int) (x17 : Int) (x18 : Int) (x19 : Int) (x20 : Int) (x21 : Int) (x22 : Int) (x23 : Int) (x24 : Int) (x25 : X) (g0 : -9223372036854775808 ≤ x0 ∧ x0 ≤ 9223372036854775807) (g1 : -9223372036854775808 ≤ x1 ∧ x1 ≤ 9223372036854775807) (g2 : -9223372036854775808 ≤ x2 ∧ x2 ≤ 9223372036854775807) (g3 : -9223372036854775808 ≤ x3 ∧ x3 ≤ 9223372036854775807) (g4 : -9223372036854775808 ≤ x4 ∧ x4 ≤ 9223372036854775807) (g5 : -9223372036854775808 ≤ x5 ∧ x5 ≤ 9223372036854775807) (g6 : 0 ≤ x6.i ∧ x6.i ≤ 9223372036854775807 ∧ RowOk [.int .i64 (-9223372036854775808) (9223372036854775807)] x6.r x6.i.toNat) (g7 : -9223372036854775808 ≤ x7 ∧ x7 ≤ 9223372036854775807) (g8 : -9223372036854775808 ≤ x8 ∧ x8 ≤ 9223372036854775807) (g9 : -9223372036854775808 ≤ x9 ∧ x9 ≤ 9223372036854775807) (g10 : -9223372036854775808 ≤ x10 ∧ x10 ≤ 9223372036854775807) (g11 : -9223372036854775808 ≤ x11 ∧ x11 ≤ 9223372036854775807) (g12 : -9223372036854775808 ≤ x12 ∧ x12 ≤ 9223372036854775807) (g13 : 0 ≤ x13.i ∧ x13.i ≤ 9223372036854775807 ∧ RowOk [.int .i64 (-9223372036854775808) (9223372036854775807)] x13.r x13.i.toNat) (g14 : -9223372036854775808 ≤ x14 ∧ x14 ≤ 9223372036854775807) (g15 : -9223372036854775808 ≤ x15 ∧ x15 ≤ 9223372036854775807) (g16 : -9223372036854775808 ≤ x16 ∧ x16 ≤ 9223372036854775807) (g17 : -9223372036854775808 ≤ x17 ∧ x17 ≤ 9223372036854775807) (g18 : -9223372036854775808 ≤ x18 ∧ x18 ≤ 9223372036854775807) (g19 : -9223372036854775808 ≤ x19 ∧ x19 ≤ 9223372036854775807) (g20 : -9223372036854775808 ≤ x20 ∧ x20 ≤ 9223372036854775807) (g21 : -9223372036854775808 ≤ x21 ∧ x21 ≤ 9223372036854775807) (g22 : -9223372036854775808 ≤ x22 ∧ x22 ≤ 9223372036854775807) (g23 : -9223372036854775808 ≤ x23 ∧ x23 ≤ 9223372036854775807) (g24 : -9223372036854775808 ≤ x24 ∧ x24 ≤ 9223372036854775807) (g25 : 0 ≤ x25.i ∧ x25.i ≤ 9223372036854775807 ∧ RowOk [.int .i64 (-9223372036854775808) (9223372036854775807), .int .i64 (-9223372036854775808) (9223372036854775807), .int .i64 (-9223372036854775808) (9223372036854775807), .int .i64 (-9223372036854775808) (9223372036854775807), .int .i64 (-9223372036854775808) (9223372036854775807)] x25.r x25.i.toNat) : lawP x0 x1 x2 x3 x4 x5 x6 x7 x8 x9 x10 x11 x12 x13 x14 x15 x16 x17 x18 x19 x20 x21 x22 x23 x24 x25 := by
  unfold lawP
  intro v0
  refine And.intro ?_ ?_
  · intro h2
    refine And.intro ?_ ?_
    · intro h4
      rfl -- #0
    intro h5
    refine And.intro ?_ ?_
    · intro h7
      rfl -- #1
    intro h8
    refine And.intro ?_ ?_
    · intro h10
      rfl -- #2
    intro h11
    refine And.intro ?_ ?_
    · intro h13
      rfl -- #3
    intro h14
    refine And.intro ?_ ?_
    · intro h16
      rfl -- #4
    intro h17
    refine And.intro ?_ ?_
    · intro h19
      rfl -- #5
    intro h20
    intro v21
    refine And.intro ?_ ?_
    · intro h23
      refine And.intro ?_ ?_
      · intro h25
        rfl -- #6
      intro h26
      refine And.intro ?_ ?_
      · intro h28
        rfl -- #7
      intro h29
      refine And.intro ?_ ?_
      · intro h31
        rfl -- #8
      intro h32
      refine And.intro ?_ ?_
      · intro h34
        rfl -- #9
      intro h35
      refine And.intro ?_ ?_
      · intro h37
        rfl -- #10
      intro h38
      refine And.intro ?_ ?_
      · intro h40
        rfl -- #11
      intro h41
      refine And.intro ?_ ?_
      · intro h43
        rfl -- #12
      intro h44
      refine And.intro ?_ ?_
      · intro h46
        rfl -- #13
      intro h47
      refine And.intro ?_ ?_
      · intro h49
        rfl -- #14
      intro h50
      refine And.intro ?_ ?_
      · intro h52
        rfl -- #15
      intro h53
      refine And.intro ?_ ?_
      · intro h55
        rfl -- #16
      intro h56
      refine And.intro ?_ ?_
      · intro h58
        rfl -- #17
      intro h59
      refine And.intro ?_ ?_
      · intro h61
        rfl -- #18
      intro h62
      refine And.intro ?_ ?_
      · intro h64
        rfl -- #19
      intro h65
      refine And.intro ?_ ?_
      · intro h67
        rfl -- #20
      intro h68
      refine And.intro ?_ ?_
      · intro h70
        rfl -- #21
      intro h71
      refine andI ?_ fun o72 => ?_
      · exact ⟨Int.le_refl _, fun j hj => absurd hj (by show ¬ (j : Int) < 0; omega)⟩ -- #22
      intro x30
      intro h73
      intro p74
      obtain ⟨i0, i1⟩ := p74
      refine And.intro ?_ ?_
      · intro h76
        refine andI ?_ fun o77 => ?_
        · exact h76 -- #23
        refine And.intro ?_ ?_
        · intro h79
          rfl -- #24
        intro h80
        refine And.intro ?_ ?_
        · intro h82
          rfl -- #25
        intro h83
        refine And.intro ?_ ?_
        · intro h85
          rfl -- #26
        intro h86
        refine And.intro ?_ ?_
        · intro h88
          rfl -- #27
        intro h89
        refine andI ?_ fun o90 => ?_
        · skip -- #28
          refine ⟨show 0 ≤ x30.i + 1 by omega, fun j hj => ?_⟩
          have hj : (j : Int) < x30.i + 1 := hj
          by_cases ej : (j : Int) = x30.i
          · rw [ej]
            exact ⟨⟨by show _ ≤ (x25.r x30.i 0).i; omega, by show (x25.r x30.i 0).i ≤ _; omega⟩, ⟨by show _ ≤ (x25.r x30.i 1).i; omega, by show (x25.r x30.i 1).i ≤ _; omega⟩, ⟨by show _ ≤ (x25.r x30.i 2).i; omega, by show (x25.r x30.i 2).i ≤ _; omega⟩, matB_iff.2 h89⟩
          · exact i1 j (by show (j : Int) < x30.i; omega)
        intro v91
        intro v92
        refine andI ?_ fun o93 => ?_
        · skip -- #29
          show x25.i + 1 - (x30.i + 1) < x25.i + 1 - x30.i
          omega
        skip -- #30
        show 0 < x25.i + 1 - x30.i
        omega
      intro h94
      have gv : validG ⟨bxI x0 x1 x2 x3 x4 x5, lstX deI x6⟩ = true := by
        cases hb : v0.b with
        | true => exact hb
        | false => exact absurd (.inr (by rw [hb]; decide)) h2
      have gw : validG ⟨bxI x7 x8 x9 x10 x11 x12, lstX deI x13⟩ = true := by
        cases hb : v21.b with
        | true => exact hb
        | false => exact absurd (.inr (by rw [hb]; decide)) h23
      have hch : ∀ k : Nat, (k : Int) < x25.i → chgB (deC (x25.r k)) := fun k hk => by
        obtain ⟨a, b, c, d⟩ := i1 k (by show (k : Int) < x30.i; omega)
        unfold nr4 at a b c
        exact ⟨by omega, by omega, by omega, d⟩
      refine andI ?_ fun o95 => ?_
      · exact gv -- #31
      refine andI ?_ fun o96 => ?_
      · exact gv -- #32
      refine andI ?_ fun o97 => ?_
      · exact gv -- #33
      refine andI ?_ fun o98 => ?_
      · exact gv -- #34
      intro v99
      intro v100
      intro v101
      intro v102
      intro v103
      intro v104
      intro v105
      intro v106
      refine And.intro ?_ ?_
      · intro h108
        refine andI ?_ fun o109 => ?_
        · exact ⟨gv, hch⟩ -- #35
        refine andI ?_ fun o110 => ?_
        · exact ⟨gv, hch⟩ -- #36
        intro v111
        intro v112
        intro v113
        intro v114
        intro v115
        intro v116
        intro v117
        intro v118
        refine And.intro ?_ ?_
        · intro h120
          refine andI ?_ fun o121 => ?_
          · exact ⟨gv, in20_iff.2 (by omega)⟩ -- #37
          refine andI ?_ fun o122 => ?_
          · exact ⟨gv, in20_iff.2 (by omega)⟩ -- #38
          intro v123
          intro v124
          intro v125
          intro v126
          intro v127
          intro v128
          intro v129
          intro v130
          refine And.intro ?_ ?_
          · intro h132
            refine andI ?_ fun o133 => ?_
            · exact ⟨gv, gw⟩ -- #39
            refine andI ?_ fun o134 => ?_
            · exact ⟨gv, gw⟩ -- #40
            refine andI ?_ fun o135 => ?_
            · exact gv -- #41
            refine andI ?_ fun o136 => ?_
            · exact gv -- #42
            intro v137
            intro v138
            intro v139
            intro v140
            intro v141
            intro v142
            intro v143
            intro v144
            refine And.intro ?_ ?_
            · intro h146
              refine andI ?_ fun o147 => ?_
              · exact gv -- #43
              refine andI ?_ fun o148 => ?_
              · exact gv -- #44
              intro v149
              intro v150
              intro v151
              intro v152
              intro v153
              intro v154
              intro v155
              intro v156
              intro v157
              intro v158
              intro v159
              intro v160
              intro v161
              intro v162
              intro v163
              intro v164
              refine And.intro ?_ ?_
              · intro h166
                refine andI ?_ fun o167 => ?_
                · exact ⟨gv, gw⟩ -- #45
                refine andI ?_ fun o168 => ?_
                · exact ⟨gv, gw⟩ -- #46
                intro v169
                intro v170
                exact decide_eq_true rfl -- #47
              intro h171
              exact absurd ⟨eqG_self, eqG_self⟩ h171 -- #48
            intro h172
            exact absurd eqG_self h172 -- #49
          intro h173
          refine andI ?_ fun o174 => ?_
          · exact gv -- #50
          refine andI ?_ fun o175 => ?_
          · exact gv -- #51
          intro v176
          intro v177
          intro v178
          intro v179
          intro v180
          intro v181
          intro v182
          intro v183
          refine And.intro ?_ ?_
          · intro h185
            refine andI ?_ fun o186 => ?_
            · exact gv -- #52
            refine andI ?_ fun o187 => ?_
            · exact gv -- #53
            exact absurd eqG_self h173 -- #54
          intro h188
          exact absurd eqG_self h173 -- #55
        intro h189
        refine andI ?_ fun o190 => ?_
        · exact gv -- #56
        refine andI ?_ fun o191 => ?_
        · exact gv -- #57
        intro v192
        intro v193
        intro v194
        intro v195
        intro v196
        intro v197
        intro v198
        intro v199
        refine And.intro ?_ ?_
        · intro h201
          refine andI ?_ fun o202 => ?_
          · exact gv -- #58
          refine andI ?_ fun o203 => ?_
          · exact gv -- #59
          exact absurd eqG_self h189 -- #60
        intro h204
        exact absurd eqG_self h189 -- #61
      intro h205
      refine andI ?_ fun o206 => ?_
      · exact gv -- #62
      refine andI ?_ fun o207 => ?_
      · exact gv -- #63
      intro v208
      intro v209
      intro v210
      intro v211
      intro v212
      intro v213
      intro v214
      intro v215
      refine And.intro ?_ ?_
      · intro h217
        refine andI ?_ fun o218 => ?_
        · exact gv -- #64
        refine andI ?_ fun o219 => ?_
        · exact gv -- #65
        exact absurd eqG_self h205 -- #66
      intro h220
      exact absurd eqG_self h205 -- #67
    intro h221
    rfl -- #68
  intro h222
  rfl -- #69

/-! ### The frame -/
theorem shape_flat : flatR sh = [.int .i64 (-9223372036854775808) 9223372036854775807, .int .i64 (-9223372036854775808) 9223372036854775807, .int .i64 (-9223372036854775808) 9223372036854775807, .int .i64 (-9223372036854775808) 9223372036854775807, .int .i64 (-9223372036854775808) 9223372036854775807, .int .i64 (-9223372036854775808) 9223372036854775807, .row [.int .i64 (-9223372036854775808) (9223372036854775807)] 9223372036854775807, .int .i64 (-9223372036854775808) 9223372036854775807, .int .i64 (-9223372036854775808) 9223372036854775807, .int .i64 (-9223372036854775808) 9223372036854775807, .int .i64 (-9223372036854775808) 9223372036854775807, .int .i64 (-9223372036854775808) 9223372036854775807, .int .i64 (-9223372036854775808) 9223372036854775807, .row [.int .i64 (-9223372036854775808) (9223372036854775807)] 9223372036854775807, .int .i64 (-9223372036854775808) 9223372036854775807, .int .i64 (-9223372036854775808) 9223372036854775807, .int .i64 (-9223372036854775808) 9223372036854775807, .int .i64 (-9223372036854775808) 9223372036854775807, .int .i64 (-9223372036854775808) 9223372036854775807, .int .i64 (-9223372036854775808) 9223372036854775807, .int .i64 (-9223372036854775808) 9223372036854775807, .int .i64 (-9223372036854775808) 9223372036854775807, .int .i64 (-9223372036854775808) 9223372036854775807, .int .i64 (-9223372036854775808) 9223372036854775807, .int .i64 (-9223372036854775808) 9223372036854775807, .row [.int .i64 (-9223372036854775808) (9223372036854775807), .int .i64 (-9223372036854775808) (9223372036854775807), .int .i64 (-9223372036854775808) (9223372036854775807), .int .i64 (-9223372036854775808) (9223372036854775807), .int .i64 (-9223372036854775808) (9223372036854775807)] 9223372036854775807] := by kernel_rfl
theorem lawful (ds : Ds) (hr : rshX sh ds) : (walkR Tryz.prog (cfG none L07z R07z lpGM sumC) Tryz.f3 1600 sh).law { ρ0 with x := fun j => ds.getD j (xI 0) } := by
  have hr := rshX_flat hr
  rw [shape_flat] at hr
  match ds, hr with
  | [d0, d1, d2, d3, d4, d5, d6, d7, d8, d9, d10, d11, d12, d13, d14, d15, d16, d17, d18, d19, d20, d21, d22, d23, d24, d25], hr =>
    obtain ⟨⟨e0, l0, u0⟩, ⟨e1, l1, u1⟩, ⟨e2, l2, u2⟩, ⟨e3, l3, u3⟩, ⟨e4, l4, u4⟩, ⟨e5, l5, u5⟩, l6, ⟨e7, l7, u7⟩, ⟨e8, l8, u8⟩, ⟨e9, l9, u9⟩, ⟨e10, l10, u10⟩, ⟨e11, l11, u11⟩, ⟨e12, l12, u12⟩, l13, ⟨e14, l14, u14⟩, ⟨e15, l15, u15⟩, ⟨e16, l16, u16⟩, ⟨e17, l17, u17⟩, ⟨e18, l18, u18⟩, ⟨e19, l19, u19⟩, ⟨e20, l20, u20⟩, ⟨e21, l21, u21⟩, ⟨e22, l22, u22⟩, ⟨e23, l23, u23⟩, ⟨e24, l24, u24⟩, l25, _⟩ := hr
    generalize d0.i = x0 at *
    generalize d1.i = x1 at *
    generalize d2.i = x2 at *
    generalize d3.i = x3 at *
    generalize d4.i = x4 at *
    generalize d5.i = x5 at *
    generalize d6 = x6 at *
    generalize d7.i = x7 at *
    generalize d8.i = x8 at *
    generalize d9.i = x9 at *
    generalize d10.i = x10 at *
    generalize d11.i = x11 at *
    generalize d12.i = x12 at *
    generalize d13 = x13 at *
    generalize d14.i = x14 at *
    generalize d15.i = x15 at *
    generalize d16.i = x16 at *
    generalize d17.i = x17 at *
    generalize d18.i = x18 at *
    generalize d19.i = x19 at *
    generalize d20.i = x20 at *
    generalize d21.i = x21 at *
    generalize d22.i = x22 at *
    generalize d23.i = x23 at *
    generalize d24.i = x24 at *
    generalize d25 = x25 at *
    subst e0 e1 e2 e3 e4 e5 e7 e8 e9 e10 e11 e12 e14 e15 e16 e17 e18 e19 e20 e21 e22 e23 e24
    exact Eq.mpr (link x0 x1 x2 x3 x4 x5 x6 x7 x8 x9 x10 x11 x12 x13 x14 x15 x16 x17 x18 x19 x20 x21 x22 x23 x24 x25) (lawP_ok x0 x1 x2 x3 x4 x5 x6 x7 x8 x9 x10 x11 x12 x13 x14 x15 x16 x17 x18 x19 x20 x21 x22 x23 x24 x25 ⟨l0, u0⟩ ⟨l1, u1⟩ ⟨l2, u2⟩ ⟨l3, u3⟩ ⟨l4, u4⟩ ⟨l5, u5⟩ l6 ⟨l7, u7⟩ ⟨l8, u8⟩ ⟨l9, u9⟩ ⟨l10, u10⟩ ⟨l11, u11⟩ ⟨l12, u12⟩ l13 ⟨l14, u14⟩ ⟨l15, u15⟩ ⟨l16, u16⟩ ⟨l17, u17⟩ ⟨l18, u18⟩ ⟨l19, u19⟩ ⟨l20, u20⟩ ⟨l21, u21⟩ ⟨l22, u22⟩ ⟨l23, u23⟩ ⟨l24, u24⟩ l25)
theorem shape {H : Type} {ds : List (DataW H)} (h : ds.length = 7) : Rows.gridMatchesSpecSpec.fn H ds = { results := [.lit (.bool true)], args := ds } := by
  match ds, h with
  | [d1, d2, d3, d4, d5, d6, d7], _ => rfl
set_option maxRecDepth 100000 in
theorem calls {H : Type} {enc : TypeId × Value → H} (W : World) (base : Nat) (args : Array Value) (ds : List (DataW H)) (p : List MemPlace) (hval : ∀ (j : Nat) t v, Tryz.f3.params[j]? = some t → args[j]? = some v → Value.okWide Tryz.prog W .any base t v)
    (hA : DataW.TrodAll enc Tryz.prog W 0 (fun _ => true) true Tryz.f3.params.toList args.toList ds p) (hg : GlobOk ρ0.g W.heap.size W) : Calls Tryz.prog 3 args W fun e w' => e = .returned (.bool true) ∧ Below W.heap.size W w' := by
  rw [Tryz.params3] at hA hval
  have hs : shTs Tryz.prog [28, 28, 25, 23, 3, 3, 29] = some sh := by
    have : (shTs Tryz.prog [28, 28, 25, 23, 3, 3, 29]).isSome = true := by kernel_rfl
    obtain ⟨s, h⟩ := Option.isSome_iff_exists.1 this
    unfold sh
    rw [h]; rfl
  obtain ⟨ds', hr⟩ := args_rel hA (fun i t v ht hv => hval i t v (by simpa using ht) (by simpa using hv)) hs
  have := law_callsR (L07z_ok) Tryz.func3 rfl 1600 hg hr lawful
  simpa using this
set_option maxRecDepth 100000 in
theorem lifted (os : Os) (started : os.Started) (H : Type) (enc : TypeId × Value → H) :
    ReturnsInHanded {} Tryz.checked os 3 .any (fun w args => (Rows.gridMatchesSpecSpec.pre enc Tryz.prog Tryz.f3 [] false w args ∧ laidMetH Tryz.prog [("voxel/point.axes", Rows.laid_voxel_point_axes)] w) ∧ sizedMet enc Tryz.prog Tryz.f3 (OpenSpec.ofChange Rows.gridMatchesSpecSpec) false w args)
      (Rows.gridMatchesSpecSpec.post enc Tryz.prog Tryz.f3 false true false false) := by
  refine returnsInHanded_of_change_and (C := Tryz.checked) (X := fun w _ => laidMetH Tryz.prog [("voxel/point.axes", Rows.laid_voxel_point_axes)] w) (fun _ _ _ hh h => h.of_heap hh) own started (by kernel_rfl) Tryz.func3
    (ChangeSpec.witness_shaped (enc := enc) (C := Tryz.checked) (os := os) (X := fun w _ => laidMetH Tryz.prog [("voxel/point.axes", Rows.laid_voxel_point_axes)] w) false (World.doorLaid Tryz.prog 400 os) #[((Tryz.prog.info? 28).bind (·.zero)).getD undef, ((Tryz.prog.info? 28).bind (·.zero)).getD undef, ((Tryz.prog.info? 25).bind (·.zero)).getD undef, ((Tryz.prog.info? 23).bind (·.zero)).getD undef, ((Tryz.prog.info? 3).bind (·.zero)).getD undef, ((Tryz.prog.info? 3).bind (·.zero)).getD undef, ((Tryz.prog.info? 29).bind (·.zero)).getD undef] 8 rfl (World.shaped_of_RefB (by kernel_rfl) (by kernel_rfl)) (by kernel_rfl) (by kernel_rfl) (by kernel_rfl) (door_met os _)) ?_
  intro W base args ds gs before hval hW _ _ hL _
  have hW0 := hW
  obtain ⟨p, q, hA, hV, _⟩ := hW0
  have hlen : ds.length = 7 := (trodAll_len hA).trans (by kernel_rfl)
  refine (calls W base args ds p hval hA (glob_ok hL)).mono fun e W' ⟨he, hb⟩ => ?_
  subst he
  exact ⟨_, rfl, law_post kids slices (by rw [Tryz.params3]; decide +kernel) rfl rfl Tryz.underlying4 (shape hlen) hW hb⟩

theorem over : Rows.GridMatchesSpecSaid :=
  OpenClaim.holds_of_wide 3 Tryz.f3 rfl rfl rfl rfl rfl rfl rfl ⟨rfl, rfl, rfl, rfl, rfl⟩ rfl rfl rfl rfl rfl (by kernel_rfl) Tryz.func3 (by kernel_rfl)
    (of_decide_eq_true (by kernel_rfl)) (by unfold Func.isWrapper; first | (rw [if_pos (by decide +kernel)]; kernel_rfl) | (rw [if_neg (by decide +kernel)]; exact ⟨rfl, rfl⟩))
    (fun os started H enc _ => lifted os started H enc)

/-- The statement: the row, its listed variable tied to the program's text. -/
theorem proved : Rows.GridMatchesSpecCardSaid :=
  Claim7.holds_tied_plain_at .later [] [.data] true (true, "695d5a8cc51c1624168b82a5ea1d552f2c9c47b69cc422e1904176112a56dde4") false
    over (fun _ h => by cases h) (by kernel_rfl) (fun _ h => by cases h) gridMatchesSpec_row_tie rfl ⟨rfl, rfl⟩ (by kernel_rfl) rfl
    (fun f fn hf hfn => by
      obtain rfl : f = 3 := Option.some.inj ((show Tryz.prog.funcNamed "voxel/voxellaw07.GridMatchesSpec" = some 3 by kernel_rfl).symm.trans hf) |>.symm
      obtain rfl : fn = Tryz.f3 := (Option.some.inj (Tryz.func3.symm.trans hfn)).symm
      exact ⟨by kernel_rfl, fun j t ht => by
        rw [Tryz.params3] at ht
        have hm : t ∈ [28, 28, 25, 23, 3, 3, 29] := by simpa using Array.mem_of_getElem? ht
        have hall : ([28, 28, 25, 23, 3, 3, 29].all fun u => !Tryz.prog.wantsStandIn u) = true := by kernel_rfl
        exact (show Tryz.prog.wantsStandIn t = false by simpa using List.all_eq_true.1 hall t hm)⟩)
    (by kernel_rfl)
#print axioms proved
end Go.Proofs.YtleapeclbkclaaaGreatDoor.gridMatchesSpec
