/- Proved: GridPastes: the statement 'GridPastesCardSaid' of this seat, for every input that it names; no condition besides. -/
import Derived.Test.YtleapeclbkclaaaDoorC07Vb
import Derived.Test.YtleapeclbkclaaaDoorC07Za
import Derived.Test.YtleapeclbkclaaaDoorRows
import Derived.Test.YtleapeclbkclaaaDoorCards
import Derived.Test.YtleapeclbkclaaaDoorTie
import Derived.SevenTiedAt
import Derived.ProofKit
import Derived.LaidMore
import Derived.Stop.Joined
namespace Go.Proofs.YtleapeclbkclaaaDoor.gridPastes
open Go Go.ChangeShapes Go.WideShapes Go.ChangeAt Go.RowKit Vc
set_option linter.unusedVariables false


/-- The law's walk, as the machine leaves it. -/
def lawP (x0 : Int) (x1 : Int) (x2 : Int) (x3 : Int) (x4 : Int) (x5 : Int) (x6 : X) (x7 : Int) (x8 : Int) (x9 : Int) (x10 : Int) (x11 : Int) (x12 : Int) (x13 : X) (x14 : Int) (x15 : Int) (x16 : Int) : Prop :=
(let v0 : X := Ff 700 [(xI x0), (xI x1), (xI x2), (xI x3), (xI x4), (xI x5), x6]; (((¬ ((1000 < x6.i) ∨ (¬ (v0.b = true)))) →
((((x0 < (-10000)) ∨ (10000 < x0)) →
(true = true)) ∧
((¬ ((x0 < (-10000)) ∨ (10000 < x0))) →
((((x1 < (-10000)) ∨ (10000 < x1)) →
(true = true)) ∧
((¬ ((x1 < (-10000)) ∨ (10000 < x1))) →
((((x2 < (-10000)) ∨ (10000 < x2)) →
(true = true)) ∧
((¬ ((x2 < (-10000)) ∨ (10000 < x2))) →
((((x3 < (-10000)) ∨ (10000 < x3)) →
(true = true)) ∧
((¬ ((x3 < (-10000)) ∨ (10000 < x3))) →
((((x4 < (-10000)) ∨ (10000 < x4)) →
(true = true)) ∧
((¬ ((x4 < (-10000)) ∨ (10000 < x4))) →
((((x5 < (-10000)) ∨ (10000 < x5)) →
(true = true)) ∧
((¬ ((x5 < (-10000)) ∨ (10000 < x5))) →
(let v21 : X := Ff 700 [(xI x7), (xI x8), (xI x9), (xI x10), (xI x11), (xI x12), x13]; (((¬ ((1000 < x13.i) ∨ (¬ (v21.b = true)))) →
((((x7 < (-10000)) ∨ (10000 < x7)) →
(true = true)) ∧
((¬ ((x7 < (-10000)) ∨ (10000 < x7))) →
((((x8 < (-10000)) ∨ (10000 < x8)) →
(true = true)) ∧
((¬ ((x8 < (-10000)) ∨ (10000 < x8))) →
((((x9 < (-10000)) ∨ (10000 < x9)) →
(true = true)) ∧
((¬ ((x9 < (-10000)) ∨ (10000 < x9))) →
((((x10 < (-10000)) ∨ (10000 < x10)) →
(true = true)) ∧
((¬ ((x10 < (-10000)) ∨ (10000 < x10))) →
((((x11 < (-10000)) ∨ (10000 < x11)) →
(true = true)) ∧
((¬ ((x11 < (-10000)) ∨ (10000 < x11))) →
((((x12 < (-10000)) ∨ (10000 < x12)) →
(true = true)) ∧
((¬ ((x12 < (-10000)) ∨ (10000 < x12))) →
((((x14 < (-10000)) ∨ (10000 < x14)) →
(true = true)) ∧
((¬ ((x14 < (-10000)) ∨ (10000 < x14))) →
((((x15 < (-10000)) ∨ (10000 < x15)) →
(true = true)) ∧
((¬ ((x15 < (-10000)) ∨ (10000 < x15))) →
((((x16 < (-10000)) ∨ (10000 < x16)) →
(true = true)) ∧
((¬ ((x16 < (-10000)) ∨ (10000 < x16))) →
(Px 711 [(xI x0), (xI x1), (xI x2), (xI x3), (xI x4), (xI x5), x6, (xI x7), (xI x8), (xI x9), (xI x10), (xI x11), (xI x12), x13] ∧
(Px 710 [(xI x0), (xI x1), (xI x2), (xI x3), (xI x4), (xI x5), x6, (xI x14), (xI x15), (xI x16)] ∧
(let v53 : X := Ff 201 [(xI x14), (xI x15), (xI x16), (xI x0), (xI x1), (xI x2), (xI x3), (xI x4), (xI x5)]; let v54 : X := Ff 201 [(xI x14), (xI x15), (xI x16), (xI x7), (xI x8), (xI x9), (xI x10), (xI x11), (xI x12)]; ((((v53.b = true) ∧ (v54.b = true)) →
(Px 710 [(xI x7), (xI x8), (xI x9), (xI x10), (xI x11), (xI x12), x13, (xI x14), (xI x15), (xI x16)] ∧
(Px 711 [(xI x0), (xI x1), (xI x2), (xI x3), (xI x4), (xI x5), x6, (xI x7), (xI x8), (xI x9), (xI x10), (xI x11), (xI x12), x13] ∧
(let v59 : X := Ff 701 [(xI x0), (xI x1), (xI x2), (xI x3), (xI x4), (xI x5), x6, (xI x7), (xI x8), (xI x9), (xI x10), (xI x11), (xI x12), x13]; let v60 : X := Ff 702 [(xI x0), (xI x1), (xI x2), (xI x3), (xI x4), (xI x5), x6, (xI x7), (xI x8), (xI x9), (xI x10), (xI x11), (xI x12), x13]; let v61 : X := Ff 703 [(xI x0), (xI x1), (xI x2), (xI x3), (xI x4), (xI x5), x6, (xI x7), (xI x8), (xI x9), (xI x10), (xI x11), (xI x12), x13]; let v62 : X := Ff 704 [(xI x0), (xI x1), (xI x2), (xI x3), (xI x4), (xI x5), x6, (xI x7), (xI x8), (xI x9), (xI x10), (xI x11), (xI x12), x13]; let v63 : X := Ff 705 [(xI x0), (xI x1), (xI x2), (xI x3), (xI x4), (xI x5), x6, (xI x7), (xI x8), (xI x9), (xI x10), (xI x11), (xI x12), x13]; let v64 : X := Ff 706 [(xI x0), (xI x1), (xI x2), (xI x3), (xI x4), (xI x5), x6, (xI x7), (xI x8), (xI x9), (xI x10), (xI x11), (xI x12), x13]; let v65 : X := Ff 707 [(xI x0), (xI x1), (xI x2), (xI x3), (xI x4), (xI x5), x6, (xI x7), (xI x8), (xI x9), (xI x10), (xI x11), (xI x12), x13]; (Px 710 [(xI v59.i), (xI v60.i), (xI v61.i), (xI v62.i), (xI v63.i), (xI v64.i), v65, (xI x14), (xI x15), (xI x16)] ∧
(let v67 : X := Ff 908 [(xI v59.i), (xI v60.i), (xI v61.i), (xI v62.i), (xI v63.i), (xI v64.i), v65, (xI x14), (xI x15), (xI x16)]; let v68 : X := Ff 908 [(xI x7), (xI x8), (xI x9), (xI x10), (xI x11), (xI x12), x13, (xI x14), (xI x15), (xI x16)]; (((v67.i = v68.i) →
(let v71 : X := Ff 950 [(xI x0), (xI x1), (xI x2), (xI x3), (xI x4), (xI x5), x6, (xI x7), (xI x8), (xI x9), (xI x10), (xI x11), (xI x12), x13]; (Px 917 [(xI x0), (xI x1), (xI x2), (xI x3), (xI x4), (xI x5), x6, v71] ∧
(let v73 : X := Ff 910 [(xI x0), (xI x1), (xI x2), (xI x3), (xI x4), (xI x5), x6, v71]; let v74 : X := Ff 911 [(xI x0), (xI x1), (xI x2), (xI x3), (xI x4), (xI x5), x6, v71]; let v75 : X := Ff 912 [(xI x0), (xI x1), (xI x2), (xI x3), (xI x4), (xI x5), x6, v71]; let v76 : X := Ff 913 [(xI x0), (xI x1), (xI x2), (xI x3), (xI x4), (xI x5), x6, v71]; let v77 : X := Ff 914 [(xI x0), (xI x1), (xI x2), (xI x3), (xI x4), (xI x5), x6, v71]; let v78 : X := Ff 915 [(xI x0), (xI x1), (xI x2), (xI x3), (xI x4), (xI x5), x6, v71]; let v79 : X := Ff 916 [(xI x0), (xI x1), (xI x2), (xI x3), (xI x4), (xI x5), x6, v71]; let v80 : X := Ff 715 [(xI v73.i), (xI v74.i), (xI v75.i), (xI v76.i), (xI v77.i), (xI v78.i), v79, (xI v59.i), (xI v60.i), (xI v61.i), (xI v62.i), (xI v63.i), (xI v64.i), v65]; (((v80.b = true) →
(Px 711 [(xI v59.i), (xI v60.i), (xI v61.i), (xI v62.i), (xI v63.i), (xI v64.i), v65, (xI x7), (xI x8), (xI x9), (xI x10), (xI x11), (xI x12), x13] ∧
(let v84 : X := Ff 950 [(xI v59.i), (xI v60.i), (xI v61.i), (xI v62.i), (xI v63.i), (xI v64.i), v65, (xI x7), (xI x8), (xI x9), (xI x10), (xI x11), (xI x12), x13]; (((v84.i = 0) →
(Px 711 [(xI v59.i), (xI v60.i), (xI v61.i), (xI v62.i), (xI v63.i), (xI v64.i), v65, (xI x7), (xI x8), (xI x9), (xI x10), (xI x11), (xI x12), x13] ∧
(let v88 : X := Ff 701 [(xI v59.i), (xI v60.i), (xI v61.i), (xI v62.i), (xI v63.i), (xI v64.i), v65, (xI x7), (xI x8), (xI x9), (xI x10), (xI x11), (xI x12), x13]; let v89 : X := Ff 702 [(xI v59.i), (xI v60.i), (xI v61.i), (xI v62.i), (xI v63.i), (xI v64.i), v65, (xI x7), (xI x8), (xI x9), (xI x10), (xI x11), (xI x12), x13]; let v90 : X := Ff 703 [(xI v59.i), (xI v60.i), (xI v61.i), (xI v62.i), (xI v63.i), (xI v64.i), v65, (xI x7), (xI x8), (xI x9), (xI x10), (xI x11), (xI x12), x13]; let v91 : X := Ff 704 [(xI v59.i), (xI v60.i), (xI v61.i), (xI v62.i), (xI v63.i), (xI v64.i), v65, (xI x7), (xI x8), (xI x9), (xI x10), (xI x11), (xI x12), x13]; let v92 : X := Ff 705 [(xI v59.i), (xI v60.i), (xI v61.i), (xI v62.i), (xI v63.i), (xI v64.i), v65, (xI x7), (xI x8), (xI x9), (xI x10), (xI x11), (xI x12), x13]; let v93 : X := Ff 706 [(xI v59.i), (xI v60.i), (xI v61.i), (xI v62.i), (xI v63.i), (xI v64.i), v65, (xI x7), (xI x8), (xI x9), (xI x10), (xI x11), (xI x12), x13]; let v94 : X := Ff 707 [(xI v59.i), (xI v60.i), (xI v61.i), (xI v62.i), (xI v63.i), (xI v64.i), v65, (xI x7), (xI x8), (xI x9), (xI x10), (xI x11), (xI x12), x13]; let v95 : X := Ff 715 [(xI v88.i), (xI v89.i), (xI v90.i), (xI v91.i), (xI v92.i), (xI v93.i), v94, (xI v59.i), (xI v60.i), (xI v61.i), (xI v62.i), (xI v63.i), (xI v64.i), v65]; (v95.b = true)))) ∧
((¬ (v84.i = 0)) →
(false = true)))))) ∧
((¬ (v80.b = true)) →
(false = true))))))) ∧
((¬ (v67.i = v68.i)) →
(false = true))))))))) ∧
((¬ ((v53.b = true) ∧ (v54.b = true))) →
(Px 711 [(xI x0), (xI x1), (xI x2), (xI x3), (xI x4), (xI x5), x6, (xI x7), (xI x8), (xI x9), (xI x10), (xI x11), (xI x12), x13] ∧
(let v101 : X := Ff 701 [(xI x0), (xI x1), (xI x2), (xI x3), (xI x4), (xI x5), x6, (xI x7), (xI x8), (xI x9), (xI x10), (xI x11), (xI x12), x13]; let v102 : X := Ff 702 [(xI x0), (xI x1), (xI x2), (xI x3), (xI x4), (xI x5), x6, (xI x7), (xI x8), (xI x9), (xI x10), (xI x11), (xI x12), x13]; let v103 : X := Ff 703 [(xI x0), (xI x1), (xI x2), (xI x3), (xI x4), (xI x5), x6, (xI x7), (xI x8), (xI x9), (xI x10), (xI x11), (xI x12), x13]; let v104 : X := Ff 704 [(xI x0), (xI x1), (xI x2), (xI x3), (xI x4), (xI x5), x6, (xI x7), (xI x8), (xI x9), (xI x10), (xI x11), (xI x12), x13]; let v105 : X := Ff 705 [(xI x0), (xI x1), (xI x2), (xI x3), (xI x4), (xI x5), x6, (xI x7), (xI x8), (xI x9), (xI x10), (xI x11), (xI x12), x13]; let v106 : X := Ff 706 [(xI x0), (xI x1), (xI x2), (xI x3), (xI x4), (xI x5), x6, (xI x7), (xI x8), (xI x9), (xI x10), (xI x11), (xI x12), x13]; let v107 : X := Ff 707 [(xI x0), (xI x1), (xI x2), (xI x3), (xI x4), (xI x5), x6, (xI x7), (xI x8), (xI x9), (xI x10), (xI x11), (xI x12), x13]; (Px 710 [(xI v101.i), (xI v102.i), (xI v103.i), (xI v104.i), (xI v105.i), (xI v106.i), v107, (xI x14), (xI x15), (xI x16)] ∧
(let v109 : X := Ff 908 [(xI v101.i), (xI v102.i), (xI v103.i), (xI v104.i), (xI v105.i), (xI v106.i), v107, (xI x14), (xI x15), (xI x16)]; let v110 : X := Ff 908 [(xI x0), (xI x1), (xI x2), (xI x3), (xI x4), (xI x5), x6, (xI x14), (xI x15), (xI x16)]; (((v109.i = v110.i) →
(let v113 : X := Ff 950 [(xI x0), (xI x1), (xI x2), (xI x3), (xI x4), (xI x5), x6, (xI x7), (xI x8), (xI x9), (xI x10), (xI x11), (xI x12), x13]; (Px 917 [(xI x0), (xI x1), (xI x2), (xI x3), (xI x4), (xI x5), x6, v113] ∧
(let v115 : X := Ff 910 [(xI x0), (xI x1), (xI x2), (xI x3), (xI x4), (xI x5), x6, v113]; let v116 : X := Ff 911 [(xI x0), (xI x1), (xI x2), (xI x3), (xI x4), (xI x5), x6, v113]; let v117 : X := Ff 912 [(xI x0), (xI x1), (xI x2), (xI x3), (xI x4), (xI x5), x6, v113]; let v118 : X := Ff 913 [(xI x0), (xI x1), (xI x2), (xI x3), (xI x4), (xI x5), x6, v113]; let v119 : X := Ff 914 [(xI x0), (xI x1), (xI x2), (xI x3), (xI x4), (xI x5), x6, v113]; let v120 : X := Ff 915 [(xI x0), (xI x1), (xI x2), (xI x3), (xI x4), (xI x5), x6, v113]; let v121 : X := Ff 916 [(xI x0), (xI x1), (xI x2), (xI x3), (xI x4), (xI x5), x6, v113]; let v122 : X := Ff 715 [(xI v115.i), (xI v116.i), (xI v117.i), (xI v118.i), (xI v119.i), (xI v120.i), v121, (xI v101.i), (xI v102.i), (xI v103.i), (xI v104.i), (xI v105.i), (xI v106.i), v107]; (((v122.b = true) →
(Px 711 [(xI v101.i), (xI v102.i), (xI v103.i), (xI v104.i), (xI v105.i), (xI v106.i), v107, (xI x7), (xI x8), (xI x9), (xI x10), (xI x11), (xI x12), x13] ∧
(let v126 : X := Ff 950 [(xI v101.i), (xI v102.i), (xI v103.i), (xI v104.i), (xI v105.i), (xI v106.i), v107, (xI x7), (xI x8), (xI x9), (xI x10), (xI x11), (xI x12), x13]; (((v126.i = 0) →
(Px 711 [(xI v101.i), (xI v102.i), (xI v103.i), (xI v104.i), (xI v105.i), (xI v106.i), v107, (xI x7), (xI x8), (xI x9), (xI x10), (xI x11), (xI x12), x13] ∧
(let v130 : X := Ff 701 [(xI v101.i), (xI v102.i), (xI v103.i), (xI v104.i), (xI v105.i), (xI v106.i), v107, (xI x7), (xI x8), (xI x9), (xI x10), (xI x11), (xI x12), x13]; let v131 : X := Ff 702 [(xI v101.i), (xI v102.i), (xI v103.i), (xI v104.i), (xI v105.i), (xI v106.i), v107, (xI x7), (xI x8), (xI x9), (xI x10), (xI x11), (xI x12), x13]; let v132 : X := Ff 703 [(xI v101.i), (xI v102.i), (xI v103.i), (xI v104.i), (xI v105.i), (xI v106.i), v107, (xI x7), (xI x8), (xI x9), (xI x10), (xI x11), (xI x12), x13]; let v133 : X := Ff 704 [(xI v101.i), (xI v102.i), (xI v103.i), (xI v104.i), (xI v105.i), (xI v106.i), v107, (xI x7), (xI x8), (xI x9), (xI x10), (xI x11), (xI x12), x13]; let v134 : X := Ff 705 [(xI v101.i), (xI v102.i), (xI v103.i), (xI v104.i), (xI v105.i), (xI v106.i), v107, (xI x7), (xI x8), (xI x9), (xI x10), (xI x11), (xI x12), x13]; let v135 : X := Ff 706 [(xI v101.i), (xI v102.i), (xI v103.i), (xI v104.i), (xI v105.i), (xI v106.i), v107, (xI x7), (xI x8), (xI x9), (xI x10), (xI x11), (xI x12), x13]; let v136 : X := Ff 707 [(xI v101.i), (xI v102.i), (xI v103.i), (xI v104.i), (xI v105.i), (xI v106.i), v107, (xI x7), (xI x8), (xI x9), (xI x10), (xI x11), (xI x12), x13]; let v137 : X := Ff 715 [(xI v130.i), (xI v131.i), (xI v132.i), (xI v133.i), (xI v134.i), (xI v135.i), v136, (xI v101.i), (xI v102.i), (xI v103.i), (xI v104.i), (xI v105.i), (xI v106.i), v107]; (v137.b = true)))) ∧
((¬ (v126.i = 0)) →
(false = true)))))) ∧
((¬ (v122.b = true)) →
(false = true))))))) ∧
((¬ (v109.i = v110.i)) →
(false = true))))))))))))))))))))))))))))))) ∧
(((1000 < x13.i) ∨ (¬ (v21.b = true))) →
(true = true))))))))))))))))) ∧
(((1000 < x6.i) ∨ (¬ (v0.b = true))) →
(true = true))))
noncomputable def sh : List RSh := (shTs Tryd.prog [28, 28, 23]).getD []
attribute [irreducible] sh
theorem link (x0 : Int) (x1 : Int) (x2 : Int) (x3 : Int) (x4 : Int) (x5 : Int) (x6 : X) (x7 : Int) (x8 : Int) (x9 : Int) (x10 : Int) (x11 : Int) (x12 : Int) (x13 : X) (x14 : Int) (x15 : Int) (x16 : Int) : (walkR Tryd.prog (cfG none L07 R07p [] sumC) Tryd.f5 1600 sh).law { ρ0 with x := fun j => [xI x0, xI x1, xI x2, xI x3, xI x4, xI x5, x6, xI x7, xI x8, xI x9, xI x10, xI x11, xI x12, x13, xI x14, xI x15, xI x16].getD j (xI 0) } = lawP x0 x1 x2 x3 x4 x5 x6 x7 x8 x9 x10 x11 x12 x13 x14 x15 x16 := by kernel_rfl
set_option maxHeartbeats 4000000 in
theorem lawP_ok (x0 : Int) (x1 : Int) (x2 : Int) (x3 : Int) (x4 : Int) (x5 : Int) (x6 : X) (x7 : Int) (x8 : Int) (x9 : Int) (x10 : Int) (x11 : Int) (x12 : Int) (x13 : X) (x14 : Int) (x15 : Int) (x16 : Int) (g0 : -9223372036854775808 ≤ x0 ∧ x0 ≤ 9223372036854775807) (g1 : -9223372036854775808 ≤ x1 ∧ x1 ≤ 9223372036854775807) (g2 : -9223372036854775808 ≤ x2 ∧ x2 ≤ 9223372036854775807) (g3 : -9223372036854775808 ≤ x3 ∧ x3 ≤ 9223372036854775807) (g4 : -9223372036854775808 ≤ x4 ∧ x4 ≤ 9223372036854775807) (g5 : -9223372036854775808 ≤ x5 ∧ x5 ≤ 9223372036854775807) (g6 : 0 ≤ x6.i ∧ x6.i ≤ 9223372036854775807 ∧ RowOk [.int .i64 (-9223372036854775808) (9223372036854775807)] x6.r x6.i.toNat) (g7 : -9223372036854775808 ≤ x7 ∧ x7 ≤ 9223372036854775807) (g8 : -9223372036854775808 ≤ x8 ∧ x8 ≤ 9223372036854775807) (g9 : -9223372036854775808 ≤ x9 ∧ x9 ≤ 9223372036854775807) (g10 : -9223372036854775808 ≤ x10 ∧ x10 ≤ 9223372036854775807) (g11 : -9223372036854775808 ≤ x11 ∧ x11 ≤ 9223372036854775807) (g12 : -9223372036854775808 ≤ x12 ∧ x12 ≤ 9223372036854775807) (g13 : 0 ≤ x13.i ∧ x13.i ≤ 9223372036854775807 ∧ RowOk [.int .i64 (-9223372036854775808) (9223372036854775807)] x13.r x13.i.toNat) (g14 : -9223372036854775808 ≤ x14 ∧ x14 ≤ 9223372036854775807) (g15 : -9223372036854775808 ≤ x15 ∧ x15 ≤ 9223372036854775807) (g16 : -9223372036854775808 ≤ x16 ∧ x16 ≤ 9223372036854775807) : lawP x0 x1 x2 x3 x4 x5 x6 x7 x8 x9 x10 x11 x12 x13 x14 x15 x16 := by
  unfold lawP
  intro v0
  refine And.intro ?_ ?_
  · intro h2
    refine And.intro ?_ ?_
    · intro h4
      rfl -- #0
    intro h5
    refine And.intro ?_ ?_
    · intro h7
      rfl -- #1
    intro h8
    refine And.intro ?_ ?_
    · intro h10
      rfl -- #2
    intro h11
    refine And.intro ?_ ?_
    · intro h13
      rfl -- #3
    intro h14
    refine And.intro ?_ ?_
    · intro h16
      rfl -- #4
    intro h17
    refine And.intro ?_ ?_
    · intro h19
      rfl -- #5
    intro h20
    intro v21
    refine And.intro ?_ ?_
    · intro h23
      refine And.intro ?_ ?_
      · intro h25
        rfl -- #6
      intro h26
      refine And.intro ?_ ?_
      · intro h28
        rfl -- #7
      intro h29
      refine And.intro ?_ ?_
      · intro h31
        rfl -- #8
      intro h32
      refine And.intro ?_ ?_
      · intro h34
        rfl -- #9
      intro h35
      refine And.intro ?_ ?_
      · intro h37
        rfl -- #10
      intro h38
      refine And.intro ?_ ?_
      · intro h40
        rfl -- #11
      intro h41
      refine And.intro ?_ ?_
      · intro h43
        rfl -- #12
      intro h44
      refine And.intro ?_ ?_
      · intro h46
        rfl -- #13
      intro h47
      refine And.intro ?_ ?_
      · intro h49
        rfl -- #14
      intro h50
      have gv : validG ⟨bxI x0 x1 x2 x3 x4 x5, lstX deI x6⟩ = true := by
        cases hb : v0.b with
        | true => exact hb
        | false => exact absurd (.inr (by rw [hb]; decide)) h2
      have gw : validG ⟨bxI x7 x8 x9 x10 x11 x12, lstX deI x13⟩ = true := by
        cases hb : v21.b with
        | true => exact hb
        | false => exact absurd (.inr (by rw [hb]; decide)) h23
      have hv := val_len gv
      have gp' := val_pas (b' := bxI x7 x8 x9 x10 x11 x12) gv (val_mat gw)
      have hch := dif_chgs (b' := bxI x7 x8 x9 x10 x11 x12) gv (val_mat gw)
      refine andI ?_ fun o51 => ?_
      · exact ⟨gv, gw⟩ -- #15
      refine andI ?_ fun o52 => ?_
      · exact gv -- #16
      intro v53
      intro v54
      refine And.intro ?_ ?_
      · intro h56
        refine andI ?_ fun o57 => ?_
        · exact gw -- #17
        refine andI ?_ fun o58 => ?_
        · exact ⟨gv, gw⟩ -- #18
        intro v59
        intro v60
        intro v61
        intro v62
        intro v63
        intro v64
        intro v65
        have e65 : lstX deI v65 = pasL (bxI x0 x1 x2 x3 x4 x5) (lstX deI x6) (bxI x7 x8 x9 x10 x11 x12) (lstX deI x13) := lstX_rowG (enc := enI) (dec := deI) (fun _ => rfl) _
        refine andI ?_ fun o66 => ?_
        · skip -- #19
          show validG ⟨bxI x0 x1 x2 x3 x4 x5, lstX deI v65⟩ = true
          rw [e65]
          exact gp'
        intro v67
        intro v68
        have e67 : v67.i = v68.i := by
          show getL (bxI x0 x1 x2 x3 x4 x5) (lstX deI v65) (x14, x15, x16) = getL (bxI x7 x8 x9 x10 x11 x12) (lstX deI x13) (x14, x15, x16)
          rw [e65, get_pas hv]
          exact if_pos h56
        refine And.intro ?_ ?_
        · intro h70
          intro v71
          refine andI ?_ fun o72 => ?_
          · exact ⟨gv, hch⟩ -- #20
          intro v73
          intro v74
          intro v75
          intro v76
          intro v77
          intro v78
          intro v79
          have e79 : lstX deI v79 = lstX deI v65 := by
            rw [e65]
            refine (lstX_rowG (enc := enI) (dec := deI) (fun _ => rfl) _).trans ?_
            show wrL (bxI x0 x1 x2 x3 x4 x5) (lstX deI x6) (lstX deC (rowG enC (difL (bxI x0 x1 x2 x3 x4 x5) (lstX deI x6) (bxI x7 x8 x9 x10 x11 x12) (lstX deI x13)))) = _
            rw [lst_dif, wr_dif hv]
          intro v80
          have e80 : v80.b = true := by
            show eqG (bxI x0 x1 x2 x3 x4 x5) (lstX deI v79) (bxI x0 x1 x2 x3 x4 x5) (lstX deI v65) = true
            exact eqG_of rfl e79
          refine And.intro ?_ ?_
          · intro h82
            refine andI ?_ fun o83 => ?_
            · skip -- #21
              refine ⟨?_, gw⟩
              show validG ⟨bxI x0 x1 x2 x3 x4 x5, lstX deI v65⟩ = true
              rw [e65]
              exact gp'
            intro v84
            have e84 : v84.i = 0 := by
              show ((difL (bxI x0 x1 x2 x3 x4 x5) (lstX deI v65) (bxI x7 x8 x9 x10 x11 x12) (lstX deI x13)).length : Int) = 0
              rw [e65, dif_pas]
              rfl
            refine And.intro ?_ ?_
            · intro h86
              refine andI ?_ fun o87 => ?_
              · skip -- #22
                refine ⟨?_, gw⟩
                show validG ⟨bxI x0 x1 x2 x3 x4 x5, lstX deI v65⟩ = true
                rw [e65]
                exact gp'
              intro v88
              intro v89
              intro v90
              intro v91
              intro v92
              intro v93
              intro v94
              have e94 : lstX deI v94 = lstX deI v65 := by
                refine (lstX_rowG (enc := enI) (dec := deI) (fun _ => rfl) _).trans ?_
                show pasL (bxI x0 x1 x2 x3 x4 x5) (lstX deI v65) (bxI x7 x8 x9 x10 x11 x12) (lstX deI x13) = lstX deI v65
                rw [e65, pas_pas]
              intro v95
              skip -- #23
              show eqG (bxI x0 x1 x2 x3 x4 x5) (lstX deI v94) (bxI x0 x1 x2 x3 x4 x5) (lstX deI v65) = true
              exact eqG_of rfl e94
            intro h96
            exact absurd e84 h96 -- #24
          intro h97
          exact absurd e80 h97 -- #25
        intro h98
        exact absurd e67 h98 -- #26
      intro h99
      refine andI ?_ fun o100 => ?_
      · exact ⟨gv, gw⟩ -- #27
      intro v101
      intro v102
      intro v103
      intro v104
      intro v105
      intro v106
      intro v107
      have e107 : lstX deI v107 = pasL (bxI x0 x1 x2 x3 x4 x5) (lstX deI x6) (bxI x7 x8 x9 x10 x11 x12) (lstX deI x13) := lstX_rowG (enc := enI) (dec := deI) (fun _ => rfl) _
      refine andI ?_ fun o108 => ?_
      · skip -- #28
        show validG ⟨bxI x0 x1 x2 x3 x4 x5, lstX deI v107⟩ = true
        rw [e107]
        exact gp'
      intro v109
      intro v110
      have e109 : v109.i = v110.i := by
        show getL (bxI x0 x1 x2 x3 x4 x5) (lstX deI v107) (x14, x15, x16) = getL (bxI x0 x1 x2 x3 x4 x5) (lstX deI x6) (x14, x15, x16)
        rw [e107, get_pas hv]
        exact if_neg h99
      refine And.intro ?_ ?_
      · intro h112
        intro v113
        refine andI ?_ fun o114 => ?_
        · exact ⟨gv, hch⟩ -- #29
        intro v115
        intro v116
        intro v117
        intro v118
        intro v119
        intro v120
        intro v121
        have e121 : lstX deI v121 = lstX deI v107 := by
          rw [e107]
          refine (lstX_rowG (enc := enI) (dec := deI) (fun _ => rfl) _).trans ?_
          show wrL (bxI x0 x1 x2 x3 x4 x5) (lstX deI x6) (lstX deC (rowG enC (difL (bxI x0 x1 x2 x3 x4 x5) (lstX deI x6) (bxI x7 x8 x9 x10 x11 x12) (lstX deI x13)))) = _
          rw [lst_dif, wr_dif hv]
        intro v122
        have e122 : v122.b = true := by
          show eqG (bxI x0 x1 x2 x3 x4 x5) (lstX deI v121) (bxI x0 x1 x2 x3 x4 x5) (lstX deI v107) = true
          exact eqG_of rfl e121
        refine And.intro ?_ ?_
        · intro h124
          refine andI ?_ fun o125 => ?_
          · skip -- #30
            refine ⟨?_, gw⟩
            show validG ⟨bxI x0 x1 x2 x3 x4 x5, lstX deI v107⟩ = true
            rw [e107]
            exact gp'
          intro v126
          have e126 : v126.i = 0 := by
            show ((difL (bxI x0 x1 x2 x3 x4 x5) (lstX deI v107) (bxI x7 x8 x9 x10 x11 x12) (lstX deI x13)).length : Int) = 0
            rw [e107, dif_pas]
            rfl
          refine And.intro ?_ ?_
          · intro h128
            refine andI ?_ fun o129 => ?_
            · skip -- #31
              refine ⟨?_, gw⟩
              show validG ⟨bxI x0 x1 x2 x3 x4 x5, lstX deI v107⟩ = true
              rw [e107]
              exact gp'
            intro v130
            intro v131
            intro v132
            intro v133
            intro v134
            intro v135
            intro v136
            have e136 : lstX deI v136 = lstX deI v107 := by
              refine (lstX_rowG (enc := enI) (dec := deI) (fun _ => rfl) _).trans ?_
              show pasL (bxI x0 x1 x2 x3 x4 x5) (lstX deI v107) (bxI x7 x8 x9 x10 x11 x12) (lstX deI x13) = lstX deI v107
              rw [e107, pas_pas]
            intro v137
            skip -- #32
            show eqG (bxI x0 x1 x2 x3 x4 x5) (lstX deI v136) (bxI x0 x1 x2 x3 x4 x5) (lstX deI v107) = true
            exact eqG_of rfl e136
          intro h138
          exact absurd e126 h138 -- #33
        intro h139
        exact absurd e122 h139 -- #34
      intro h140
      exact absurd e109 h140 -- #35
    intro h141
    rfl -- #36
  intro h142
  rfl -- #37

/-! ### The frame -/
theorem shape_flat : flatR sh = [.int .i64 (-9223372036854775808) 9223372036854775807, .int .i64 (-9223372036854775808) 9223372036854775807, .int .i64 (-9223372036854775808) 9223372036854775807, .int .i64 (-9223372036854775808) 9223372036854775807, .int .i64 (-9223372036854775808) 9223372036854775807, .int .i64 (-9223372036854775808) 9223372036854775807, .row [.int .i64 (-9223372036854775808) (9223372036854775807)] 9223372036854775807, .int .i64 (-9223372036854775808) 9223372036854775807, .int .i64 (-9223372036854775808) 9223372036854775807, .int .i64 (-9223372036854775808) 9223372036854775807, .int .i64 (-9223372036854775808) 9223372036854775807, .int .i64 (-9223372036854775808) 9223372036854775807, .int .i64 (-9223372036854775808) 9223372036854775807, .row [.int .i64 (-9223372036854775808) (9223372036854775807)] 9223372036854775807, .int .i64 (-9223372036854775808) 9223372036854775807, .int .i64 (-9223372036854775808) 9223372036854775807, .int .i64 (-9223372036854775808) 9223372036854775807] := by kernel_rfl
theorem lawful (ds : Ds) (hr : rshX sh ds) : (walkR Tryd.prog (cfG none L07 R07p [] sumC) Tryd.f5 1600 sh).law { ρ0 with x := fun j => ds.getD j (xI 0) } := by
  have hr := rshX_flat hr
  rw [shape_flat] at hr
  match ds, hr with
  | [d0, d1, d2, d3, d4, d5, d6, d7, d8, d9, d10, d11, d12, d13, d14, d15, d16], hr =>
    obtain ⟨⟨e0, l0, u0⟩, ⟨e1, l1, u1⟩, ⟨e2, l2, u2⟩, ⟨e3, l3, u3⟩, ⟨e4, l4, u4⟩, ⟨e5, l5, u5⟩, l6, ⟨e7, l7, u7⟩, ⟨e8, l8, u8⟩, ⟨e9, l9, u9⟩, ⟨e10, l10, u10⟩, ⟨e11, l11, u11⟩, ⟨e12, l12, u12⟩, l13, ⟨e14, l14, u14⟩, ⟨e15, l15, u15⟩, ⟨e16, l16, u16⟩, _⟩ := hr
    generalize d0.i = x0 at *
    generalize d1.i = x1 at *
    generalize d2.i = x2 at *
    generalize d3.i = x3 at *
    generalize d4.i = x4 at *
    generalize d5.i = x5 at *
    generalize d6 = x6 at *
    generalize d7.i = x7 at *
    generalize d8.i = x8 at *
    generalize d9.i = x9 at *
    generalize d10.i = x10 at *
    generalize d11.i = x11 at *
    generalize d12.i = x12 at *
    generalize d13 = x13 at *
    generalize d14.i = x14 at *
    generalize d15.i = x15 at *
    generalize d16.i = x16 at *
    subst e0 e1 e2 e3 e4 e5 e7 e8 e9 e10 e11 e12 e14 e15 e16
    exact Eq.mpr (link x0 x1 x2 x3 x4 x5 x6 x7 x8 x9 x10 x11 x12 x13 x14 x15 x16) (lawP_ok x0 x1 x2 x3 x4 x5 x6 x7 x8 x9 x10 x11 x12 x13 x14 x15 x16 ⟨l0, u0⟩ ⟨l1, u1⟩ ⟨l2, u2⟩ ⟨l3, u3⟩ ⟨l4, u4⟩ ⟨l5, u5⟩ l6 ⟨l7, u7⟩ ⟨l8, u8⟩ ⟨l9, u9⟩ ⟨l10, u10⟩ ⟨l11, u11⟩ ⟨l12, u12⟩ l13 ⟨l14, u14⟩ ⟨l15, u15⟩ ⟨l16, u16⟩)
theorem shape {H : Type} {ds : List (DataW H)} (h : ds.length = 3) : Rows.gridPastesSpec.fn H ds = { results := [.lit (.bool true)], args := ds } := by
  match ds, h with
  | [d1, d2, d3], _ => rfl
set_option maxRecDepth 100000 in
theorem calls {H : Type} {enc : TypeId × Value → H} (W : World) (base : Nat) (args : Array Value) (ds : List (DataW H)) (p : List MemPlace) (hval : ∀ (j : Nat) t v, Tryd.f5.params[j]? = some t → args[j]? = some v → Value.okWide Tryd.prog W .any base t v)
    (hA : DataW.TrodAll enc Tryd.prog W 0 (fun _ => true) true Tryd.f5.params.toList args.toList ds p) (hg : GlobOk ρ0.g W.heap.size W) : Calls Tryd.prog 5 args W fun e w' => e = .returned (.bool true) ∧ Below W.heap.size W w' := by
  rw [Tryd.params5] at hA hval
  have hs : shTs Tryd.prog [28, 28, 23] = some sh := by
    have : (shTs Tryd.prog [28, 28, 23]).isSome = true := by kernel_rfl
    obtain ⟨s, h⟩ := Option.isSome_iff_exists.1 this
    unfold sh
    rw [h]; rfl
  obtain ⟨ds', hr⟩ := args_rel hA (fun i t v ht hv => hval i t v (by simpa using ht) (by simpa using hv)) hs
  have := law_callsR (L07p_ok) Tryd.func5 rfl 1600 hg hr lawful
  simpa using this
set_option maxRecDepth 100000 in
theorem lifted (os : Os) (started : os.Started) (H : Type) (enc : TypeId × Value → H) :
    ReturnsInHanded {} Tryd.checked os 5 .any (fun w args => (Rows.gridPastesSpec.pre enc Tryd.prog Tryd.f5 [] false w args ∧ laidMetH Tryd.prog [("voxel/point.axes", Rows.laid_voxel_point_axes)] w) ∧ sizedMet enc Tryd.prog Tryd.f5 (OpenSpec.ofChange Rows.gridPastesSpec) false w args)
      (Rows.gridPastesSpec.post enc Tryd.prog Tryd.f5 false true false false) := by
  refine returnsInHanded_of_change_and (C := Tryd.checked) (X := fun w _ => laidMetH Tryd.prog [("voxel/point.axes", Rows.laid_voxel_point_axes)] w) (fun _ _ _ hh h => h.of_heap hh) own started (by kernel_rfl) Tryd.func5
    (ChangeSpec.witness_shaped (enc := enc) (C := Tryd.checked) (os := os) (X := fun w _ => laidMetH Tryd.prog [("voxel/point.axes", Rows.laid_voxel_point_axes)] w) false (World.doorLaid Tryd.prog 400 os) #[((Tryd.prog.info? 28).bind (·.zero)).getD undef, ((Tryd.prog.info? 28).bind (·.zero)).getD undef, ((Tryd.prog.info? 23).bind (·.zero)).getD undef] 8 rfl (World.shaped_of_RefB (by kernel_rfl) (by kernel_rfl)) (by kernel_rfl) (by kernel_rfl) (by kernel_rfl) (door_met os _)) ?_
  intro W base args ds gs before hval hW _ _ hL _
  have hW0 := hW
  obtain ⟨p, q, hA, hV, _⟩ := hW0
  have hlen : ds.length = 3 := (trodAll_len hA).trans (by kernel_rfl)
  refine (calls W base args ds p hval hA (glob_ok hL)).mono fun e W' ⟨he, hb⟩ => ?_
  subst he
  exact ⟨_, rfl, law_post kids slices (by rw [Tryd.params5]; decide +kernel) rfl rfl Tryd.underlying4 (shape hlen) hW hb⟩

theorem over : Rows.GridPastesSaid :=
  OpenClaim.holds_of_wide 5 Tryd.f5 rfl rfl rfl rfl rfl rfl rfl ⟨rfl, rfl, rfl, rfl, rfl⟩ rfl rfl rfl rfl rfl (by kernel_rfl) Tryd.func5 (by kernel_rfl)
    (of_decide_eq_true (by kernel_rfl)) (by unfold Func.isWrapper; first | (rw [if_pos (by decide +kernel)]; kernel_rfl) | (rw [if_neg (by decide +kernel)]; exact ⟨rfl, rfl⟩))
    (fun os started H enc _ => lifted os started H enc)

/-- The statement: the row, its listed variable tied to the program's text. -/
theorem proved : Rows.GridPastesCardSaid :=
  Claim7.holds_tied_plain_at .later [] [.data] true (true, "127ed38f03d5299d2a50fe8d6cb549502e2ebfd838967b6e2d31f5f549e46494") false
    over (fun _ h => by cases h) (by kernel_rfl) (fun _ h => by cases h) gridPastes_row_tie rfl ⟨rfl, rfl⟩ (by kernel_rfl) rfl
    (fun f fn hf hfn => by
      obtain rfl : f = 5 := Option.some.inj ((show Tryd.prog.funcNamed "voxel/voxellaw07.GridPastes" = some 5 by kernel_rfl).symm.trans hf) |>.symm
      obtain rfl : fn = Tryd.f5 := (Option.some.inj (Tryd.func5.symm.trans hfn)).symm
      exact ⟨by kernel_rfl, fun j t ht => by
        rw [Tryd.params5] at ht
        have hm : t ∈ [28, 28, 23] := by simpa using Array.mem_of_getElem? ht
        have hall : ([28, 28, 23].all fun u => !Tryd.prog.wantsStandIn u) = true := by kernel_rfl
        exact (show Tryd.prog.wantsStandIn t = false by simpa using List.all_eq_true.1 hall t hm)⟩)
    (by kernel_rfl)
#print axioms proved
end Go.Proofs.YtleapeclbkclaaaDoor.gridPastes
