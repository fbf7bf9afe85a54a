/- Proved: SettleMatchesSpec: the statement 'SettleMatchesSpecCardSaid' of this seat, for every input that it names; no condition besides. -/
import Derived.Test.YtgbaelpcbhgdjaaDoorC30T
import Derived.Test.YtgbaelpcbhgdjaaDoorC30O
import Derived.Test.YtgbaelpcbhgdjaaDoorRows
import Derived.Test.YtgbaelpcbhgdjaaDoorCards
import Derived.Test.YtgbaelpcbhgdjaaDoorTie
import Derived.SevenTiedAt
import Derived.ProofKit
import Derived.LaidMore
import Derived.Stop.Joined
namespace Go.Proofs.YtgbaelpcbhgdjaaDoor.settleMatchesSpec
open Go Go.ChangeShapes Go.WideShapes Go.ChangeAt Go.RowKit Vc
set_option linter.unusedVariables false


/-- The law's walk, as the machine leaves it. -/
def lawP (x0 : Int) (x1 : Int) (x2 : Int) (x3 : Int) (x4 : Int) (x5 : Int) (x6 : X) (x7 : X) (x8 : Int) (x9 : Int) : Prop :=
(let v0 : X := Ff 861 [(xI x0), (xI x1), (xI x2), (xI x3), (xI x4), (xI x5), x6, x7]; (((¬ (v0.b = true)) →
(true = true)) ∧
((v0.b = true) →
(Px 878 [(xI x0), (xI x1), (xI x2), (xI x3), (xI x4), (xI x5), x6, x7, (xI x8), (xI x9)] ∧
(((-1048575) ≤ x0) ∧
((x0 ≤ 1048575) ∧
(((-1048575) ≤ x1) ∧
((x1 ≤ 1048575) ∧
(((-1048575) ≤ x2) ∧
((x2 ≤ 1048575) ∧
(((-1048575) ≤ x3) ∧
((x3 ≤ 1048575) ∧
(((-1048575) ≤ x4) ∧
((x4 ≤ 1048575) ∧
(((-1048575) ≤ x5) ∧
((x5 ≤ 1048575) ∧
(Px 881 [(xI x0), (xI x1), (xI x2), (xI x3), (xI x4), (xI x5), x6, x7, (xI x8), (xI x9), (xI x0), (xI x1), (xI x2), (xI x3), (xI x4), (xI x5), (xI 0), x6] ∧
(∀ x20 : X, (∀ x21 : X, (∀ x22 : X, (∀ x23 : X, (∀ x24 : X, (∀ x25 : X, (∀ x26 : X, (∀ x27 : X, ((((-1048575) ≤ x20.i) ∧ (x20.i ≤ 1048575)) →
((((-1048575) ≤ x21.i) ∧ (x21.i ≤ 1048575)) →
((((-1048575) ≤ x22.i) ∧ (x22.i ≤ 1048575)) →
((((-1048575) ≤ x23.i) ∧ (x23.i ≤ 1048575)) →
((((-1048575) ≤ x24.i) ∧ (x24.i ≤ 1048575)) →
((((-1048575) ≤ x25.i) ∧ (x25.i ≤ 1048575)) →
(((0 ≤ x26.i) ∧ (x26.i ≤ 20000000000000)) →
((0 ≤ x27.i ∧ x27.i ≤ 9223372036854775807 ∧ RowOk [.int .i64 (-9223372036854775808) (9223372036854775807)] x27.r (x27.i).toNat) →
(Px 881 [(xI x0), (xI x1), (xI x2), (xI x3), (xI x4), (xI x5), x6, x7, (xI x8), (xI x9), x20, x21, x22, x23, x24, x25, x26, x27] →
(Px 710 [(xI x20.i), (xI x21.i), (xI x22.i), (xI x23.i), (xI x24.i), (xI x25.i), x27, x7] ∧
(let v28 : X := Ff 860 [(xI x20.i), (xI x21.i), (xI x22.i), (xI x23.i), (xI x24.i), (xI x25.i), x27, x7]; (((v28.b = true) →
(let v31 : X := Ff 840 [(xI x0), (xI x1), (xI x2), (xI x3), (xI x4), (xI x5), x6, x7, (xI x8), (xI x9)]; let v32 : X := Ff 841 [(xI x0), (xI x1), (xI x2), (xI x3), (xI x4), (xI x5), x6, x7, (xI x8), (xI x9)]; let v33 : X := Ff 842 [(xI x0), (xI x1), (xI x2), (xI x3), (xI x4), (xI x5), x6, x7, (xI x8), (xI x9)]; let v34 : X := Ff 843 [(xI x0), (xI x1), (xI x2), (xI x3), (xI x4), (xI x5), x6, x7, (xI x8), (xI x9)]; let v35 : X := Ff 844 [(xI x0), (xI x1), (xI x2), (xI x3), (xI x4), (xI x5), x6, x7, (xI x8), (xI x9)]; let v36 : X := Ff 845 [(xI x0), (xI x1), (xI x2), (xI x3), (xI x4), (xI x5), x6, x7, (xI x8), (xI x9)]; let v37 : X := Ff 846 [(xI x0), (xI x1), (xI x2), (xI x3), (xI x4), (xI x5), x6, x7, (xI x8), (xI x9)]; let v38 : X := Ff 715 [(xI v31.i), (xI v32.i), (xI v33.i), (xI v34.i), (xI v35.i), (xI v36.i), v37, (xI x20.i), (xI x21.i), (xI x22.i), (xI x23.i), (xI x24.i), (xI x25.i), x27]; let v39 : X := Ff 847 [(xI x0), (xI x1), (xI x2), (xI x3), (xI x4), (xI x5), x6, x7, (xI x8), (xI x9)]; let v40 : X := Ff 848 [(xI x0), (xI x1), (xI x2), (xI x3), (xI x4), (xI x5), x6, x7, (xI x8), (xI x9)]; (((((v38.b = true) ∧ (v39.i = x26.i)) ∧ (v40.i = 0)) →
 Px 710 [(xI x0), (xI x1), (xI x2), (xI x3), (xI x4), (xI x5), x6, x7]) ∧
(((((v38.b = true) ∧ (v39.i = x26.i)) ∧ (v40.i = 0)) →
 Px 710 [(xI x0), (xI x1), (xI x2), (xI x3), (xI x4), (xI x5), x6, x7]) ∧
(((v38.b = true) ∧ (v39.i = x26.i)) ∧ (v40.i = 0)))))) ∧
((¬ (v28.b = true)) →
(((x9 ≤ x26.i) →
(let v48 : X := Ff 840 [(xI x0), (xI x1), (xI x2), (xI x3), (xI x4), (xI x5), x6, x7, (xI x8), (xI x9)]; let v49 : X := Ff 841 [(xI x0), (xI x1), (xI x2), (xI x3), (xI x4), (xI x5), x6, x7, (xI x8), (xI x9)]; let v50 : X := Ff 842 [(xI x0), (xI x1), (xI x2), (xI x3), (xI x4), (xI x5), x6, x7, (xI x8), (xI x9)]; let v51 : X := Ff 843 [(xI x0), (xI x1), (xI x2), (xI x3), (xI x4), (xI x5), x6, x7, (xI x8), (xI x9)]; let v52 : X := Ff 844 [(xI x0), (xI x1), (xI x2), (xI x3), (xI x4), (xI x5), x6, x7, (xI x8), (xI x9)]; let v53 : X := Ff 845 [(xI x0), (xI x1), (xI x2), (xI x3), (xI x4), (xI x5), x6, x7, (xI x8), (xI x9)]; let v54 : X := Ff 846 [(xI x0), (xI x1), (xI x2), (xI x3), (xI x4), (xI x5), x6, x7, (xI x8), (xI x9)]; let v55 : X := Ff 715 [(xI v48.i), (xI v49.i), (xI v50.i), (xI v51.i), (xI v52.i), (xI v53.i), v54, (xI x20.i), (xI x21.i), (xI x22.i), (xI x23.i), (xI x24.i), (xI x25.i), x27]; let v56 : X := Ff 847 [(xI x0), (xI x1), (xI x2), (xI x3), (xI x4), (xI x5), x6, x7, (xI x8), (xI x9)]; let v57 : X := Ff 848 [(xI x0), (xI x1), (xI x2), (xI x3), (xI x4), (xI x5), x6, x7, (xI x8), (xI x9)]; (((((v55.b = true) ∧ (v56.i = x26.i)) ∧ (v57.i = 19)) →
 Px 710 [(xI x0), (xI x1), (xI x2), (xI x3), (xI x4), (xI x5), x6, x7]) ∧
(((((v55.b = true) ∧ (v56.i = x26.i)) ∧ (v57.i = 19)) →
 Px 710 [(xI x0), (xI x1), (xI x2), (xI x3), (xI x4), (xI x5), x6, x7]) ∧
(((v55.b = true) ∧ (v56.i = x26.i)) ∧ (v57.i = 19)))))) ∧
((¬ (x9 ≤ x26.i)) →
(Px 880 [(xI x20.i), (xI x21.i), (xI x22.i), (xI x23.i), (xI x24.i), (xI x25.i), x27, x7, (xI ((((Int.tmod x8 4) + 4) % 4) + x26.i)), (xI x20.i), (xI x21.i), (xI x22.i), (xI x23.i), (xI x24.i), (xI x25.i), (xI 0), (xI 0), x27] ∧
(∀ x40 : X, (∀ x41 : X, (∀ x42 : X, (∀ x43 : X, (∀ x44 : X, (∀ x45 : X, (∀ x46 : X, (∀ x47 : X, (∀ x48 : X, ((((-1048575) ≤ x40.i) ∧ (x40.i ≤ 1048575)) →
((((-1048575) ≤ x41.i) ∧ (x41.i ≤ 1048575)) →
((((-1048575) ≤ x42.i) ∧ (x42.i ≤ 1048575)) →
((((-1048575) ≤ x43.i) ∧ (x43.i ≤ 1048575)) →
((((-1048575) ≤ x44.i) ∧ (x44.i ≤ 1048575)) →
((((-1048575) ≤ x45.i) ∧ (x45.i ≤ 1048575)) →
(((0 ≤ x46.i) ∧ (x46.i ≤ 2097152)) →
(((0 ≤ x47.i) ∧ (x47.i ≤ 2097152)) →
((0 ≤ x48.i ∧ x48.i ≤ 9223372036854775807 ∧ RowOk [.int .i64 (-9223372036854775808) (9223372036854775807)] x48.r (x48.i).toNat) →
(Px 880 [(xI x20.i), (xI x21.i), (xI x22.i), (xI x23.i), (xI x24.i), (xI x25.i), x27, x7, (xI ((((Int.tmod x8 4) + 4) % 4) + x26.i)), x40, x41, x42, x43, x44, x45, x46, x47, x48] →
(((x46.i < x48.i) →
(let v76 : X := Ff 270 [(xI x40.i), (xI x41.i), (xI x42.i), (xI x43.i), (xI x44.i), (xI x45.i), (xI x46.i)]; let v77 : X := Ff 271 [(xI x40.i), (xI x41.i), (xI x42.i), (xI x43.i), (xI x44.i), (xI x45.i), (xI x46.i)]; let v78 : X := Ff 272 [(xI x40.i), (xI x41.i), (xI x42.i), (xI x43.i), (xI x44.i), (xI x45.i), (xI x46.i)]; (Px 710 [(xI x40.i), (xI x41.i), (xI x42.i), (xI x43.i), (xI x44.i), (xI x45.i), x48, x7, (xI ((((Int.tmod x8 4) + 4) % 4) + x26.i)), (xI v76.i), (xI v77.i), (xI v78.i)] ∧
(let v80 : X := Ff 813 [(xI x40.i), (xI x41.i), (xI x42.i), (xI x43.i), (xI x44.i), (xI x45.i), x48, x7, (xI ((((Int.tmod x8 4) + 4) % 4) + x26.i)), (xI v76.i), (xI v77.i), (xI v78.i)]; (((¬ (v80.b = true)) →
(((x46.i + 1) ≤ 2097152) ∧
(Px 880 [(xI x20.i), (xI x21.i), (xI x22.i), (xI x23.i), (xI x24.i), (xI x25.i), x27, x7, (xI ((((Int.tmod x8 4) + 4) % 4) + x26.i)), (xI x40.i), (xI x41.i), (xI x42.i), (xI x43.i), (xI x44.i), (xI x45.i), (xI (x46.i + 1)), (xI x47.i), x48] ∧
(let v85 : X := Ff 899 [(xI x20.i), (xI x21.i), (xI x22.i), (xI x23.i), (xI x24.i), (xI x25.i), x27, x7, (xI ((((Int.tmod x8 4) + 4) % 4) + x26.i)), (xI x40.i), (xI x41.i), (xI x42.i), (xI x43.i), (xI x44.i), (xI x45.i), (xI (x46.i + 1)), (xI x47.i), x48]; let v86 : X := Ff 899 [(xI x20.i), (xI x21.i), (xI x22.i), (xI x23.i), (xI x24.i), (xI x25.i), x27, x7, (xI ((((Int.tmod x8 4) + 4) % 4) + x26.i)), x40, x41, x42, x43, x44, x45, x46, x47, x48]; ((v85.i < v86.i) ∧
(0 < v86.i)))))) ∧
((v80.b = true) →
(Px 710 [(xI x40.i), (xI x41.i), (xI x42.i), (xI x43.i), (xI x44.i), (xI x45.i), x48, (xI v76.i), (xI v77.i), (xI v78.i)] ∧
(let v90 : X := Ff 810 [(xI x40.i), (xI x41.i), (xI x42.i), (xI x43.i), (xI x44.i), (xI x45.i), x48, x7, (xI ((((Int.tmod x8 4) + 4) % 4) + x26.i)), (xI v76.i), (xI v77.i), (xI v78.i)]; let v91 : X := Ff 811 [(xI x40.i), (xI x41.i), (xI x42.i), (xI x43.i), (xI x44.i), (xI x45.i), x48, x7, (xI ((((Int.tmod x8 4) + 4) % 4) + x26.i)), (xI v76.i), (xI v77.i), (xI v78.i)]; let v92 : X := Ff 812 [(xI x40.i), (xI x41.i), (xI x42.i), (xI x43.i), (xI x44.i), (xI x45.i), x48, x7, (xI ((((Int.tmod x8 4) + 4) % 4) + x26.i)), (xI v76.i), (xI v77.i), (xI v78.i)]; (Px 710 [(xI x40.i), (xI x41.i), (xI x42.i), (xI x43.i), (xI x44.i), (xI x45.i), x48, (xI v90.i), (xI v91.i), (xI v92.i)] ∧
(let v94 : X := Ff 838 [(xI x40.i), (xI x41.i), (xI x42.i), (xI x43.i), (xI x44.i), (xI x45.i), x48, (xI v90.i), (xI v91.i), (xI v92.i)]; (Px 710 [(xI x40.i), (xI x41.i), (xI x42.i), (xI x43.i), (xI x44.i), (xI x45.i), x48, (xI v76.i), (xI v77.i), (xI v78.i), (xI v94.i)] ∧
(let v96 : X := Ff 701 [(xI x40.i), (xI x41.i), (xI x42.i), (xI x43.i), (xI x44.i), (xI x45.i), x48, (xI v76.i), (xI v77.i), (xI v78.i), (xI v94.i)]; let v97 : X := Ff 702 [(xI x40.i), (xI x41.i), (xI x42.i), (xI x43.i), (xI x44.i), (xI x45.i), x48, (xI v76.i), (xI v77.i), (xI v78.i), (xI v94.i)]; let v98 : X := Ff 703 [(xI x40.i), (xI x41.i), (xI x42.i), (xI x43.i), (xI x44.i), (xI x45.i), x48, (xI v76.i), (xI v77.i), (xI v78.i), (xI v94.i)]; let v99 : X := Ff 704 [(xI x40.i), (xI x41.i), (xI x42.i), (xI x43.i), (xI x44.i), (xI x45.i), x48, (xI v76.i), (xI v77.i), (xI v78.i), (xI v94.i)]; let v100 : X := Ff 705 [(xI x40.i), (xI x41.i), (xI x42.i), (xI x43.i), (xI x44.i), (xI x45.i), x48, (xI v76.i), (xI v77.i), (xI v78.i), (xI v94.i)]; let v101 : X := Ff 706 [(xI x40.i), (xI x41.i), (xI x42.i), (xI x43.i), (xI x44.i), (xI x45.i), x48, (xI v76.i), (xI v77.i), (xI v78.i), (xI v94.i)]; let v102 : X := Ff 707 [(xI x40.i), (xI x41.i), (xI x42.i), (xI x43.i), (xI x44.i), (xI x45.i), x48, (xI v76.i), (xI v77.i), (xI v78.i), (xI v94.i)]; let v103 : X := Ff 838 [(xI x40.i), (xI x41.i), (xI x42.i), (xI x43.i), (xI x44.i), (xI x45.i), x48, (xI v76.i), (xI v77.i), (xI v78.i)]; (Px 710 [(xI v96.i), (xI v97.i), (xI v98.i), (xI v99.i), (xI v100.i), (xI v101.i), v102, (xI v90.i), (xI v91.i), (xI v92.i), (xI v103.i)] ∧
(((x47.i + 1) ≤ 2097152) ∧
(((x46.i + 1) ≤ 2097152) ∧
(let v107 : X := Ff 701 [(xI v96.i), (xI v97.i), (xI v98.i), (xI v99.i), (xI v100.i), (xI v101.i), v102, (xI v90.i), (xI v91.i), (xI v92.i), (xI v103.i)]; let v108 : X := Ff 702 [(xI v96.i), (xI v97.i), (xI v98.i), (xI v99.i), (xI v100.i), (xI v101.i), v102, (xI v90.i), (xI v91.i), (xI v92.i), (xI v103.i)]; let v109 : X := Ff 703 [(xI v96.i), (xI v97.i), (xI v98.i), (xI v99.i), (xI v100.i), (xI v101.i), v102, (xI v90.i), (xI v91.i), (xI v92.i), (xI v103.i)]; let v110 : X := Ff 704 [(xI v96.i), (xI v97.i), (xI v98.i), (xI v99.i), (xI v100.i), (xI v101.i), v102, (xI v90.i), (xI v91.i), (xI v92.i), (xI v103.i)]; let v111 : X := Ff 705 [(xI v96.i), (xI v97.i), (xI v98.i), (xI v99.i), (xI v100.i), (xI v101.i), v102, (xI v90.i), (xI v91.i), (xI v92.i), (xI v103.i)]; let v112 : X := Ff 706 [(xI v96.i), (xI v97.i), (xI v98.i), (xI v99.i), (xI v100.i), (xI v101.i), v102, (xI v90.i), (xI v91.i), (xI v92.i), (xI v103.i)]; let v113 : X := Ff 707 [(xI v96.i), (xI v97.i), (xI v98.i), (xI v99.i), (xI v100.i), (xI v101.i), v102, (xI v90.i), (xI v91.i), (xI v92.i), (xI v103.i)]; (Px 880 [(xI x20.i), (xI x21.i), (xI x22.i), (xI x23.i), (xI x24.i), (xI x25.i), x27, x7, (xI ((((Int.tmod x8 4) + 4) % 4) + x26.i)), (xI v107.i), (xI v108.i), (xI v109.i), (xI v110.i), (xI v111.i), (xI v112.i), (xI (x46.i + 1)), (xI (x47.i + 1)), v113] ∧
(let v115 : X := Ff 899 [(xI x20.i), (xI x21.i), (xI x22.i), (xI x23.i), (xI x24.i), (xI x25.i), x27, x7, (xI ((((Int.tmod x8 4) + 4) % 4) + x26.i)), (xI v107.i), (xI v108.i), (xI v109.i), (xI v110.i), (xI v111.i), (xI v112.i), (xI (x46.i + 1)), (xI (x47.i + 1)), v113]; let v116 : X := Ff 899 [(xI x20.i), (xI x21.i), (xI x22.i), (xI x23.i), (xI x24.i), (xI x25.i), x27, x7, (xI ((((Int.tmod x8 4) + 4) % 4) + x26.i)), x40, x41, x42, x43, x44, x45, x46, x47, x48]; ((v115.i < v116.i) ∧
(0 < v116.i)))))))))))))))))))) ∧
((¬ (x46.i < x48.i)) →
(((x26.i + 1) ≤ 20000000000000) ∧
(Px 881 [(xI x0), (xI x1), (xI x2), (xI x3), (xI x4), (xI x5), x6, x7, (xI x8), (xI x9), (xI x40.i), (xI x41.i), (xI x42.i), (xI x43.i), (xI x44.i), (xI x45.i), (xI (x26.i + 1)), x48] ∧
(let v121 : X := Ff 893 [(xI x0), (xI x1), (xI x2), (xI x3), (xI x4), (xI x5), x6, x7, (xI x8), (xI x9), (xI x40.i), (xI x41.i), (xI x42.i), (xI x43.i), (xI x44.i), (xI x45.i), (xI (x26.i + 1)), x48]; let v122 : X := Ff 893 [(xI x0), (xI x1), (xI x2), (xI x3), (xI x4), (xI x5), x6, x7, (xI x8), (xI x9), x20, x21, x22, x23, x24, x25, x26, x27]; ((v121.i < v122.i) ∧
(0 < v122.i)))))))))))))))))))))))))))))))))))))))))))))))))))))))))))))))))))
noncomputable def sh : List RSh := (shTs Tryd.prog [28, 29, 3, 3]).getD []
attribute [irreducible] sh
theorem link (x0 : Int) (x1 : Int) (x2 : Int) (x3 : Int) (x4 : Int) (x5 : Int) (x6 : X) (x7 : X) (x8 : Int) (x9 : Int) : (walkR Tryd.prog (cfG none L30 R30 lpSM sumL) Tryd.f4 600 sh).law { ρ0 with x := fun j => [xI x0, xI x1, xI x2, xI x3, xI x4, xI x5, x6, x7, xI x8, xI x9].getD j (xI 0) } = lawP x0 x1 x2 x3 x4 x5 x6 x7 x8 x9 := by kernel_rfl
set_option maxHeartbeats 4000000 in
theorem lawP_ok (x0 : Int) (x1 : Int) (x2 : Int) (x3 : Int) (x4 : Int) (x5 : Int) (x6 : X) (x7 : X) (x8 : Int) (x9 : Int) (g0 : -9223372036854775808 ≤ x0 ∧ x0 ≤ 9223372036854775807) (g1 : -9223372036854775808 ≤ x1 ∧ x1 ≤ 9223372036854775807) (g2 : -9223372036854775808 ≤ x2 ∧ x2 ≤ 9223372036854775807) (g3 : -9223372036854775808 ≤ x3 ∧ x3 ≤ 9223372036854775807) (g4 : -9223372036854775808 ≤ x4 ∧ x4 ≤ 9223372036854775807) (g5 : -9223372036854775808 ≤ x5 ∧ x5 ≤ 9223372036854775807) (g6 : 0 ≤ x6.i ∧ x6.i ≤ 9223372036854775807 ∧ RowOk [.int .i64 (-9223372036854775808) (9223372036854775807)] x6.r x6.i.toNat) (g7 : 0 ≤ x7.i ∧ x7.i ≤ 9223372036854775807 ∧ RowOk [.str (9223372036854775807), .bool, .bool, .bool, .int .i64 (-9223372036854775808) (9223372036854775807), .int .i64 (-9223372036854775808) (9223372036854775807), .int .i64 (-9223372036854775808) (9223372036854775807), .int .i64 (-9223372036854775808) (9223372036854775807)] x7.r x7.i.toNat) (g8 : -9223372036854775808 ≤ x8 ∧ x8 ≤ 9223372036854775807) (g9 : -9223372036854775808 ≤ x9 ∧ x9 ≤ 9223372036854775807) : lawP x0 x1 x2 x3 x4 x5 x6 x7 x8 x9 := by
  unfold lawP
  intro v0
  refine And.intro ?_ ?_
  · intro h2
    rfl -- #0
  intro h3
  obtain ⟨f1, f2, gv, ft⟩ := few_iff.1 (show fewS (grX (xI x0) (xI x1) (xI x2) (xI x3) (xI x4) (xI x5) x6) x7 = true from h3)
  have ht := tab_ok ft
  obtain ⟨k0, k1, k2, k3, k4⟩ := (v700 g6.1).1 gv
  have hV : (bxI x0 x1 x2 x3 x4 x5).vol = x6.i := k3
  have hb : (bxI x0 x1 x2 x3 x4 x5).f - (bxI x0 x1 x2 x3 x4 x5).c ≤ 2097151 := by
    show x5 - x2 ≤ 2097151
    omega
  have hP : potL (bxI x0 x1 x2 x3 x4 x5) x7 (lstX deI x6) ≤ 20000000000000 := by
    have hl : ((lstX deI x6).length : Int) = x6.i := by rw [lstX_len]; omega
    have := pot_bnd (t := x7) (cs := lstX deI x6) hb (n := (lstX deI x6).length) (by omega)
    unfold potL
    omega
  refine andI ?_ fun o4 => ?_
  · exact ⟨gv, ft⟩ -- #1
  refine andI ?_ fun o5 => ?_
  · omega -- #2
  refine andI ?_ fun o6 => ?_
  · omega -- #3
  refine andI ?_ fun o7 => ?_
  · omega -- #4
  refine andI ?_ fun o8 => ?_
  · omega -- #5
  refine andI ?_ fun o9 => ?_
  · omega -- #6
  refine andI ?_ fun o10 => ?_
  · omega -- #7
  refine andI ?_ fun o11 => ?_
  · omega -- #8
  refine andI ?_ fun o12 => ?_
  · omega -- #9
  refine andI ?_ fun o13 => ?_
  · omega -- #10
  refine andI ?_ fun o14 => ?_
  · omega -- #11
  refine andI ?_ fun o15 => ?_
  · omega -- #12
  refine andI ?_ fun o16 => ?_
  · omega -- #13
  refine andI ?_ fun o17 => ?_
  · exact ⟨⟨rfl, rfl, rfl, rfl, rfl, rfl⟩, rfl, Int.le_of_eq (Int.zero_add _), rfl, gv⟩ -- #14
  intro x20
  intro x21
  intro x22
  intro x23
  intro x24
  intro x25
  intro x26
  intro x27
  intro h18
  intro h19
  intro h20
  intro h21
  intro h22
  intro h23
  intro h24
  intro r25
  intro p26
  obtain ⟨⟨e0, e1, e2, e3, e4, e5⟩, e6, e7, e8, gvo⟩ := p26
  have hB : (⟨x20.i, x21.i, x22.i, x23.i, x24.i, x25.i⟩ : Bx) = bxI x0 x1 x2 x3 x4 x5 := by
    rw [e0, e1, e2, e3, e4, e5]
    rfl
  have gvo : validG ⟨bxI x0 x1 x2 x3 x4 x5, lstX deI x27⟩ = true := gvo
  have hL : (bxI x0 x1 x2 x3 x4 x5).vol = (lstX deI x27).length := val_len gvo
  have e7 : x26.i + potL (bxI x0 x1 x2 x3 x4 x5) x7 (lstX deI x27) ≤ potL (bxI x0 x1 x2 x3 x4 x5) x7 (lstX deI x6) := e7
  have hG : validG ⟨⟨x20.i, x21.i, x22.i, x23.i, x24.i, x25.i⟩, lstX deI x27⟩ = true := by rw [hB]; exact gvo
  refine andI ?_ fun o27 => ?_
  · exact hG -- #15
  intro v28
  have h28 : v28.b = stlL (bxI x0 x1 x2 x3 x4 x5) x7 (lstX deI x27) := by
    rw [← hB]
    rfl
  refine And.intro ?_ ?_
  · intro h30
    intro v31
    intro v32
    intro v33
    intro v34
    intro v35
    intro v36
    intro v37
    intro v38
    intro v39
    intro v40
    refine And.intro ?_ ?_
    · intro h42
      exact gv -- #16
    refine And.intro ?_ ?_
    · intro h44
      exact gv -- #17
    skip -- #18
    have hR : setR (bxI x0 x1 x2 x3 x4 x5) x7 x8 x9 (lstX deI x6) = (lstX deI x27, x26.i, 0) := e8.symm.trans (set_stl (h28.symm.trans h30))
    refine ⟨⟨eqG_iff.2 ⟨⟨e0.symm, e1.symm, e2.symm, e3.symm, e4.symm, e5.symm⟩, ?_⟩, congrArg (fun x => x.2.1) hR⟩, congrArg (fun x => x.2.2) hR⟩
    exact ((lstX_rowG (enc := enI) (dec := deI) (fun _ => rfl) _).trans (congrArg Prod.fst hR) : lstX deI v37 = lstX deI x27)
  intro h45
  have hst : ¬ stlL (bxI x0 x1 x2 x3 x4 x5) x7 (lstX deI x27) = true := by rw [← h28]; exact h45
  refine And.intro ?_ ?_
  · intro h47
    intro v48
    intro v49
    intro v50
    intro v51
    intro v52
    intro v53
    intro v54
    intro v55
    intro v56
    intro v57
    refine And.intro ?_ ?_
    · intro h59
      exact gv -- #19
    refine And.intro ?_ ?_
    · intro h61
      exact gv -- #20
    skip -- #21
    have hR : setR (bxI x0 x1 x2 x3 x4 x5) x7 x8 x9 (lstX deI x6) = (lstX deI x27, x26.i, 19) := e8.symm.trans (set_end ht hb hL hst h47)
    refine ⟨⟨eqG_iff.2 ⟨⟨e0.symm, e1.symm, e2.symm, e3.symm, e4.symm, e5.symm⟩, ?_⟩, congrArg (fun x => x.2.1) hR⟩, congrArg (fun x => x.2.2) hR⟩
    exact ((lstX_rowG (enc := enI) (dec := deI) (fun _ => rfl) _).trans (congrArg Prod.fst hR) : lstX deI v54 = lstX deI x27)
  intro h62
  have hK : (Int.tmod x8 4 + 4) % 4 + x26.i = x8 % 4 + x26.i := by
    rw [Int.tmod_def]
    omega
  generalize hKK : (Int.tmod x8 4 + 4) % 4 + x26.i = K at *
  have hd := rnd_dn (k := K) ht hb hL hst
  have hvi : (bxI x0 x1 x2 x3 x4 x5).vol = x27.i := by
    have : x27.i = x6.i := e6
    omega
  refine andI ?_ fun o63 => ?_
  · refine ⟨⟨rfl, rfl, rfl, rfl, rfl, rfl⟩, Int.le_refl _, r25.1, rfl, hG, rfl⟩ -- #22
  intro x40
  intro x41
  intro x42
  intro x43
  intro x44
  intro x45
  intro x46
  intro x47
  intro x48
  intro h64
  intro h65
  intro h66
  intro h67
  intro h68
  intro h69
  intro h70
  intro h71
  intro r72
  intro p73
  obtain ⟨⟨d0, d1, d2, d3, d4, d5⟩, i0, i1, d6, gvi, hR⟩ := p73
  have hB4 : (⟨x40.i, x41.i, x42.i, x43.i, x44.i, x45.i⟩ : Bx) = bxI x0 x1 x2 x3 x4 x5 := by
    rw [d0, d1, d2, d3, d4, d5]
    exact hB
  have gvi : validG ⟨bxI x0 x1 x2 x3 x4 x5, lstX deI x48⟩ = true := by rw [← hB]; exact gvi
  have hG4 : validG ⟨⟨x40.i, x41.i, x42.i, x43.i, x44.i, x45.i⟩, lstX deI x48⟩ = true := by rw [hB4]; exact gvi
  have d6 : x48.i = x27.i := d6
  have i1 : x46.i ≤ x27.i := i1
  refine And.intro ?_ ?_
  · intro h75
    intro v76
    intro v77
    intro v78
    refine andI ?_ fun o79 => ?_
    · exact hG4 -- #23
    intro v80
    have hT : v80.b = (tgtB (bxI x0 x1 x2 x3 x4 x5) (lstX deI x48) x7 K ((bxI x0 x1 x2 x3 x4 x5).at x46.i)).isSome := by
      rw [← hB4]
      rfl
    have hR' : rndB (bxI x0 x1 x2 x3 x4 x5) x7 K (lstX deI x27) x46.i.toNat = (lstX deI x48, x47.i) := by
      rw [← hB]
      exact hR.symm
    refine And.intro ?_ ?_
    · intro h82
      refine andI ?_ fun o83 => ?_
      · omega -- #24
      refine andI ?_ fun o84 => ?_
      · skip -- #25
        refine ⟨⟨d0, d1, d2, d3, d4, d5⟩, Int.le_trans i0 (Int.le_of_lt (Int.lt_succ _)), show x46.i + 1 ≤ x27.i by omega, d6, by rw [← hB] at gvi; exact gvi, ?_⟩
        have hq : tgtB (bxI x0 x1 x2 x3 x4 x5) (lstX deI x48) x7 K ((bxI x0 x1 x2 x3 x4 x5).at x46.i) = none := Option.isNone_iff_eq_none.1 (not_some (by rw [← hT]; exact h82))
        show (lstX deI x48, x47.i) = rndB ⟨x20.i, x21.i, x22.i, x23.i, x24.i, x25.i⟩ x7 K (lstX deI x27) (x46.i + 1).toNat
        rw [hB, rnd_step i0, hR']
        show _ = match tgtB (bxI x0 x1 x2 x3 x4 x5) (lstX deI x48) x7 K ((bxI x0 x1 x2 x3 x4 x5).at x46.i) with | some q => _ | none => _
        rw [hq]
      intro v85
      intro v86
      refine andI ?_ fun o87 => ?_
      · skip -- #26
        show x27.i + 1 - (x46.i + 1) < x27.i + 1 - x46.i
        omega
      skip -- #27
      show 0 < x27.i + 1 - x46.i
      omega
    intro h88
    obtain ⟨q, hq⟩ := Option.isSome_iff_exists.1 (hT.symm.trans h88)
    have hh := tgt_has hq
    have hqi := idx_ok hh.2
    have hvo : (bxI x0 x1 x2 x3 x4 x5).vol = (lstX deI x48).length := val_len gvi
    have hln : ((lstX deI x48).length : Int) = x48.i := by rw [lstX_len]; omega
    refine andI ?_ fun o89 => ?_
    · exact hG4 -- #28
    intro v90
    intro v91
    intro v92
    refine andI ?_ fun o93 => ?_
    · exact hG4 -- #29
    intro v94
    refine andI ?_ fun o95 => ?_
    · exact hG4 -- #30
    intro v96
    intro v97
    intro v98
    intro v99
    intro v100
    intro v101
    intro v102
    intro v103
    have e44 : (v90.i, v91.i, v92.i) = q := by
      have h : (v90.i, v91.i, v92.i) = (tgtB ⟨x40.i, x41.i, x42.i, x43.i, x44.i, x45.i⟩ (lstX deI x48) x7 K (Bx.at ⟨x40.i, x41.i, x42.i, x43.i, x44.i, x45.i⟩ x46.i)).getD (0, 0, 0) := rfl
      rw [h, hB4, hq]
      rfl
    have e48 : v94.i = getL (bxI x0 x1 x2 x3 x4 x5) (lstX deI x48) q := by
      have h : v94.i = getL ⟨x40.i, x41.i, x42.i, x43.i, x44.i, x45.i⟩ (lstX deI x48) (v90.i, v91.i, v92.i) := rfl
      rw [h, hB4, e44]
    have e57 : v103.i = getL (bxI x0 x1 x2 x3 x4 x5) (lstX deI x48) ((bxI x0 x1 x2 x3 x4 x5).at x46.i) := by
      have h : v103.i = getL ⟨x40.i, x41.i, x42.i, x43.i, x44.i, x45.i⟩ (lstX deI x48) (Bx.at ⟨x40.i, x41.i, x42.i, x43.i, x44.i, x45.i⟩ x46.i) := rfl
      rw [h, hB4]
    have e56 : lstX deI v102 = setL (bxI x0 x1 x2 x3 x4 x5) (lstX deI x48) ((bxI x0 x1 x2 x3 x4 x5).at x46.i) v94.i := by
      have h : lstX deI v102 = setL ⟨x40.i, x41.i, x42.i, x43.i, x44.i, x45.i⟩ (lstX deI x48) (Bx.at ⟨x40.i, x41.i, x42.i, x43.i, x44.i, x45.i⟩ x46.i) v94.i := lstX_rowG (enc := enI) (dec := deI) (fun _ => rfl) _
      rw [h, hB4]
    refine andI ?_ fun o104 => ?_
    · skip -- #31
      show validG ⟨⟨x40.i, x41.i, x42.i, x43.i, x44.i, x45.i⟩, lstX deI v102⟩ = true
      rw [hB4, e56]
      refine val_set gvi ?_
      rw [e48, getL_idx hh.2]
      exact getD_mem (by omega)
    refine andI ?_ fun o105 => ?_
    · skip -- #32
      have := rnd_cnt (b := bxI x0 x1 x2 x3 x4 x5) (t := x7) (k := K) (cs := lstX deI x27) x46.i.toNat
      rw [hR'] at this
      have : x47.i ≤ (x46.i.toNat : Int) := this
      omega
    refine andI ?_ fun o106 => ?_
    · omega -- #33
    intro v107
    intro v108
    intro v109
    intro v110
    intro v111
    intro v112
    intro v113
    refine andI ?_ fun o114 => ?_
    · skip -- #34
      have hq' : tgtB (bxI x0 x1 x2 x3 x4 x5) (lstX deI x48) x7 K ((bxI x0 x1 x2 x3 x4 x5).at x46.i) = some q := hq
      have hsw := set2_swp (i := x46.i.toNat) hvo (by omega) hh.2
      rw [Int.toNat_of_nonneg i0] at hsw
      have e67 : lstX deI v113 = swpL (lstX deI x48) x46.i.toNat ((bxI x0 x1 x2 x3 x4 x5).idx q).toNat := by
        have h : lstX deI v113 = setL ⟨x40.i, x41.i, x42.i, x43.i, x44.i, x45.i⟩ (lstX deI v102) (v90.i, v91.i, v92.i) v103.i := lstX_rowG (enc := enI) (dec := deI) (fun _ => rfl) _
        rw [h, hB4, e44, e57, e56, e48, hsw]
      have hvs : validG ⟨bxI x0 x1 x2 x3 x4 x5, swpL (lstX deI x48) x46.i.toNat ((bxI x0 x1 x2 x3 x4 x5).idx q).toNat⟩ = true := val_swp gvi (by omega) (by omega)
      refine ⟨⟨d0, d1, d2, d3, d4, d5⟩, Int.le_trans i0 (Int.le_of_lt (Int.lt_succ _)), show x46.i + 1 ≤ x27.i by omega, ?_, ?_, ?_⟩
      · have h : v113.i = ((setL ⟨x40.i, x41.i, x42.i, x43.i, x44.i, x45.i⟩ (lstX deI v102) (v90.i, v91.i, v92.i) v103.i).length : Nat) := rowG_i ..
        rw [hB4, e44, e57, e56, e48, hsw, swp_len] at h
        show v113.i = x27.i
        omega
      · show validG ⟨⟨x20.i, x21.i, x22.i, x23.i, x24.i, x25.i⟩, lstX deI v113⟩ = true
        rw [hB, e67]
        exact hvs
      · show (lstX deI v113, x47.i + 1) = rndB ⟨x20.i, x21.i, x22.i, x23.i, x24.i, x25.i⟩ x7 K (lstX deI x27) (x46.i + 1).toNat
        rw [hB, rnd_step i0, hR']
        show _ = match tgtB (bxI x0 x1 x2 x3 x4 x5) (lstX deI x48) x7 K ((bxI x0 x1 x2 x3 x4 x5).at x46.i) with | some q => _ | none => _
        rw [hq', e67]
    intro v115
    intro v116
    refine andI ?_ fun o117 => ?_
    · skip -- #35
      show x27.i + 1 - (x46.i + 1) < x27.i + 1 - x46.i
      omega
    skip -- #36
    show 0 < x27.i + 1 - x46.i
    omega
  intro h118
  have hi : (lstX deI x27).length = x46.i.toNat := by
    rw [lstX_len]
    omega
  have hrl : rndL (bxI x0 x1 x2 x3 x4 x5) x7 K (lstX deI x27) = lstX deI x48 := by
    have h : rndB (bxI x0 x1 x2 x3 x4 x5) x7 K (lstX deI x27) (lstX deI x27).length = (lstX deI x48, x47.i) := by
      rw [hi, ← hB]
      exact hR.symm
    exact congrArg Prod.fst h
  rw [hrl] at hd
  refine andI ?_ fun o119 => ?_
  · omega -- #37
  refine andI ?_ fun o120 => ?_
  · skip -- #38
    refine ⟨⟨d0.trans e0, d1.trans e1, d2.trans e2, d3.trans e3, d4.trans e4, d5.trans e5⟩, d6.trans e6, ?_, ?_, gvi⟩
    · show x26.i + 1 + potL (bxI x0 x1 x2 x3 x4 x5) x7 (lstX deI x48) ≤ potL (bxI x0 x1 x2 x3 x4 x5) x7 (lstX deI x6)
      omega
    · show setB (bxI x0 x1 x2 x3 x4 x5) x7 x8 x9 (potL (bxI x0 x1 x2 x3 x4 x5) x7 (lstX deI x48)).toNat (x26.i + 1) (lstX deI x48) = setR (bxI x0 x1 x2 x3 x4 x5) x7 x8 x9 (lstX deI x6)
      have h := set_step (k := x8) ht hb hL hst h62
      rw [← hK, hrl] at h
      exact h.symm.trans e8
  intro v121
  intro v122
  refine andI ?_ fun o123 => ?_
  · skip -- #39
    show potL (bxI x0 x1 x2 x3 x4 x5) x7 (lstX deI x48) + 1 < potL (bxI x0 x1 x2 x3 x4 x5) x7 (lstX deI x27) + 1
    omega
  skip -- #40
  show 0 < potL (bxI x0 x1 x2 x3 x4 x5) x7 (lstX deI x27) + 1
  omega

/-! ### The frame -/
theorem shape_flat : flatR sh = [.int .i64 (-9223372036854775808) 9223372036854775807, .int .i64 (-9223372036854775808) 9223372036854775807, .int .i64 (-9223372036854775808) 9223372036854775807, .int .i64 (-9223372036854775808) 9223372036854775807, .int .i64 (-9223372036854775808) 9223372036854775807, .int .i64 (-9223372036854775808) 9223372036854775807, .row [.int .i64 (-9223372036854775808) (9223372036854775807)] 9223372036854775807, .row [.str (9223372036854775807), .bool, .bool, .bool, .int .i64 (-9223372036854775808) (9223372036854775807), .int .i64 (-9223372036854775808) (9223372036854775807), .int .i64 (-9223372036854775808) (9223372036854775807), .int .i64 (-9223372036854775808) (9223372036854775807)] 9223372036854775807, .int .i64 (-9223372036854775808) 9223372036854775807, .int .i64 (-9223372036854775808) 9223372036854775807] := by kernel_rfl
theorem lawful (ds : Ds) (hr : rshX sh ds) : (walkR Tryd.prog (cfG none L30 R30 lpSM sumL) Tryd.f4 600 sh).law { ρ0 with x := fun j => ds.getD j (xI 0) } := by
  have hr := rshX_flat hr
  rw [shape_flat] at hr
  match ds, hr with
  | [d0, d1, d2, d3, d4, d5, d6, d7, d8, d9], hr =>
    obtain ⟨⟨e0, l0, u0⟩, ⟨e1, l1, u1⟩, ⟨e2, l2, u2⟩, ⟨e3, l3, u3⟩, ⟨e4, l4, u4⟩, ⟨e5, l5, u5⟩, l6, l7, ⟨e8, l8, u8⟩, ⟨e9, l9, u9⟩, _⟩ := hr
    generalize d0.i = x0 at *
    generalize d1.i = x1 at *
    generalize d2.i = x2 at *
    generalize d3.i = x3 at *
    generalize d4.i = x4 at *
    generalize d5.i = x5 at *
    generalize d6 = x6 at *
    generalize d7 = x7 at *
    generalize d8.i = x8 at *
    generalize d9.i = x9 at *
    subst e0 e1 e2 e3 e4 e5 e8 e9
    exact Eq.mpr (link x0 x1 x2 x3 x4 x5 x6 x7 x8 x9) (lawP_ok x0 x1 x2 x3 x4 x5 x6 x7 x8 x9 ⟨l0, u0⟩ ⟨l1, u1⟩ ⟨l2, u2⟩ ⟨l3, u3⟩ ⟨l4, u4⟩ ⟨l5, u5⟩ l6 l7 ⟨l8, u8⟩ ⟨l9, u9⟩)
theorem shape {H : Type} {ds : List (DataW H)} (h : ds.length = 4) : Rows.settleMatchesSpecSpec.fn H ds = { results := [.lit (.bool true)], args := ds } := by
  match ds, h with
  | [d1, d2, d3, d4], _ => rfl
theorem calls {H : Type} {enc : TypeId × Value → H} (W : World) (base : Nat) (args : Array Value) (ds : List (DataW H)) (p : List MemPlace) (hval : ∀ (j : Nat) t v, Tryd.f4.params[j]? = some t → args[j]? = some v → Value.okWide Tryd.prog W .any base t v)
    (hA : DataW.TrodAll enc Tryd.prog W 0 (fun _ => true) true Tryd.f4.params.toList args.toList ds p) (hg : GlobOk ρ0.g W.heap.size W) : Calls Tryd.prog 4 args W fun e w' => e = .returned (.bool true) ∧ Below W.heap.size W w' := by
  rw [Tryd.params4] at hA hval
  have hs : shTs Tryd.prog [28, 29, 3, 3] = some sh := by
    have : (shTs Tryd.prog [28, 29, 3, 3]).isSome = true := by kernel_rfl
    obtain ⟨s, h⟩ := Option.isSome_iff_exists.1 this
    unfold sh
    rw [h]; rfl
  obtain ⟨ds', hr⟩ := args_rel hA (fun i t v ht hv => hval i t v (by simpa using ht) (by simpa using hv)) hs
  have := law_callsR (L30s_ok) Tryd.func4 rfl 600 hg hr lawful
  simpa using this
set_option maxRecDepth 100000 in
theorem lifted (os : Os) (started : os.Started) (H : Type) (enc : TypeId × Value → H) :
    ReturnsInHanded {} Tryd.checked os 4 .any (fun w args => (Rows.settleMatchesSpecSpec.pre enc Tryd.prog Tryd.f4 [] false w args ∧ laidMetH Tryd.prog [("voxel/settle.directions", Rows.laid_voxel_settle_directions)] w) ∧ sizedMet enc Tryd.prog Tryd.f4 (OpenSpec.ofChange Rows.settleMatchesSpecSpec) false w args)
      (Rows.settleMatchesSpecSpec.post enc Tryd.prog Tryd.f4 false true false false) := by
  refine returnsInHanded_of_change_and (C := Tryd.checked) (X := fun w _ => laidMetH Tryd.prog [("voxel/settle.directions", Rows.laid_voxel_settle_directions)] w) (fun _ _ _ hh h => h.of_heap hh) own started (by kernel_rfl) Tryd.func4
    (ChangeSpec.witness_shaped (enc := enc) (C := Tryd.checked) (os := os) (X := fun w _ => laidMetH Tryd.prog [("voxel/settle.directions", Rows.laid_voxel_settle_directions)] w) false (World.doorLaid Tryd.prog 400 os) #[((Tryd.prog.info? 28).bind (·.zero)).getD undef, ((Tryd.prog.info? 29).bind (·.zero)).getD undef, ((Tryd.prog.info? 3).bind (·.zero)).getD undef, ((Tryd.prog.info? 3).bind (·.zero)).getD undef] 8 rfl (World.shaped_of_RefB (by kernel_rfl) (by kernel_rfl)) (by kernel_rfl) (by kernel_rfl) (by kernel_rfl) (door_met os _)) ?_
  intro W base args ds gs before hval hW _ _ hL _
  have hW0 := hW
  obtain ⟨p, q, hA, hV, _⟩ := hW0
  have hlen : ds.length = 4 := (trodAll_len hA).trans (by kernel_rfl)
  refine (calls W base args ds p hval hA (glob_ok hL)).mono fun e W' ⟨he, hb⟩ => ?_
  subst he
  exact ⟨_, rfl, law_post kids slices (by rw [Tryd.params4]; decide +kernel) rfl rfl Tryd.underlying4 (shape hlen) hW hb⟩

theorem over : Rows.SettleMatchesSpecSaid :=
  OpenClaim.holds_of_wide 4 Tryd.f4 rfl rfl rfl rfl rfl rfl rfl ⟨rfl, rfl, rfl, rfl, rfl⟩ rfl rfl rfl rfl rfl (by kernel_rfl) Tryd.func4 (by kernel_rfl)
    (of_decide_eq_true (by kernel_rfl)) (by unfold Func.isWrapper; first | (rw [if_pos (by decide +kernel)]; kernel_rfl) | (rw [if_neg (by decide +kernel)]; exact ⟨rfl, rfl⟩))
    (fun os started H enc _ => lifted os started H enc)

/-- The statement: the row, its listed variable tied to the program's text. -/
theorem proved : Rows.SettleMatchesSpecCardSaid :=
  Claim7.holds_tied_plain_at .later [] [.data] true (true, "7617442a9ef1c376c4056c972e7147e4eacf4a41aa3cf2f69184f577ce24d48a") false
    over (fun _ h => by cases h) (by kernel_rfl) (fun _ h => by cases h) settleMatchesSpec_row_tie rfl ⟨rfl, rfl⟩ (by kernel_rfl) rfl
    (fun f fn hf hfn => by
      obtain rfl : f = 4 := Option.some.inj ((show Tryd.prog.funcNamed "voxel/voxellaw30.SettleMatchesSpec" = some 4 by kernel_rfl).symm.trans hf) |>.symm
      obtain rfl : fn = Tryd.f4 := (Option.some.inj (Tryd.func4.symm.trans hfn)).symm
      exact ⟨by kernel_rfl, fun j t ht => by
        rw [Tryd.params4] at ht
        have hm : t ∈ [28, 29, 3, 3] := by simpa using Array.mem_of_getElem? ht
        have hall : ([28, 29, 3, 3].all fun u => !Tryd.prog.wantsStandIn u) = true := by kernel_rfl
        exact (show Tryd.prog.wantsStandIn t = false by simpa using List.all_eq_true.1 hall t hm)⟩)
    (by kernel_rfl)
#print axioms proved
end Go.Proofs.YtgbaelpcbhgdjaaDoor.settleMatchesSpec
