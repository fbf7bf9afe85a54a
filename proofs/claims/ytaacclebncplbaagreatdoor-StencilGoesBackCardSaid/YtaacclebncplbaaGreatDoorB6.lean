/- Proved: StencilGoesBack: the statement 'StencilGoesBackCardSaid' of this seat, for every input that it names; no condition besides. -/
import Derived.Test.YtaacclebncplbaaGreatDoorC20Tc
import Derived.Test.YtaacclebncplbaaGreatDoorC20V
import Derived.Test.YtaacclebncplbaaGreatDoorRows
import Derived.Test.YtaacclebncplbaaGreatDoorCards
import Derived.Test.YtaacclebncplbaaGreatDoorTie
import Derived.SevenTiedAt
import Derived.ProofKit
import Derived.LaidMore
import Derived.Stop.Joined
namespace Go.Proofs.YtaacclebncplbaaGreatDoor.stencilGoesBack
open Go Go.ChangeShapes Go.WideShapes Go.ChangeAt Go.RowKit Vc
set_option linter.unusedVariables false
def lawP (D B A G F E : Int) (J : X) (I K : Int) : Prop :=
(let v0 := Ff 700 [xI D, xI B, xI A, xI G, xI F, xI E, J]; (((((((((¬ (((v0.b = true) ∧ (J.i ≤ 520)) ∧ ((((((((-1000) ≤ D) ∧ ((-1000) ≤ B)) ∧ ((-1000) ≤ A)) ∧ (D ≤ 1000)) ∧ (B ≤ 1000)) ∧ (A ≤ 1000)) ∧ (((((((-1000) ≤ G) ∧ ((-1000) ≤ F)) ∧ ((-1000) ≤ E)) ∧ (G ≤ 1000)) ∧ (F ≤ 1000)) ∧ (E ≤ 1000))))) ∨ (J.i = 0)) ∨ (130 < J.i)) ∨ (I < 0)) ∨ (47 < I)) ∨ (K < 0)) ∨ (255 < K)) →
(true = true)) ∧
((¬ (((((((¬ (((v0.b = true) ∧ (J.i ≤ 520)) ∧ ((((((((-1000) ≤ D) ∧ ((-1000) ≤ B)) ∧ ((-1000) ≤ A)) ∧ (D ≤ 1000)) ∧ (B ≤ 1000)) ∧ (A ≤ 1000)) ∧ (((((((-1000) ≤ G) ∧ ((-1000) ≤ F)) ∧ ((-1000) ≤ E)) ∧ (G ≤ 1000)) ∧ (F ≤ 1000)) ∧ (E ≤ 1000))))) ∨ (J.i = 0)) ∨ (130 < J.i)) ∨ (I < 0)) ∨ (47 < I)) ∨ (K < 0)) ∨ (255 < K))) →
(Px 1080 [xI D, xI B, xI A, xI G, xI F, xI E, xI I, xI 1, xI 1, xI 1] ∧
((let v6 := Ff 1003 [xI D, xI B, xI A, xI G, xI F, xI E, xI I, xI 1, xI 1, xI 1]; let v7 := Ff 1004 [xI D, xI B, xI A, xI G, xI F, xI E, xI I, xI 1, xI 1, xI 1]; let v8 := Ff 1005 [xI D, xI B, xI A, xI G, xI F, xI E, xI I, xI 1, xI 1, xI 1]; let v9 := Ff 1114 [xI v6.i, xI v7.i, xI v8.i, xI 1, xI 1, xI 1]; let v10 := Ff 1115 [xI v6.i, xI v7.i, xI v8.i, xI 1, xI 1, xI 1]; let v11 := Ff 1116 [xI v6.i, xI v7.i, xI v8.i, xI 1, xI 1, xI 1]; let v12 := Ff 900 [xI 0, xI 0, xI 0, xI v9.i, xI v10.i, xI v11.i, xI K]; let v13 := Ff 901 [xI 0, xI 0, xI 0, xI v9.i, xI v10.i, xI v11.i, xI K]; let v14 := Ff 902 [xI 0, xI 0, xI 0, xI v9.i, xI v10.i, xI v11.i, xI K]; let v15 := Ff 903 [xI 0, xI 0, xI 0, xI v9.i, xI v10.i, xI v11.i, xI K]; let v16 := Ff 904 [xI 0, xI 0, xI 0, xI v9.i, xI v10.i, xI v11.i, xI K]; let v17 := Ff 905 [xI 0, xI 0, xI 0, xI v9.i, xI v10.i, xI v11.i, xI K]; let v18 := Ff 906 [xI 0, xI 0, xI 0, xI v9.i, xI v10.i, xI v11.i, xI K]; (Px 1084 [xI v12.i, xI v13.i, xI v14.i, xI v15.i, xI v16.i, xI v17.i, v18, xI D, xI B, xI A, xI G, xI F, xI E, J, xI I, xI 1, xI 1, xI 1] ∧
((let v21 := Ff 1032 [xI v12.i, xI v13.i, xI v14.i, xI v15.i, xI v16.i, xI v17.i, v18, xI D, xI B, xI A, xI G, xI F, xI E, J, xI I, xI 1, xI 1, xI 1]; (Px 917 [xI v12.i, xI v13.i, xI v14.i, xI v15.i, xI v16.i, xI v17.i, v18, v21] ∧
((let v24 := Ff 910 [xI v12.i, xI v13.i, xI v14.i, xI v15.i, xI v16.i, xI v17.i, v18, v21]; let v25 := Ff 911 [xI v12.i, xI v13.i, xI v14.i, xI v15.i, xI v16.i, xI v17.i, v18, v21]; let v26 := Ff 912 [xI v12.i, xI v13.i, xI v14.i, xI v15.i, xI v16.i, xI v17.i, v18, v21]; let v27 := Ff 913 [xI v12.i, xI v13.i, xI v14.i, xI v15.i, xI v16.i, xI v17.i, v18, v21]; let v28 := Ff 914 [xI v12.i, xI v13.i, xI v14.i, xI v15.i, xI v16.i, xI v17.i, v18, v21]; let v29 := Ff 915 [xI v12.i, xI v13.i, xI v14.i, xI v15.i, xI v16.i, xI v17.i, v18, v21]; let v30 := Ff 916 [xI v12.i, xI v13.i, xI v14.i, xI v15.i, xI v16.i, xI v17.i, v18, v21]; let v31 := Ff 1000 [xI D, xI B, xI A, xI G, xI F, xI E, xI I, xI 1, xI 1, xI 1]; let v32 := Ff 1001 [xI D, xI B, xI A, xI G, xI F, xI E, xI I, xI 1, xI 1, xI 1]; let v33 := Ff 1002 [xI D, xI B, xI A, xI G, xI F, xI E, xI I, xI 1, xI 1, xI 1]; (Px 710 [xI v24.i, xI v25.i, xI v26.i, xI v27.i, xI v28.i, xI v29.i, v30, xI v31.i, xI v32.i, xI v33.i, xI v6.i, xI v7.i, xI v8.i] ∧
(Px 947 [xI I, xI D, xI B, xI A, xI G, xI F, xI E, J] ∧
(let v36 := Ff 960 [xI v24.i, xI v25.i, xI v26.i, xI v27.i, xI v28.i, xI v29.i, v30, xI v31.i, xI v32.i, xI v33.i, xI v6.i, xI v7.i, xI v8.i]; let v37 := Ff 961 [xI v24.i, xI v25.i, xI v26.i, xI v27.i, xI v28.i, xI v29.i, v30, xI v31.i, xI v32.i, xI v33.i, xI v6.i, xI v7.i, xI v8.i]; let v38 := Ff 962 [xI v24.i, xI v25.i, xI v26.i, xI v27.i, xI v28.i, xI v29.i, v30, xI v31.i, xI v32.i, xI v33.i, xI v6.i, xI v7.i, xI v8.i]; let v39 := Ff 963 [xI v24.i, xI v25.i, xI v26.i, xI v27.i, xI v28.i, xI v29.i, v30, xI v31.i, xI v32.i, xI v33.i, xI v6.i, xI v7.i, xI v8.i]; let v40 := Ff 964 [xI v24.i, xI v25.i, xI v26.i, xI v27.i, xI v28.i, xI v29.i, v30, xI v31.i, xI v32.i, xI v33.i, xI v6.i, xI v7.i, xI v8.i]; let v41 := Ff 965 [xI v24.i, xI v25.i, xI v26.i, xI v27.i, xI v28.i, xI v29.i, v30, xI v31.i, xI v32.i, xI v33.i, xI v6.i, xI v7.i, xI v8.i]; let v42 := Ff 966 [xI v24.i, xI v25.i, xI v26.i, xI v27.i, xI v28.i, xI v29.i, v30, xI v31.i, xI v32.i, xI v33.i, xI v6.i, xI v7.i, xI v8.i]; (Px 710 [xI v36.i, xI v37.i, xI v38.i, xI v39.i, xI v40.i, xI v41.i, v42] ∧
(let v44 := Ff 940 [xI I, xI D, xI B, xI A, xI G, xI F, xI E, J]; let v45 := Ff 941 [xI I, xI D, xI B, xI A, xI G, xI F, xI E, J]; let v46 := Ff 942 [xI I, xI D, xI B, xI A, xI G, xI F, xI E, J]; let v47 := Ff 943 [xI I, xI D, xI B, xI A, xI G, xI F, xI E, J]; let v48 := Ff 944 [xI I, xI D, xI B, xI A, xI G, xI F, xI E, J]; let v49 := Ff 945 [xI I, xI D, xI B, xI A, xI G, xI F, xI E, J]; let v50 := Ff 946 [xI I, xI D, xI B, xI A, xI G, xI F, xI E, J]; (Px 710 [xI v44.i, xI v45.i, xI v46.i, xI v47.i, xI v48.i, xI v49.i, v50] ∧
(let v52 := Ff 900 [xI D, xI B, xI A, xI G, xI F, xI E, xI K]; let v53 := Ff 901 [xI D, xI B, xI A, xI G, xI F, xI E, xI K]; let v54 := Ff 902 [xI D, xI B, xI A, xI G, xI F, xI E, xI K]; let v55 := Ff 903 [xI D, xI B, xI A, xI G, xI F, xI E, xI K]; let v56 := Ff 904 [xI D, xI B, xI A, xI G, xI F, xI E, xI K]; let v57 := Ff 905 [xI D, xI B, xI A, xI G, xI F, xI E, xI K]; let v58 := Ff 906 [xI D, xI B, xI A, xI G, xI F, xI E, xI K]; let v59 := Ff 311 [xI I]; (Px 1084 [xI v52.i, xI v53.i, xI v54.i, xI v55.i, xI v56.i, xI v57.i, v58, xI v36.i, xI v37.i, xI v38.i, xI v39.i, xI v40.i, xI v41.i, v42, xI v59.i, xI D, xI B, xI A] ∧
(let v61 := Ff 1032 [xI v52.i, xI v53.i, xI v54.i, xI v55.i, xI v56.i, xI v57.i, v58, xI v36.i, xI v37.i, xI v38.i, xI v39.i, xI v40.i, xI v41.i, v42, xI v59.i, xI D, xI B, xI A]; (Px 917 [xI v52.i, xI v53.i, xI v54.i, xI v55.i, xI v56.i, xI v57.i, v58, v61] ∧
(let v63 := Ff 1033 [xI v12.i, xI v13.i, xI v14.i, xI v15.i, xI v16.i, xI v17.i, v18, xI D, xI B, xI A, xI G, xI F, xI E, J, xI I, xI 1, xI 1, xI 1]; let v64 := Ff 1033 [xI v52.i, xI v53.i, xI v54.i, xI v55.i, xI v56.i, xI v57.i, v58, xI v36.i, xI v37.i, xI v38.i, xI v39.i, xI v40.i, xI v41.i, v42, xI v59.i, xI D, xI B, xI A]; let v65 := Ff 1103 [xI v36.i, xI v37.i, xI v38.i, xI v39.i, xI v40.i, xI v41.i, v42]; let v66 := Ff 1104 [xI v36.i, xI v37.i, xI v38.i, xI v39.i, xI v40.i, xI v41.i, v42]; let v67 := Ff 1105 [xI v36.i, xI v37.i, xI v38.i, xI v39.i, xI v40.i, xI v41.i, v42]; let v68 := Ff 1106 [xI v36.i, xI v37.i, xI v38.i, xI v39.i, xI v40.i, xI v41.i, v42]; let v69 := Ff 1107 [xI v36.i, xI v37.i, xI v38.i, xI v39.i, xI v40.i, xI v41.i, v42]; let v70 := Ff 1108 [xI v36.i, xI v37.i, xI v38.i, xI v39.i, xI v40.i, xI v41.i, v42]; let v71 := Ff 1109 [xI v36.i, xI v37.i, xI v38.i, xI v39.i, xI v40.i, xI v41.i, v42]; let v72 := Ff 1103 [xI v44.i, xI v45.i, xI v46.i, xI v47.i, xI v48.i, xI v49.i, v50]; let v73 := Ff 1104 [xI v44.i, xI v45.i, xI v46.i, xI v47.i, xI v48.i, xI v49.i, v50]; let v74 := Ff 1105 [xI v44.i, xI v45.i, xI v46.i, xI v47.i, xI v48.i, xI v49.i, v50]; let v75 := Ff 1106 [xI v44.i, xI v45.i, xI v46.i, xI v47.i, xI v48.i, xI v49.i, v50]; let v76 := Ff 1107 [xI v44.i, xI v45.i, xI v46.i, xI v47.i, xI v48.i, xI v49.i, v50]; let v77 := Ff 1108 [xI v44.i, xI v45.i, xI v46.i, xI v47.i, xI v48.i, xI v49.i, v50]; let v78 := Ff 1109 [xI v44.i, xI v45.i, xI v46.i, xI v47.i, xI v48.i, xI v49.i, v50]; let v79 := Ff 715 [xI v65.i, xI v66.i, xI v67.i, xI v68.i, xI v69.i, xI v70.i, v71, xI v72.i, xI v73.i, xI v74.i, xI v75.i, xI v76.i, xI v77.i, v78]; let v80 := Ff 910 [xI v52.i, xI v53.i, xI v54.i, xI v55.i, xI v56.i, xI v57.i, v58, v61]; let v81 := Ff 911 [xI v52.i, xI v53.i, xI v54.i, xI v55.i, xI v56.i, xI v57.i, v58, v61]; let v82 := Ff 912 [xI v52.i, xI v53.i, xI v54.i, xI v55.i, xI v56.i, xI v57.i, v58, v61]; let v83 := Ff 913 [xI v52.i, xI v53.i, xI v54.i, xI v55.i, xI v56.i, xI v57.i, v58, v61]; let v84 := Ff 914 [xI v52.i, xI v53.i, xI v54.i, xI v55.i, xI v56.i, xI v57.i, v58, v61]; let v85 := Ff 915 [xI v52.i, xI v53.i, xI v54.i, xI v55.i, xI v56.i, xI v57.i, v58, v61]; let v86 := Ff 916 [xI v52.i, xI v53.i, xI v54.i, xI v55.i, xI v56.i, xI v57.i, v58, v61]; let v87 := Ff 715 [xI v80.i, xI v81.i, xI v82.i, xI v83.i, xI v84.i, xI v85.i, v86, xI D, xI B, xI A, xI G, xI F, xI E, J]; ((((v63.i = 0) ∧ (v64.i = 0)) ∧ (v79.b = true)) ∧ (v87.b = true)))))))))))))) ∧
(let v88 := Ff 910 [xI v12.i, xI v13.i, xI v14.i, xI v15.i, xI v16.i, xI v17.i, v18, v21]; let v89 := Ff 911 [xI v12.i, xI v13.i, xI v14.i, xI v15.i, xI v16.i, xI v17.i, v18, v21]; let v90 := Ff 912 [xI v12.i, xI v13.i, xI v14.i, xI v15.i, xI v16.i, xI v17.i, v18, v21]; let v91 := Ff 913 [xI v12.i, xI v13.i, xI v14.i, xI v15.i, xI v16.i, xI v17.i, v18, v21]; let v92 := Ff 914 [xI v12.i, xI v13.i, xI v14.i, xI v15.i, xI v16.i, xI v17.i, v18, v21]; let v93 := Ff 915 [xI v12.i, xI v13.i, xI v14.i, xI v15.i, xI v16.i, xI v17.i, v18, v21]; let v94 := Ff 916 [xI v12.i, xI v13.i, xI v14.i, xI v15.i, xI v16.i, xI v17.i, v18, v21]; let v95 := Ff 1000 [xI D, xI B, xI A, xI G, xI F, xI E, xI I, xI 1, xI 1, xI 1]; let v96 := Ff 1001 [xI D, xI B, xI A, xI G, xI F, xI E, xI I, xI 1, xI 1, xI 1]; let v97 := Ff 1002 [xI D, xI B, xI A, xI G, xI F, xI E, xI I, xI 1, xI 1, xI 1]; (Px 710 [xI v88.i, xI v89.i, xI v90.i, xI v91.i, xI v92.i, xI v93.i, v94, xI v95.i, xI v96.i, xI v97.i, xI v6.i, xI v7.i, xI v8.i] ∧
(Px 947 [xI I, xI D, xI B, xI A, xI G, xI F, xI E, J] ∧
(let v100 := Ff 960 [xI v88.i, xI v89.i, xI v90.i, xI v91.i, xI v92.i, xI v93.i, v94, xI v95.i, xI v96.i, xI v97.i, xI v6.i, xI v7.i, xI v8.i]; let v101 := Ff 961 [xI v88.i, xI v89.i, xI v90.i, xI v91.i, xI v92.i, xI v93.i, v94, xI v95.i, xI v96.i, xI v97.i, xI v6.i, xI v7.i, xI v8.i]; let v102 := Ff 962 [xI v88.i, xI v89.i, xI v90.i, xI v91.i, xI v92.i, xI v93.i, v94, xI v95.i, xI v96.i, xI v97.i, xI v6.i, xI v7.i, xI v8.i]; let v103 := Ff 963 [xI v88.i, xI v89.i, xI v90.i, xI v91.i, xI v92.i, xI v93.i, v94, xI v95.i, xI v96.i, xI v97.i, xI v6.i, xI v7.i, xI v8.i]; let v104 := Ff 964 [xI v88.i, xI v89.i, xI v90.i, xI v91.i, xI v92.i, xI v93.i, v94, xI v95.i, xI v96.i, xI v97.i, xI v6.i, xI v7.i, xI v8.i]; let v105 := Ff 965 [xI v88.i, xI v89.i, xI v90.i, xI v91.i, xI v92.i, xI v93.i, v94, xI v95.i, xI v96.i, xI v97.i, xI v6.i, xI v7.i, xI v8.i]; let v106 := Ff 966 [xI v88.i, xI v89.i, xI v90.i, xI v91.i, xI v92.i, xI v93.i, v94, xI v95.i, xI v96.i, xI v97.i, xI v6.i, xI v7.i, xI v8.i]; (Px 710 [xI v100.i, xI v101.i, xI v102.i, xI v103.i, xI v104.i, xI v105.i, v106] ∧
(let v108 := Ff 940 [xI I, xI D, xI B, xI A, xI G, xI F, xI E, J]; let v109 := Ff 941 [xI I, xI D, xI B, xI A, xI G, xI F, xI E, J]; let v110 := Ff 942 [xI I, xI D, xI B, xI A, xI G, xI F, xI E, J]; let v111 := Ff 943 [xI I, xI D, xI B, xI A, xI G, xI F, xI E, J]; let v112 := Ff 944 [xI I, xI D, xI B, xI A, xI G, xI F, xI E, J]; let v113 := Ff 945 [xI I, xI D, xI B, xI A, xI G, xI F, xI E, J]; let v114 := Ff 946 [xI I, xI D, xI B, xI A, xI G, xI F, xI E, J]; (Px 710 [xI v108.i, xI v109.i, xI v110.i, xI v111.i, xI v112.i, xI v113.i, v114] ∧
(let v116 := Ff 900 [xI D, xI B, xI A, xI G, xI F, xI E, xI K]; let v117 := Ff 901 [xI D, xI B, xI A, xI G, xI F, xI E, xI K]; let v118 := Ff 902 [xI D, xI B, xI A, xI G, xI F, xI E, xI K]; let v119 := Ff 903 [xI D, xI B, xI A, xI G, xI F, xI E, xI K]; let v120 := Ff 904 [xI D, xI B, xI A, xI G, xI F, xI E, xI K]; let v121 := Ff 905 [xI D, xI B, xI A, xI G, xI F, xI E, xI K]; let v122 := Ff 906 [xI D, xI B, xI A, xI G, xI F, xI E, xI K]; let v123 := Ff 311 [xI I]; (Px 1084 [xI v116.i, xI v117.i, xI v118.i, xI v119.i, xI v120.i, xI v121.i, v122, xI v100.i, xI v101.i, xI v102.i, xI v103.i, xI v104.i, xI v105.i, v106, xI v123.i, xI D, xI B, xI A] ∧
(let v125 := Ff 1032 [xI v116.i, xI v117.i, xI v118.i, xI v119.i, xI v120.i, xI v121.i, v122, xI v100.i, xI v101.i, xI v102.i, xI v103.i, xI v104.i, xI v105.i, v106, xI v123.i, xI D, xI B, xI A]; (Px 917 [xI v116.i, xI v117.i, xI v118.i, xI v119.i, xI v120.i, xI v121.i, v122, v125] ∧
(let v127 := Ff 1033 [xI v12.i, xI v13.i, xI v14.i, xI v15.i, xI v16.i, xI v17.i, v18, xI D, xI B, xI A, xI G, xI F, xI E, J, xI I, xI 1, xI 1, xI 1]; let v128 := Ff 1033 [xI v116.i, xI v117.i, xI v118.i, xI v119.i, xI v120.i, xI v121.i, v122, xI v100.i, xI v101.i, xI v102.i, xI v103.i, xI v104.i, xI v105.i, v106, xI v123.i, xI D, xI B, xI A]; let v129 := Ff 1103 [xI v100.i, xI v101.i, xI v102.i, xI v103.i, xI v104.i, xI v105.i, v106]; let v130 := Ff 1104 [xI v100.i, xI v101.i, xI v102.i, xI v103.i, xI v104.i, xI v105.i, v106]; let v131 := Ff 1105 [xI v100.i, xI v101.i, xI v102.i, xI v103.i, xI v104.i, xI v105.i, v106]; let v132 := Ff 1106 [xI v100.i, xI v101.i, xI v102.i, xI v103.i, xI v104.i, xI v105.i, v106]; let v133 := Ff 1107 [xI v100.i, xI v101.i, xI v102.i, xI v103.i, xI v104.i, xI v105.i, v106]; let v134 := Ff 1108 [xI v100.i, xI v101.i, xI v102.i, xI v103.i, xI v104.i, xI v105.i, v106]; let v135 := Ff 1109 [xI v100.i, xI v101.i, xI v102.i, xI v103.i, xI v104.i, xI v105.i, v106]; let v136 := Ff 1103 [xI v108.i, xI v109.i, xI v110.i, xI v111.i, xI v112.i, xI v113.i, v114]; let v137 := Ff 1104 [xI v108.i, xI v109.i, xI v110.i, xI v111.i, xI v112.i, xI v113.i, v114]; let v138 := Ff 1105 [xI v108.i, xI v109.i, xI v110.i, xI v111.i, xI v112.i, xI v113.i, v114]; let v139 := Ff 1106 [xI v108.i, xI v109.i, xI v110.i, xI v111.i, xI v112.i, xI v113.i, v114]; let v140 := Ff 1107 [xI v108.i, xI v109.i, xI v110.i, xI v111.i, xI v112.i, xI v113.i, v114]; let v141 := Ff 1108 [xI v108.i, xI v109.i, xI v110.i, xI v111.i, xI v112.i, xI v113.i, v114]; let v142 := Ff 1109 [xI v108.i, xI v109.i, xI v110.i, xI v111.i, xI v112.i, xI v113.i, v114]; let v143 := Ff 715 [xI v129.i, xI v130.i, xI v131.i, xI v132.i, xI v133.i, xI v134.i, v135, xI v136.i, xI v137.i, xI v138.i, xI v139.i, xI v140.i, xI v141.i, v142]; let v144 := Ff 910 [xI v116.i, xI v117.i, xI v118.i, xI v119.i, xI v120.i, xI v121.i, v122, v125]; let v145 := Ff 911 [xI v116.i, xI v117.i, xI v118.i, xI v119.i, xI v120.i, xI v121.i, v122, v125]; let v146 := Ff 912 [xI v116.i, xI v117.i, xI v118.i, xI v119.i, xI v120.i, xI v121.i, v122, v125]; let v147 := Ff 913 [xI v116.i, xI v117.i, xI v118.i, xI v119.i, xI v120.i, xI v121.i, v122, v125]; let v148 := Ff 914 [xI v116.i, xI v117.i, xI v118.i, xI v119.i, xI v120.i, xI v121.i, v122, v125]; let v149 := Ff 915 [xI v116.i, xI v117.i, xI v118.i, xI v119.i, xI v120.i, xI v121.i, v122, v125]; let v150 := Ff 916 [xI v116.i, xI v117.i, xI v118.i, xI v119.i, xI v120.i, xI v121.i, v122, v125]; let v151 := Ff 715 [xI v144.i, xI v145.i, xI v146.i, xI v147.i, xI v148.i, xI v149.i, v150, xI D, xI B, xI A, xI G, xI F, xI E, J]; ((((v127.i = 0) ∧ (v128.i = 0)) ∧ (v143.b = true)) ∧ (v151.b = true))))))))))))))))) ∧
(let v152 := Ff 1032 [xI v12.i, xI v13.i, xI v14.i, xI v15.i, xI v16.i, xI v17.i, v18, xI D, xI B, xI A, xI G, xI F, xI E, J, xI I, xI 1, xI 1, xI 1]; (Px 917 [xI v12.i, xI v13.i, xI v14.i, xI v15.i, xI v16.i, xI v17.i, v18, v152] ∧
(let v154 := Ff 910 [xI v12.i, xI v13.i, xI v14.i, xI v15.i, xI v16.i, xI v17.i, v18, v152]; let v155 := Ff 911 [xI v12.i, xI v13.i, xI v14.i, xI v15.i, xI v16.i, xI v17.i, v18, v152]; let v156 := Ff 912 [xI v12.i, xI v13.i, xI v14.i, xI v15.i, xI v16.i, xI v17.i, v18, v152]; let v157 := Ff 913 [xI v12.i, xI v13.i, xI v14.i, xI v15.i, xI v16.i, xI v17.i, v18, v152]; let v158 := Ff 914 [xI v12.i, xI v13.i, xI v14.i, xI v15.i, xI v16.i, xI v17.i, v18, v152]; let v159 := Ff 915 [xI v12.i, xI v13.i, xI v14.i, xI v15.i, xI v16.i, xI v17.i, v18, v152]; let v160 := Ff 916 [xI v12.i, xI v13.i, xI v14.i, xI v15.i, xI v16.i, xI v17.i, v18, v152]; let v161 := Ff 1000 [xI D, xI B, xI A, xI G, xI F, xI E, xI I, xI 1, xI 1, xI 1]; let v162 := Ff 1001 [xI D, xI B, xI A, xI G, xI F, xI E, xI I, xI 1, xI 1, xI 1]; let v163 := Ff 1002 [xI D, xI B, xI A, xI G, xI F, xI E, xI I, xI 1, xI 1, xI 1]; (Px 710 [xI v154.i, xI v155.i, xI v156.i, xI v157.i, xI v158.i, xI v159.i, v160, xI v161.i, xI v162.i, xI v163.i, xI v6.i, xI v7.i, xI v8.i] ∧
(Px 947 [xI I, xI D, xI B, xI A, xI G, xI F, xI E, J] ∧
(let v166 := Ff 960 [xI v154.i, xI v155.i, xI v156.i, xI v157.i, xI v158.i, xI v159.i, v160, xI v161.i, xI v162.i, xI v163.i, xI v6.i, xI v7.i, xI v8.i]; let v167 := Ff 961 [xI v154.i, xI v155.i, xI v156.i, xI v157.i, xI v158.i, xI v159.i, v160, xI v161.i, xI v162.i, xI v163.i, xI v6.i, xI v7.i, xI v8.i]; let v168 := Ff 962 [xI v154.i, xI v155.i, xI v156.i, xI v157.i, xI v158.i, xI v159.i, v160, xI v161.i, xI v162.i, xI v163.i, xI v6.i, xI v7.i, xI v8.i]; let v169 := Ff 963 [xI v154.i, xI v155.i, xI v156.i, xI v157.i, xI v158.i, xI v159.i, v160, xI v161.i, xI v162.i, xI v163.i, xI v6.i, xI v7.i, xI v8.i]; let v170 := Ff 964 [xI v154.i, xI v155.i, xI v156.i, xI v157.i, xI v158.i, xI v159.i, v160, xI v161.i, xI v162.i, xI v163.i, xI v6.i, xI v7.i, xI v8.i]; let v171 := Ff 965 [xI v154.i, xI v155.i, xI v156.i, xI v157.i, xI v158.i, xI v159.i, v160, xI v161.i, xI v162.i, xI v163.i, xI v6.i, xI v7.i, xI v8.i]; let v172 := Ff 966 [xI v154.i, xI v155.i, xI v156.i, xI v157.i, xI v158.i, xI v159.i, v160, xI v161.i, xI v162.i, xI v163.i, xI v6.i, xI v7.i, xI v8.i]; (Px 710 [xI v166.i, xI v167.i, xI v168.i, xI v169.i, xI v170.i, xI v171.i, v172] ∧
(let v174 := Ff 940 [xI I, xI D, xI B, xI A, xI G, xI F, xI E, J]; let v175 := Ff 941 [xI I, xI D, xI B, xI A, xI G, xI F, xI E, J]; let v176 := Ff 942 [xI I, xI D, xI B, xI A, xI G, xI F, xI E, J]; let v177 := Ff 943 [xI I, xI D, xI B, xI A, xI G, xI F, xI E, J]; let v178 := Ff 944 [xI I, xI D, xI B, xI A, xI G, xI F, xI E, J]; let v179 := Ff 945 [xI I, xI D, xI B, xI A, xI G, xI F, xI E, J]; let v180 := Ff 946 [xI I, xI D, xI B, xI A, xI G, xI F, xI E, J]; (Px 710 [xI v174.i, xI v175.i, xI v176.i, xI v177.i, xI v178.i, xI v179.i, v180] ∧
(let v182 := Ff 900 [xI D, xI B, xI A, xI G, xI F, xI E, xI K]; let v183 := Ff 901 [xI D, xI B, xI A, xI G, xI F, xI E, xI K]; let v184 := Ff 902 [xI D, xI B, xI A, xI G, xI F, xI E, xI K]; let v185 := Ff 903 [xI D, xI B, xI A, xI G, xI F, xI E, xI K]; let v186 := Ff 904 [xI D, xI B, xI A, xI G, xI F, xI E, xI K]; let v187 := Ff 905 [xI D, xI B, xI A, xI G, xI F, xI E, xI K]; let v188 := Ff 906 [xI D, xI B, xI A, xI G, xI F, xI E, xI K]; let v189 := Ff 311 [xI I]; (Px 1084 [xI v182.i, xI v183.i, xI v184.i, xI v185.i, xI v186.i, xI v187.i, v188, xI v166.i, xI v167.i, xI v168.i, xI v169.i, xI v170.i, xI v171.i, v172, xI v189.i, xI D, xI B, xI A] ∧
(let v191 := Ff 1032 [xI v182.i, xI v183.i, xI v184.i, xI v185.i, xI v186.i, xI v187.i, v188, xI v166.i, xI v167.i, xI v168.i, xI v169.i, xI v170.i, xI v171.i, v172, xI v189.i, xI D, xI B, xI A]; (Px 917 [xI v182.i, xI v183.i, xI v184.i, xI v185.i, xI v186.i, xI v187.i, v188, v191] ∧
(let v193 := Ff 1033 [xI v12.i, xI v13.i, xI v14.i, xI v15.i, xI v16.i, xI v17.i, v18, xI D, xI B, xI A, xI G, xI F, xI E, J, xI I, xI 1, xI 1, xI 1]; let v194 := Ff 1033 [xI v182.i, xI v183.i, xI v184.i, xI v185.i, xI v186.i, xI v187.i, v188, xI v166.i, xI v167.i, xI v168.i, xI v169.i, xI v170.i, xI v171.i, v172, xI v189.i, xI D, xI B, xI A]; let v195 := Ff 1103 [xI v166.i, xI v167.i, xI v168.i, xI v169.i, xI v170.i, xI v171.i, v172]; let v196 := Ff 1104 [xI v166.i, xI v167.i, xI v168.i, xI v169.i, xI v170.i, xI v171.i, v172]; let v197 := Ff 1105 [xI v166.i, xI v167.i, xI v168.i, xI v169.i, xI v170.i, xI v171.i, v172]; let v198 := Ff 1106 [xI v166.i, xI v167.i, xI v168.i, xI v169.i, xI v170.i, xI v171.i, v172]; let v199 := Ff 1107 [xI v166.i, xI v167.i, xI v168.i, xI v169.i, xI v170.i, xI v171.i, v172]; let v200 := Ff 1108 [xI v166.i, xI v167.i, xI v168.i, xI v169.i, xI v170.i, xI v171.i, v172]; let v201 := Ff 1109 [xI v166.i, xI v167.i, xI v168.i, xI v169.i, xI v170.i, xI v171.i, v172]; let v202 := Ff 1103 [xI v174.i, xI v175.i, xI v176.i, xI v177.i, xI v178.i, xI v179.i, v180]; let v203 := Ff 1104 [xI v174.i, xI v175.i, xI v176.i, xI v177.i, xI v178.i, xI v179.i, v180]; let v204 := Ff 1105 [xI v174.i, xI v175.i, xI v176.i, xI v177.i, xI v178.i, xI v179.i, v180]; let v205 := Ff 1106 [xI v174.i, xI v175.i, xI v176.i, xI v177.i, xI v178.i, xI v179.i, v180]; let v206 := Ff 1107 [xI v174.i, xI v175.i, xI v176.i, xI v177.i, xI v178.i, xI v179.i, v180]; let v207 := Ff 1108 [xI v174.i, xI v175.i, xI v176.i, xI v177.i, xI v178.i, xI v179.i, v180]; let v208 := Ff 1109 [xI v174.i, xI v175.i, xI v176.i, xI v177.i, xI v178.i, xI v179.i, v180]; let v209 := Ff 715 [xI v195.i, xI v196.i, xI v197.i, xI v198.i, xI v199.i, xI v200.i, v201, xI v202.i, xI v203.i, xI v204.i, xI v205.i, xI v206.i, xI v207.i, v208]; let v210 := Ff 910 [xI v182.i, xI v183.i, xI v184.i, xI v185.i, xI v186.i, xI v187.i, v188, v191]; let v211 := Ff 911 [xI v182.i, xI v183.i, xI v184.i, xI v185.i, xI v186.i, xI v187.i, v188, v191]; let v212 := Ff 912 [xI v182.i, xI v183.i, xI v184.i, xI v185.i, xI v186.i, xI v187.i, v188, v191]; let v213 := Ff 913 [xI v182.i, xI v183.i, xI v184.i, xI v185.i, xI v186.i, xI v187.i, v188, v191]; let v214 := Ff 914 [xI v182.i, xI v183.i, xI v184.i, xI v185.i, xI v186.i, xI v187.i, v188, v191]; let v215 := Ff 915 [xI v182.i, xI v183.i, xI v184.i, xI v185.i, xI v186.i, xI v187.i, v188, v191]; let v216 := Ff 916 [xI v182.i, xI v183.i, xI v184.i, xI v185.i, xI v186.i, xI v187.i, v188, v191]; let v217 := Ff 715 [xI v210.i, xI v211.i, xI v212.i, xI v213.i, xI v214.i, xI v215.i, v216, xI D, xI B, xI A, xI G, xI F, xI E, J]; ((((v193.i = 0) ∧ (v194.i = 0)) ∧ (v209.b = true)) ∧ (v217.b = true))))))))))))))))))) ∧
(let v218 := Ff 1003 [xI D, xI B, xI A, xI G, xI F, xI E, xI I, xI 1, xI 1, xI 1]; let v219 := Ff 1004 [xI D, xI B, xI A, xI G, xI F, xI E, xI I, xI 1, xI 1, xI 1]; let v220 := Ff 1005 [xI D, xI B, xI A, xI G, xI F, xI E, xI I, xI 1, xI 1, xI 1]; let v221 := Ff 1114 [xI v218.i, xI v219.i, xI v220.i, xI 1, xI 1, xI 1]; let v222 := Ff 1115 [xI v218.i, xI v219.i, xI v220.i, xI 1, xI 1, xI 1]; let v223 := Ff 1116 [xI v218.i, xI v219.i, xI v220.i, xI 1, xI 1, xI 1]; let v224 := Ff 900 [xI 0, xI 0, xI 0, xI v221.i, xI v222.i, xI v223.i, xI K]; let v225 := Ff 901 [xI 0, xI 0, xI 0, xI v221.i, xI v222.i, xI v223.i, xI K]; let v226 := Ff 902 [xI 0, xI 0, xI 0, xI v221.i, xI v222.i, xI v223.i, xI K]; let v227 := Ff 903 [xI 0, xI 0, xI 0, xI v221.i, xI v222.i, xI v223.i, xI K]; let v228 := Ff 904 [xI 0, xI 0, xI 0, xI v221.i, xI v222.i, xI v223.i, xI K]; let v229 := Ff 905 [xI 0, xI 0, xI 0, xI v221.i, xI v222.i, xI v223.i, xI K]; let v230 := Ff 906 [xI 0, xI 0, xI 0, xI v221.i, xI v222.i, xI v223.i, xI K]; (Px 1084 [xI v224.i, xI v225.i, xI v226.i, xI v227.i, xI v228.i, xI v229.i, v230, xI D, xI B, xI A, xI G, xI F, xI E, J, xI I, xI 1, xI 1, xI 1] ∧
((let v233 := Ff 1032 [xI v224.i, xI v225.i, xI v226.i, xI v227.i, xI v228.i, xI v229.i, v230, xI D, xI B, xI A, xI G, xI F, xI E, J, xI I, xI 1, xI 1, xI 1]; (Px 917 [xI v224.i, xI v225.i, xI v226.i, xI v227.i, xI v228.i, xI v229.i, v230, v233] ∧
((let v236 := Ff 910 [xI v224.i, xI v225.i, xI v226.i, xI v227.i, xI v228.i, xI v229.i, v230, v233]; let v237 := Ff 911 [xI v224.i, xI v225.i, xI v226.i, xI v227.i, xI v228.i, xI v229.i, v230, v233]; let v238 := Ff 912 [xI v224.i, xI v225.i, xI v226.i, xI v227.i, xI v228.i, xI v229.i, v230, v233]; let v239 := Ff 913 [xI v224.i, xI v225.i, xI v226.i, xI v227.i, xI v228.i, xI v229.i, v230, v233]; let v240 := Ff 914 [xI v224.i, xI v225.i, xI v226.i, xI v227.i, xI v228.i, xI v229.i, v230, v233]; let v241 := Ff 915 [xI v224.i, xI v225.i, xI v226.i, xI v227.i, xI v228.i, xI v229.i, v230, v233]; let v242 := Ff 916 [xI v224.i, xI v225.i, xI v226.i, xI v227.i, xI v228.i, xI v229.i, v230, v233]; let v243 := Ff 1000 [xI D, xI B, xI A, xI G, xI F, xI E, xI I, xI 1, xI 1, xI 1]; let v244 := Ff 1001 [xI D, xI B, xI A, xI G, xI F, xI E, xI I, xI 1, xI 1, xI 1]; let v245 := Ff 1002 [xI D, xI B, xI A, xI G, xI F, xI E, xI I, xI 1, xI 1, xI 1]; (Px 710 [xI v236.i, xI v237.i, xI v238.i, xI v239.i, xI v240.i, xI v241.i, v242, xI v243.i, xI v244.i, xI v245.i, xI v218.i, xI v219.i, xI v220.i] ∧
(Px 947 [xI I, xI D, xI B, xI A, xI G, xI F, xI E, J] ∧
(let v248 := Ff 960 [xI v236.i, xI v237.i, xI v238.i, xI v239.i, xI v240.i, xI v241.i, v242, xI v243.i, xI v244.i, xI v245.i, xI v218.i, xI v219.i, xI v220.i]; let v249 := Ff 961 [xI v236.i, xI v237.i, xI v238.i, xI v239.i, xI v240.i, xI v241.i, v242, xI v243.i, xI v244.i, xI v245.i, xI v218.i, xI v219.i, xI v220.i]; let v250 := Ff 962 [xI v236.i, xI v237.i, xI v238.i, xI v239.i, xI v240.i, xI v241.i, v242, xI v243.i, xI v244.i, xI v245.i, xI v218.i, xI v219.i, xI v220.i]; let v251 := Ff 963 [xI v236.i, xI v237.i, xI v238.i, xI v239.i, xI v240.i, xI v241.i, v242, xI v243.i, xI v244.i, xI v245.i, xI v218.i, xI v219.i, xI v220.i]; let v252 := Ff 964 [xI v236.i, xI v237.i, xI v238.i, xI v239.i, xI v240.i, xI v241.i, v242, xI v243.i, xI v244.i, xI v245.i, xI v218.i, xI v219.i, xI v220.i]; let v253 := Ff 965 [xI v236.i, xI v237.i, xI v238.i, xI v239.i, xI v240.i, xI v241.i, v242, xI v243.i, xI v244.i, xI v245.i, xI v218.i, xI v219.i, xI v220.i]; let v254 := Ff 966 [xI v236.i, xI v237.i, xI v238.i, xI v239.i, xI v240.i, xI v241.i, v242, xI v243.i, xI v244.i, xI v245.i, xI v218.i, xI v219.i, xI v220.i]; (Px 710 [xI v248.i, xI v249.i, xI v250.i, xI v251.i, xI v252.i, xI v253.i, v254] ∧
(let v256 := Ff 940 [xI I, xI D, xI B, xI A, xI G, xI F, xI E, J]; let v257 := Ff 941 [xI I, xI D, xI B, xI A, xI G, xI F, xI E, J]; let v258 := Ff 942 [xI I, xI D, xI B, xI A, xI G, xI F, xI E, J]; let v259 := Ff 943 [xI I, xI D, xI B, xI A, xI G, xI F, xI E, J]; let v260 := Ff 944 [xI I, xI D, xI B, xI A, xI G, xI F, xI E, J]; let v261 := Ff 945 [xI I, xI D, xI B, xI A, xI G, xI F, xI E, J]; let v262 := Ff 946 [xI I, xI D, xI B, xI A, xI G, xI F, xI E, J]; (Px 710 [xI v256.i, xI v257.i, xI v258.i, xI v259.i, xI v260.i, xI v261.i, v262] ∧
(let v264 := Ff 900 [xI D, xI B, xI A, xI G, xI F, xI E, xI K]; let v265 := Ff 901 [xI D, xI B, xI A, xI G, xI F, xI E, xI K]; let v266 := Ff 902 [xI D, xI B, xI A, xI G, xI F, xI E, xI K]; let v267 := Ff 903 [xI D, xI B, xI A, xI G, xI F, xI E, xI K]; let v268 := Ff 904 [xI D, xI B, xI A, xI G, xI F, xI E, xI K]; let v269 := Ff 905 [xI D, xI B, xI A, xI G, xI F, xI E, xI K]; let v270 := Ff 906 [xI D, xI B, xI A, xI G, xI F, xI E, xI K]; let v271 := Ff 311 [xI I]; (Px 1084 [xI v264.i, xI v265.i, xI v266.i, xI v267.i, xI v268.i, xI v269.i, v270, xI v248.i, xI v249.i, xI v250.i, xI v251.i, xI v252.i, xI v253.i, v254, xI v271.i, xI D, xI B, xI A] ∧
(let v273 := Ff 1032 [xI v264.i, xI v265.i, xI v266.i, xI v267.i, xI v268.i, xI v269.i, v270, xI v248.i, xI v249.i, xI v250.i, xI v251.i, xI v252.i, xI v253.i, v254, xI v271.i, xI D, xI B, xI A]; (Px 917 [xI v264.i, xI v265.i, xI v266.i, xI v267.i, xI v268.i, xI v269.i, v270, v273] ∧
(let v275 := Ff 1033 [xI v224.i, xI v225.i, xI v226.i, xI v227.i, xI v228.i, xI v229.i, v230, xI D, xI B, xI A, xI G, xI F, xI E, J, xI I, xI 1, xI 1, xI 1]; let v276 := Ff 1033 [xI v264.i, xI v265.i, xI v266.i, xI v267.i, xI v268.i, xI v269.i, v270, xI v248.i, xI v249.i, xI v250.i, xI v251.i, xI v252.i, xI v253.i, v254, xI v271.i, xI D, xI B, xI A]; let v277 := Ff 1103 [xI v248.i, xI v249.i, xI v250.i, xI v251.i, xI v252.i, xI v253.i, v254]; let v278 := Ff 1104 [xI v248.i, xI v249.i, xI v250.i, xI v251.i, xI v252.i, xI v253.i, v254]; let v279 := Ff 1105 [xI v248.i, xI v249.i, xI v250.i, xI v251.i, xI v252.i, xI v253.i, v254]; let v280 := Ff 1106 [xI v248.i, xI v249.i, xI v250.i, xI v251.i, xI v252.i, xI v253.i, v254]; let v281 := Ff 1107 [xI v248.i, xI v249.i, xI v250.i, xI v251.i, xI v252.i, xI v253.i, v254]; let v282 := Ff 1108 [xI v248.i, xI v249.i, xI v250.i, xI v251.i, xI v252.i, xI v253.i, v254]; let v283 := Ff 1109 [xI v248.i, xI v249.i, xI v250.i, xI v251.i, xI v252.i, xI v253.i, v254]; let v284 := Ff 1103 [xI v256.i, xI v257.i, xI v258.i, xI v259.i, xI v260.i, xI v261.i, v262]; let v285 := Ff 1104 [xI v256.i, xI v257.i, xI v258.i, xI v259.i, xI v260.i, xI v261.i, v262]; let v286 := Ff 1105 [xI v256.i, xI v257.i, xI v258.i, xI v259.i, xI v260.i, xI v261.i, v262]; let v287 := Ff 1106 [xI v256.i, xI v257.i, xI v258.i, xI v259.i, xI v260.i, xI v261.i, v262]; let v288 := Ff 1107 [xI v256.i, xI v257.i, xI v258.i, xI v259.i, xI v260.i, xI v261.i, v262]; let v289 := Ff 1108 [xI v256.i, xI v257.i, xI v258.i, xI v259.i, xI v260.i, xI v261.i, v262]; let v290 := Ff 1109 [xI v256.i, xI v257.i, xI v258.i, xI v259.i, xI v260.i, xI v261.i, v262]; let v291 := Ff 715 [xI v277.i, xI v278.i, xI v279.i, xI v280.i, xI v281.i, xI v282.i, v283, xI v284.i, xI v285.i, xI v286.i, xI v287.i, xI v288.i, xI v289.i, v290]; let v292 := Ff 910 [xI v264.i, xI v265.i, xI v266.i, xI v267.i, xI v268.i, xI v269.i, v270, v273]; let v293 := Ff 911 [xI v264.i, xI v265.i, xI v266.i, xI v267.i, xI v268.i, xI v269.i, v270, v273]; let v294 := Ff 912 [xI v264.i, xI v265.i, xI v266.i, xI v267.i, xI v268.i, xI v269.i, v270, v273]; let v295 := Ff 913 [xI v264.i, xI v265.i, xI v266.i, xI v267.i, xI v268.i, xI v269.i, v270, v273]; let v296 := Ff 914 [xI v264.i, xI v265.i, xI v266.i, xI v267.i, xI v268.i, xI v269.i, v270, v273]; let v297 := Ff 915 [xI v264.i, xI v265.i, xI v266.i, xI v267.i, xI v268.i, xI v269.i, v270, v273]; let v298 := Ff 916 [xI v264.i, xI v265.i, xI v266.i, xI v267.i, xI v268.i, xI v269.i, v270, v273]; let v299 := Ff 715 [xI v292.i, xI v293.i, xI v294.i, xI v295.i, xI v296.i, xI v297.i, v298, xI D, xI B, xI A, xI G, xI F, xI E, J]; ((((v275.i = 0) ∧ (v276.i = 0)) ∧ (v291.b = true)) ∧ (v299.b = true)))))))))))))) ∧
(let v300 := Ff 910 [xI v224.i, xI v225.i, xI v226.i, xI v227.i, xI v228.i, xI v229.i, v230, v233]; let v301 := Ff 911 [xI v224.i, xI v225.i, xI v226.i, xI v227.i, xI v228.i, xI v229.i, v230, v233]; let v302 := Ff 912 [xI v224.i, xI v225.i, xI v226.i, xI v227.i, xI v228.i, xI v229.i, v230, v233]; let v303 := Ff 913 [xI v224.i, xI v225.i, xI v226.i, xI v227.i, xI v228.i, xI v229.i, v230, v233]; let v304 := Ff 914 [xI v224.i, xI v225.i, xI v226.i, xI v227.i, xI v228.i, xI v229.i, v230, v233]; let v305 := Ff 915 [xI v224.i, xI v225.i, xI v226.i, xI v227.i, xI v228.i, xI v229.i, v230, v233]; let v306 := Ff 916 [xI v224.i, xI v225.i, xI v226.i, xI v227.i, xI v228.i, xI v229.i, v230, v233]; let v307 := Ff 1000 [xI D, xI B, xI A, xI G, xI F, xI E, xI I, xI 1, xI 1, xI 1]; let v308 := Ff 1001 [xI D, xI B, xI A, xI G, xI F, xI E, xI I, xI 1, xI 1, xI 1]; let v309 := Ff 1002 [xI D, xI B, xI A, xI G, xI F, xI E, xI I, xI 1, xI 1, xI 1]; (Px 710 [xI v300.i, xI v301.i, xI v302.i, xI v303.i, xI v304.i, xI v305.i, v306, xI v307.i, xI v308.i, xI v309.i, xI v218.i, xI v219.i, xI v220.i] ∧
(Px 947 [xI I, xI D, xI B, xI A, xI G, xI F, xI E, J] ∧
(let v312 := Ff 960 [xI v300.i, xI v301.i, xI v302.i, xI v303.i, xI v304.i, xI v305.i, v306, xI v307.i, xI v308.i, xI v309.i, xI v218.i, xI v219.i, xI v220.i]; let v313 := Ff 961 [xI v300.i, xI v301.i, xI v302.i, xI v303.i, xI v304.i, xI v305.i, v306, xI v307.i, xI v308.i, xI v309.i, xI v218.i, xI v219.i, xI v220.i]; let v314 := Ff 962 [xI v300.i, xI v301.i, xI v302.i, xI v303.i, xI v304.i, xI v305.i, v306, xI v307.i, xI v308.i, xI v309.i, xI v218.i, xI v219.i, xI v220.i]; let v315 := Ff 963 [xI v300.i, xI v301.i, xI v302.i, xI v303.i, xI v304.i, xI v305.i, v306, xI v307.i, xI v308.i, xI v309.i, xI v218.i, xI v219.i, xI v220.i]; let v316 := Ff 964 [xI v300.i, xI v301.i, xI v302.i, xI v303.i, xI v304.i, xI v305.i, v306, xI v307.i, xI v308.i, xI v309.i, xI v218.i, xI v219.i, xI v220.i]; let v317 := Ff 965 [xI v300.i, xI v301.i, xI v302.i, xI v303.i, xI v304.i, xI v305.i, v306, xI v307.i, xI v308.i, xI v309.i, xI v218.i, xI v219.i, xI v220.i]; let v318 := Ff 966 [xI v300.i, xI v301.i, xI v302.i, xI v303.i, xI v304.i, xI v305.i, v306, xI v307.i, xI v308.i, xI v309.i, xI v218.i, xI v219.i, xI v220.i]; (Px 710 [xI v312.i, xI v313.i, xI v314.i, xI v315.i, xI v316.i, xI v317.i, v318] ∧
(let v320 := Ff 940 [xI I, xI D, xI B, xI A, xI G, xI F, xI E, J]; let v321 := Ff 941 [xI I, xI D, xI B, xI A, xI G, xI F, xI E, J]; let v322 := Ff 942 [xI I, xI D, xI B, xI A, xI G, xI F, xI E, J]; let v323 := Ff 943 [xI I, xI D, xI B, xI A, xI G, xI F, xI E, J]; let v324 := Ff 944 [xI I, xI D, xI B, xI A, xI G, xI F, xI E, J]; let v325 := Ff 945 [xI I, xI D, xI B, xI A, xI G, xI F, xI E, J]; let v326 := Ff 946 [xI I, xI D, xI B, xI A, xI G, xI F, xI E, J]; (Px 710 [xI v320.i, xI v321.i, xI v322.i, xI v323.i, xI v324.i, xI v325.i, v326] ∧
(let v328 := Ff 900 [xI D, xI B, xI A, xI G, xI F, xI E, xI K]; let v329 := Ff 901 [xI D, xI B, xI A, xI G, xI F, xI E, xI K]; let v330 := Ff 902 [xI D, xI B, xI A, xI G, xI F, xI E, xI K]; let v331 := Ff 903 [xI D, xI B, xI A, xI G, xI F, xI E, xI K]; let v332 := Ff 904 [xI D, xI B, xI A, xI G, xI F, xI E, xI K]; let v333 := Ff 905 [xI D, xI B, xI A, xI G, xI F, xI E, xI K]; let v334 := Ff 906 [xI D, xI B, xI A, xI G, xI F, xI E, xI K]; let v335 := Ff 311 [xI I]; (Px 1084 [xI v328.i, xI v329.i, xI v330.i, xI v331.i, xI v332.i, xI v333.i, v334, xI v312.i, xI v313.i, xI v314.i, xI v315.i, xI v316.i, xI v317.i, v318, xI v335.i, xI D, xI B, xI A] ∧
(let v337 := Ff 1032 [xI v328.i, xI v329.i, xI v330.i, xI v331.i, xI v332.i, xI v333.i, v334, xI v312.i, xI v313.i, xI v314.i, xI v315.i, xI v316.i, xI v317.i, v318, xI v335.i, xI D, xI B, xI A]; (Px 917 [xI v328.i, xI v329.i, xI v330.i, xI v331.i, xI v332.i, xI v333.i, v334, v337] ∧
(let v339 := Ff 1033 [xI v224.i, xI v225.i, xI v226.i, xI v227.i, xI v228.i, xI v229.i, v230, xI D, xI B, xI A, xI G, xI F, xI E, J, xI I, xI 1, xI 1, xI 1]; let v340 := Ff 1033 [xI v328.i, xI v329.i, xI v330.i, xI v331.i, xI v332.i, xI v333.i, v334, xI v312.i, xI v313.i, xI v314.i, xI v315.i, xI v316.i, xI v317.i, v318, xI v335.i, xI D, xI B, xI A]; let v341 := Ff 1103 [xI v312.i, xI v313.i, xI v314.i, xI v315.i, xI v316.i, xI v317.i, v318]; let v342 := Ff 1104 [xI v312.i, xI v313.i, xI v314.i, xI v315.i, xI v316.i, xI v317.i, v318]; let v343 := Ff 1105 [xI v312.i, xI v313.i, xI v314.i, xI v315.i, xI v316.i, xI v317.i, v318]; let v344 := Ff 1106 [xI v312.i, xI v313.i, xI v314.i, xI v315.i, xI v316.i, xI v317.i, v318]; let v345 := Ff 1107 [xI v312.i, xI v313.i, xI v314.i, xI v315.i, xI v316.i, xI v317.i, v318]; let v346 := Ff 1108 [xI v312.i, xI v313.i, xI v314.i, xI v315.i, xI v316.i, xI v317.i, v318]; let v347 := Ff 1109 [xI v312.i, xI v313.i, xI v314.i, xI v315.i, xI v316.i, xI v317.i, v318]; let v348 := Ff 1103 [xI v320.i, xI v321.i, xI v322.i, xI v323.i, xI v324.i, xI v325.i, v326]; let v349 := Ff 1104 [xI v320.i, xI v321.i, xI v322.i, xI v323.i, xI v324.i, xI v325.i, v326]; let v350 := Ff 1105 [xI v320.i, xI v321.i, xI v322.i, xI v323.i, xI v324.i, xI v325.i, v326]; let v351 := Ff 1106 [xI v320.i, xI v321.i, xI v322.i, xI v323.i, xI v324.i, xI v325.i, v326]; let v352 := Ff 1107 [xI v320.i, xI v321.i, xI v322.i, xI v323.i, xI v324.i, xI v325.i, v326]; let v353 := Ff 1108 [xI v320.i, xI v321.i, xI v322.i, xI v323.i, xI v324.i, xI v325.i, v326]; let v354 := Ff 1109 [xI v320.i, xI v321.i, xI v322.i, xI v323.i, xI v324.i, xI v325.i, v326]; let v355 := Ff 715 [xI v341.i, xI v342.i, xI v343.i, xI v344.i, xI v345.i, xI v346.i, v347, xI v348.i, xI v349.i, xI v350.i, xI v351.i, xI v352.i, xI v353.i, v354]; let v356 := Ff 910 [xI v328.i, xI v329.i, xI v330.i, xI v331.i, xI v332.i, xI v333.i, v334, v337]; let v357 := Ff 911 [xI v328.i, xI v329.i, xI v330.i, xI v331.i, xI v332.i, xI v333.i, v334, v337]; let v358 := Ff 912 [xI v328.i, xI v329.i, xI v330.i, xI v331.i, xI v332.i, xI v333.i, v334, v337]; let v359 := Ff 913 [xI v328.i, xI v329.i, xI v330.i, xI v331.i, xI v332.i, xI v333.i, v334, v337]; let v360 := Ff 914 [xI v328.i, xI v329.i, xI v330.i, xI v331.i, xI v332.i, xI v333.i, v334, v337]; let v361 := Ff 915 [xI v328.i, xI v329.i, xI v330.i, xI v331.i, xI v332.i, xI v333.i, v334, v337]; let v362 := Ff 916 [xI v328.i, xI v329.i, xI v330.i, xI v331.i, xI v332.i, xI v333.i, v334, v337]; let v363 := Ff 715 [xI v356.i, xI v357.i, xI v358.i, xI v359.i, xI v360.i, xI v361.i, v362, xI D, xI B, xI A, xI G, xI F, xI E, J]; ((((v339.i = 0) ∧ (v340.i = 0)) ∧ (v355.b = true)) ∧ (v363.b = true))))))))))))))))) ∧
(let v364 := Ff 1032 [xI v224.i, xI v225.i, xI v226.i, xI v227.i, xI v228.i, xI v229.i, v230, xI D, xI B, xI A, xI G, xI F, xI E, J, xI I, xI 1, xI 1, xI 1]; (Px 917 [xI v224.i, xI v225.i, xI v226.i, xI v227.i, xI v228.i, xI v229.i, v230, v364] ∧
(let v366 := Ff 910 [xI v224.i, xI v225.i, xI v226.i, xI v227.i, xI v228.i, xI v229.i, v230, v364]; let v367 := Ff 911 [xI v224.i, xI v225.i, xI v226.i, xI v227.i, xI v228.i, xI v229.i, v230, v364]; let v368 := Ff 912 [xI v224.i, xI v225.i, xI v226.i, xI v227.i, xI v228.i, xI v229.i, v230, v364]; let v369 := Ff 913 [xI v224.i, xI v225.i, xI v226.i, xI v227.i, xI v228.i, xI v229.i, v230, v364]; let v370 := Ff 914 [xI v224.i, xI v225.i, xI v226.i, xI v227.i, xI v228.i, xI v229.i, v230, v364]; let v371 := Ff 915 [xI v224.i, xI v225.i, xI v226.i, xI v227.i, xI v228.i, xI v229.i, v230, v364]; let v372 := Ff 916 [xI v224.i, xI v225.i, xI v226.i, xI v227.i, xI v228.i, xI v229.i, v230, v364]; let v373 := Ff 1000 [xI D, xI B, xI A, xI G, xI F, xI E, xI I, xI 1, xI 1, xI 1]; let v374 := Ff 1001 [xI D, xI B, xI A, xI G, xI F, xI E, xI I, xI 1, xI 1, xI 1]; let v375 := Ff 1002 [xI D, xI B, xI A, xI G, xI F, xI E, xI I, xI 1, xI 1, xI 1]; (Px 710 [xI v366.i, xI v367.i, xI v368.i, xI v369.i, xI v370.i, xI v371.i, v372, xI v373.i, xI v374.i, xI v375.i, xI v218.i, xI v219.i, xI v220.i] ∧
(Px 947 [xI I, xI D, xI B, xI A, xI G, xI F, xI E, J] ∧
(let v378 := Ff 960 [xI v366.i, xI v367.i, xI v368.i, xI v369.i, xI v370.i, xI v371.i, v372, xI v373.i, xI v374.i, xI v375.i, xI v218.i, xI v219.i, xI v220.i]; let v379 := Ff 961 [xI v366.i, xI v367.i, xI v368.i, xI v369.i, xI v370.i, xI v371.i, v372, xI v373.i, xI v374.i, xI v375.i, xI v218.i, xI v219.i, xI v220.i]; let v380 := Ff 962 [xI v366.i, xI v367.i, xI v368.i, xI v369.i, xI v370.i, xI v371.i, v372, xI v373.i, xI v374.i, xI v375.i, xI v218.i, xI v219.i, xI v220.i]; let v381 := Ff 963 [xI v366.i, xI v367.i, xI v368.i, xI v369.i, xI v370.i, xI v371.i, v372, xI v373.i, xI v374.i, xI v375.i, xI v218.i, xI v219.i, xI v220.i]; let v382 := Ff 964 [xI v366.i, xI v367.i, xI v368.i, xI v369.i, xI v370.i, xI v371.i, v372, xI v373.i, xI v374.i, xI v375.i, xI v218.i, xI v219.i, xI v220.i]; let v383 := Ff 965 [xI v366.i, xI v367.i, xI v368.i, xI v369.i, xI v370.i, xI v371.i, v372, xI v373.i, xI v374.i, xI v375.i, xI v218.i, xI v219.i, xI v220.i]; let v384 := Ff 966 [xI v366.i, xI v367.i, xI v368.i, xI v369.i, xI v370.i, xI v371.i, v372, xI v373.i, xI v374.i, xI v375.i, xI v218.i, xI v219.i, xI v220.i]; (Px 710 [xI v378.i, xI v379.i, xI v380.i, xI v381.i, xI v382.i, xI v383.i, v384] ∧
(let v386 := Ff 940 [xI I, xI D, xI B, xI A, xI G, xI F, xI E, J]; let v387 := Ff 941 [xI I, xI D, xI B, xI A, xI G, xI F, xI E, J]; let v388 := Ff 942 [xI I, xI D, xI B, xI A, xI G, xI F, xI E, J]; let v389 := Ff 943 [xI I, xI D, xI B, xI A, xI G, xI F, xI E, J]; let v390 := Ff 944 [xI I, xI D, xI B, xI A, xI G, xI F, xI E, J]; let v391 := Ff 945 [xI I, xI D, xI B, xI A, xI G, xI F, xI E, J]; let v392 := Ff 946 [xI I, xI D, xI B, xI A, xI G, xI F, xI E, J]; (Px 710 [xI v386.i, xI v387.i, xI v388.i, xI v389.i, xI v390.i, xI v391.i, v392] ∧
(let v394 := Ff 900 [xI D, xI B, xI A, xI G, xI F, xI E, xI K]; let v395 := Ff 901 [xI D, xI B, xI A, xI G, xI F, xI E, xI K]; let v396 := Ff 902 [xI D, xI B, xI A, xI G, xI F, xI E, xI K]; let v397 := Ff 903 [xI D, xI B, xI A, xI G, xI F, xI E, xI K]; let v398 := Ff 904 [xI D, xI B, xI A, xI G, xI F, xI E, xI K]; let v399 := Ff 905 [xI D, xI B, xI A, xI G, xI F, xI E, xI K]; let v400 := Ff 906 [xI D, xI B, xI A, xI G, xI F, xI E, xI K]; let v401 := Ff 311 [xI I]; (Px 1084 [xI v394.i, xI v395.i, xI v396.i, xI v397.i, xI v398.i, xI v399.i, v400, xI v378.i, xI v379.i, xI v380.i, xI v381.i, xI v382.i, xI v383.i, v384, xI v401.i, xI D, xI B, xI A] ∧
(let v403 := Ff 1032 [xI v394.i, xI v395.i, xI v396.i, xI v397.i, xI v398.i, xI v399.i, v400, xI v378.i, xI v379.i, xI v380.i, xI v381.i, xI v382.i, xI v383.i, v384, xI v401.i, xI D, xI B, xI A]; (Px 917 [xI v394.i, xI v395.i, xI v396.i, xI v397.i, xI v398.i, xI v399.i, v400, v403] ∧
(let v405 := Ff 1033 [xI v224.i, xI v225.i, xI v226.i, xI v227.i, xI v228.i, xI v229.i, v230, xI D, xI B, xI A, xI G, xI F, xI E, J, xI I, xI 1, xI 1, xI 1]; let v406 := Ff 1033 [xI v394.i, xI v395.i, xI v396.i, xI v397.i, xI v398.i, xI v399.i, v400, xI v378.i, xI v379.i, xI v380.i, xI v381.i, xI v382.i, xI v383.i, v384, xI v401.i, xI D, xI B, xI A]; let v407 := Ff 1103 [xI v378.i, xI v379.i, xI v380.i, xI v381.i, xI v382.i, xI v383.i, v384]; let v408 := Ff 1104 [xI v378.i, xI v379.i, xI v380.i, xI v381.i, xI v382.i, xI v383.i, v384]; let v409 := Ff 1105 [xI v378.i, xI v379.i, xI v380.i, xI v381.i, xI v382.i, xI v383.i, v384]; let v410 := Ff 1106 [xI v378.i, xI v379.i, xI v380.i, xI v381.i, xI v382.i, xI v383.i, v384]; let v411 := Ff 1107 [xI v378.i, xI v379.i, xI v380.i, xI v381.i, xI v382.i, xI v383.i, v384]; let v412 := Ff 1108 [xI v378.i, xI v379.i, xI v380.i, xI v381.i, xI v382.i, xI v383.i, v384]; let v413 := Ff 1109 [xI v378.i, xI v379.i, xI v380.i, xI v381.i, xI v382.i, xI v383.i, v384]; let v414 := Ff 1103 [xI v386.i, xI v387.i, xI v388.i, xI v389.i, xI v390.i, xI v391.i, v392]; let v415 := Ff 1104 [xI v386.i, xI v387.i, xI v388.i, xI v389.i, xI v390.i, xI v391.i, v392]; let v416 := Ff 1105 [xI v386.i, xI v387.i, xI v388.i, xI v389.i, xI v390.i, xI v391.i, v392]; let v417 := Ff 1106 [xI v386.i, xI v387.i, xI v388.i, xI v389.i, xI v390.i, xI v391.i, v392]; let v418 := Ff 1107 [xI v386.i, xI v387.i, xI v388.i, xI v389.i, xI v390.i, xI v391.i, v392]; let v419 := Ff 1108 [xI v386.i, xI v387.i, xI v388.i, xI v389.i, xI v390.i, xI v391.i, v392]; let v420 := Ff 1109 [xI v386.i, xI v387.i, xI v388.i, xI v389.i, xI v390.i, xI v391.i, v392]; let v421 := Ff 715 [xI v407.i, xI v408.i, xI v409.i, xI v410.i, xI v411.i, xI v412.i, v413, xI v414.i, xI v415.i, xI v416.i, xI v417.i, xI v418.i, xI v419.i, v420]; let v422 := Ff 910 [xI v394.i, xI v395.i, xI v396.i, xI v397.i, xI v398.i, xI v399.i, v400, v403]; let v423 := Ff 911 [xI v394.i, xI v395.i, xI v396.i, xI v397.i, xI v398.i, xI v399.i, v400, v403]; let v424 := Ff 912 [xI v394.i, xI v395.i, xI v396.i, xI v397.i, xI v398.i, xI v399.i, v400, v403]; let v425 := Ff 913 [xI v394.i, xI v395.i, xI v396.i, xI v397.i, xI v398.i, xI v399.i, v400, v403]; let v426 := Ff 914 [xI v394.i, xI v395.i, xI v396.i, xI v397.i, xI v398.i, xI v399.i, v400, v403]; let v427 := Ff 915 [xI v394.i, xI v395.i, xI v396.i, xI v397.i, xI v398.i, xI v399.i, v400, v403]; let v428 := Ff 916 [xI v394.i, xI v395.i, xI v396.i, xI v397.i, xI v398.i, xI v399.i, v400, v403]; let v429 := Ff 715 [xI v422.i, xI v423.i, xI v424.i, xI v425.i, xI v426.i, xI v427.i, v428, xI D, xI B, xI A, xI G, xI F, xI E, J]; ((((v405.i = 0) ∧ (v406.i = 0)) ∧ (v421.b = true)) ∧ (v429.b = true))))))))))))))))))))))))
noncomputable def sh : List RSh := (shTs Tryz.prog [28, 3, 3]).getD []
attribute [irreducible] sh
theorem link (D B A G F E : Int) (J : X) (I K : Int) : (walkR Tryz.prog (cfO (some Ff) L20zc R20zc [] sumC) Tryz.f5 1000 sh).law { ρ0 with x := fun j => [xI D, xI B, xI A, xI G, xI F, xI E, J, xI I, xI K].getD j (xI 0) } = lawP D B A G F E J I K := by kernel_rfl
set_option maxHeartbeats 4000000 in
theorem lawP_ok (D B A G F E : Int) (J : X) (I K : Int) (g0 : -9223372036854775808 ≤ D ∧ D ≤ 9223372036854775807) (g1 : -9223372036854775808 ≤ B ∧ B ≤ 9223372036854775807) (g2 : -9223372036854775808 ≤ A ∧ A ≤ 9223372036854775807) (g3 : -9223372036854775808 ≤ G ∧ G ≤ 9223372036854775807) (g4 : -9223372036854775808 ≤ F ∧ F ≤ 9223372036854775807) (g5 : -9223372036854775808 ≤ E ∧ E ≤ 9223372036854775807) (g6 : 0 ≤ J.i ∧ J.i ≤ 9223372036854775807 ∧ RowOk [.int .i64 (-9223372036854775808) (9223372036854775807)] J.r J.i.toNat) (g7 : -9223372036854775808 ≤ I ∧ I ≤ 9223372036854775807) (g8 : -9223372036854775808 ≤ K ∧ K ≤ 9223372036854775807) : lawP D B A G F E J I K := by
 unfold lawP
 intro v0
 refine And.intro ?_ ?_
 ·intro h2
  rfl
 intro h3
 obtain ⟨h31, h3f⟩ := not_or.1 h3
 obtain ⟨h31, h3e⟩ := not_or.1 h31
 obtain ⟨h31, h3d⟩ := not_or.1 h31
 obtain ⟨h31, h3c⟩ := not_or.1 h31
 obtain ⟨h31, h3b⟩ := not_or.1 h31
 obtain ⟨h31, h3a⟩ := not_or.1 h31
 have ha := Decidable.not_not.1 h31
 have gv : validG ⟨(bxI D B A G F E), lstX deI J⟩ = true := ha.1.1
 have hl := lstX_len deI J
 have hS : nB 1000 (bxI D B A G F E) := by
  have := ha.2
  show ((-1000 ≤ D ∧ D ≤ 1000) ∧ (-1000 ≤ B ∧ B ≤ 1000) ∧ (-1000 ≤ A ∧ A ≤ 1000)) ∧ (-1000 ≤ G ∧ G ≤ 1000) ∧ (-1000 ≤ F ∧ F ≤ 1000) ∧ (-1000 ≤ E ∧ E ≤ 1000)
  omega
 have H : GbH (bxI D B A G F E) (lstX deI J) I K := ⟨gv, by omega, by omega, by unfold inT; omega, by omega, hS⟩
 have hP : nP 10000 (1, 1, 1) := ⟨⟨by decide, by decide⟩, ⟨by decide, by decide⟩, by decide, by decide⟩
 refine andI ?_ fun o4 => ?_
 ·exact ⟨nB_mono hS (by decide), hP⟩
 refine And.intro ?_ ?_
 ·intro v6 v7 v8 v9 v10 v11 v12 v13 v14 v15 v16 v17 v18
  have e18 : lstX deI v18 = gbG (bxI D B A G F E) I K := lst_rowI
  refine andI ?_ fun o19 => ?_
  ·exact ⟨H.vG e18, gv, nB_mono hS (by decide), hP⟩
  refine And.intro ?_ ?_
  ·intro v21
   have e21 : lstX deC v21 = gbL (bxI D B A G F E) (lstX deI J) I K := lst_rowC.trans (H.cp e18)
   refine andI ?_ fun o22 => ?_
   ·exact ⟨H.vG e18, fun j hj => H.chg (by have := lx_mem (dec := deC) (l := v21) (k := (j : Int)) (by omega) hj; rwa [e21] at this)⟩
   refine And.intro ?_ ?_
   ·intro v24 v25 v26 v27 v28 v29 v30
    have e30 : lstX deI v30 = gbW (bxI D B A G F E) (lstX deI J) I K := lst_rowI.trans (H.wr e18 e21)
    intro v31 v32 v33
    refine andI ?_ fun o34 => ?_
    ·exact H.vW e30
    refine andI ?_ fun o35 => ?_
    ·exact gv
    intro v36 v37 v38 v39 v40 v41 v42
    have e42 : lstX deI v42 = gbC (bxI D B A G F E) (lstX deI J) I K := lst_rowI.trans (H.cr e30)
    refine andI ?_ fun o43 => ?_
    ·exact H.vC e42
    intro v44 v45 v46 v47 v48 v49 v50
    have e50 : lstX deI v50 = turL I (bxI D B A G F E) (lstX deI J) := lst_rowI
    refine andI ?_ fun o51 => ?_
    ·exact H.vT e50
    intro v52 v53 v54 v55 v56 v57 v58
    have e58 : lstX deI v58 = newL (bxI D B A G F E) K := lst_rowI
    intro v59
    refine andI ?_ fun o60 => ?_
    ·exact ⟨H.vb e58, H.vC e42, H.nT, H.np⟩
    intro v61
    have e61 : lstX deC v61 = gbM (bxI D B A G F E) (lstX deI J) I K := lst_rowC.trans (H.cp2 e58 e42)
    refine andI ?_ fun o62 => ?_
    ·exact ⟨H.vb e58, fun j hj => H.chg2 (by have := lx_mem (dec := deC) (l := v61) (k := (j : Int)) (by omega) hj; rwa [e61] at this)⟩
    intro v63
    have e63 : v63.i = cpE (bxI D B A G F E) I := rfl
    intro v64
    have e64 : v64.i = cpE (newB (gbT (bxI D B A G F E) I) 0) (ivB I) := rfl
    intro v65 v66 v67 v68 v69 v70 v71
    have e71 : lstX deI v71 = lstX deI v42 := lst_rowI
    intro v72 v73 v74 v75 v76 v77 v78
    have e78 : lstX deI v78 = lstX deI v50 := lst_rowI
    intro v79
    have e79 : v79.b = eqG (ppB (newB (gbT (bxI D B A G F E) I) 0) (lstX deI v42)) (lstX deI v71) (ppB (turB I (bxI D B A G F E)) (lstX deI v50)) (lstX deI v78) := by kernel_rfl
    intro v80 v81 v82 v83 v84 v85 v86
    have e86 : lstX deI v86 = (lstX deI J) := lst_rowI.trans (H.wr2 e58 e61)
    intro v87
    have e87 : v87.b = eqG (newB (bxI D B A G F E) K) (lstX deI v86) (bxI D B A G F E) (lstX deI J) := by kernel_rfl
    exact ⟨⟨⟨e63.trans H.e1, e64.trans H.e2⟩, e79.trans (H.pat e42 e71 e50 e78)⟩, e87.trans (eqG_of H.ib e86)⟩
   intro v88 v89 v90 v91 v92 v93 v94
   have e94 : lstX deI v94 = gbW (bxI D B A G F E) (lstX deI J) I K := lst_rowI.trans (H.wr e18 e21)
   intro v95 v96 v97
   refine andI ?_ fun o98 => ?_
   ·exact H.vW e94
   refine andI ?_ fun o99 => ?_
   ·exact gv
   intro v100 v101 v102 v103 v104 v105 v106
   have e106 : lstX deI v106 = gbC (bxI D B A G F E) (lstX deI J) I K := lst_rowI.trans (H.cr e94)
   refine andI ?_ fun o107 => ?_
   ·exact H.vC e106
   intro v108 v109 v110 v111 v112 v113 v114
   have e114 : lstX deI v114 = turL I (bxI D B A G F E) (lstX deI J) := lst_rowI
   refine andI ?_ fun o115 => ?_
   ·exact H.vT e114
   intro v116 v117 v118 v119 v120 v121 v122
   have e122 : lstX deI v122 = newL (bxI D B A G F E) K := lst_rowI
   intro v123
   refine andI ?_ fun o124 => ?_
   ·exact ⟨H.vb e122, H.vC e106, H.nT, H.np⟩
   intro v125
   have e125 : lstX deC v125 = gbM (bxI D B A G F E) (lstX deI J) I K := lst_rowC.trans (H.cp2 e122 e106)
   refine andI ?_ fun o126 => ?_
   ·exact ⟨H.vb e122, fun j hj => H.chg2 (by have := lx_mem (dec := deC) (l := v125) (k := (j : Int)) (by omega) hj; rwa [e125] at this)⟩
   intro v127
   have e127 : v127.i = cpE (bxI D B A G F E) I := rfl
   intro v128
   have e128 : v128.i = cpE (newB (gbT (bxI D B A G F E) I) 0) (ivB I) := rfl
   intro v129 v130 v131 v132 v133 v134 v135
   have e135 : lstX deI v135 = lstX deI v106 := lst_rowI
   intro v136 v137 v138 v139 v140 v141 v142
   have e142 : lstX deI v142 = lstX deI v114 := lst_rowI
   intro v143
   have e143 : v143.b = eqG (ppB (newB (gbT (bxI D B A G F E) I) 0) (lstX deI v106)) (lstX deI v135) (ppB (turB I (bxI D B A G F E)) (lstX deI v114)) (lstX deI v142) := by kernel_rfl
   intro v144 v145 v146 v147 v148 v149 v150
   have e150 : lstX deI v150 = (lstX deI J) := lst_rowI.trans (H.wr2 e122 e125)
   intro v151
   have e151 : v151.b = eqG (newB (bxI D B A G F E) K) (lstX deI v150) (bxI D B A G F E) (lstX deI J) := by kernel_rfl
   exact ⟨⟨⟨e127.trans H.e1, e128.trans H.e2⟩, e143.trans (H.pat e106 e135 e114 e142)⟩, e151.trans (eqG_of H.ib e150)⟩
  intro v152
  have e152 : lstX deC v152 = gbL (bxI D B A G F E) (lstX deI J) I K := lst_rowC.trans (H.cp e18)
  refine andI ?_ fun o153 => ?_
  ·exact ⟨H.vG e18, fun j hj => H.chg (by have := lx_mem (dec := deC) (l := v152) (k := (j : Int)) (by omega) hj; rwa [e152] at this)⟩
  intro v154 v155 v156 v157 v158 v159 v160
  have e160 : lstX deI v160 = gbW (bxI D B A G F E) (lstX deI J) I K := lst_rowI.trans (H.wr e18 e152)
  intro v161 v162 v163
  refine andI ?_ fun o164 => ?_
  ·exact H.vW e160
  refine andI ?_ fun o165 => ?_
  ·exact gv
  intro v166 v167 v168 v169 v170 v171 v172
  have e172 : lstX deI v172 = gbC (bxI D B A G F E) (lstX deI J) I K := lst_rowI.trans (H.cr e160)
  refine andI ?_ fun o173 => ?_
  ·exact H.vC e172
  intro v174 v175 v176 v177 v178 v179 v180
  have e180 : lstX deI v180 = turL I (bxI D B A G F E) (lstX deI J) := lst_rowI
  refine andI ?_ fun o181 => ?_
  ·exact H.vT e180
  intro v182 v183 v184 v185 v186 v187 v188
  have e188 : lstX deI v188 = newL (bxI D B A G F E) K := lst_rowI
  intro v189
  refine andI ?_ fun o190 => ?_
  ·exact ⟨H.vb e188, H.vC e172, H.nT, H.np⟩
  intro v191
  have e191 : lstX deC v191 = gbM (bxI D B A G F E) (lstX deI J) I K := lst_rowC.trans (H.cp2 e188 e172)
  refine andI ?_ fun o192 => ?_
  ·exact ⟨H.vb e188, fun j hj => H.chg2 (by have := lx_mem (dec := deC) (l := v191) (k := (j : Int)) (by omega) hj; rwa [e191] at this)⟩
  intro v193
  have e193 : v193.i = cpE (bxI D B A G F E) I := rfl
  intro v194
  have e194 : v194.i = cpE (newB (gbT (bxI D B A G F E) I) 0) (ivB I) := rfl
  intro v195 v196 v197 v198 v199 v200 v201
  have e201 : lstX deI v201 = lstX deI v172 := lst_rowI
  intro v202 v203 v204 v205 v206 v207 v208
  have e208 : lstX deI v208 = lstX deI v180 := lst_rowI
  intro v209
  have e209 : v209.b = eqG (ppB (newB (gbT (bxI D B A G F E) I) 0) (lstX deI v172)) (lstX deI v201) (ppB (turB I (bxI D B A G F E)) (lstX deI v180)) (lstX deI v208) := by kernel_rfl
  intro v210 v211 v212 v213 v214 v215 v216
  have e216 : lstX deI v216 = (lstX deI J) := lst_rowI.trans (H.wr2 e188 e191)
  intro v217
  have e217 : v217.b = eqG (newB (bxI D B A G F E) K) (lstX deI v216) (bxI D B A G F E) (lstX deI J) := by kernel_rfl
  exact ⟨⟨⟨e193.trans H.e1, e194.trans H.e2⟩, e209.trans (H.pat e172 e201 e180 e208)⟩, e217.trans (eqG_of H.ib e216)⟩
 intro v218 v219 v220 v221 v222 v223 v224 v225 v226 v227 v228 v229 v230
 have e230 : lstX deI v230 = gbG (bxI D B A G F E) I K := lst_rowI
 refine andI ?_ fun o231 => ?_
 ·exact ⟨H.vG e230, gv, nB_mono hS (by decide), hP⟩
 refine And.intro ?_ ?_
 ·intro v233
  have e233 : lstX deC v233 = gbL (bxI D B A G F E) (lstX deI J) I K := lst_rowC.trans (H.cp e230)
  refine andI ?_ fun o234 => ?_
  ·exact ⟨H.vG e230, fun j hj => H.chg (by have := lx_mem (dec := deC) (l := v233) (k := (j : Int)) (by omega) hj; rwa [e233] at this)⟩
  refine And.intro ?_ ?_
  ·intro v236 v237 v238 v239 v240 v241 v242
   have e242 : lstX deI v242 = gbW (bxI D B A G F E) (lstX deI J) I K := lst_rowI.trans (H.wr e230 e233)
   intro v243 v244 v245
   refine andI ?_ fun o246 => ?_
   ·exact H.vW e242
   refine andI ?_ fun o247 => ?_
   ·exact gv
   intro v248 v249 v250 v251 v252 v253 v254
   have e254 : lstX deI v254 = gbC (bxI D B A G F E) (lstX deI J) I K := lst_rowI.trans (H.cr e242)
   refine andI ?_ fun o255 => ?_
   ·exact H.vC e254
   intro v256 v257 v258 v259 v260 v261 v262
   have e262 : lstX deI v262 = turL I (bxI D B A G F E) (lstX deI J) := lst_rowI
   refine andI ?_ fun o263 => ?_
   ·exact H.vT e262
   intro v264 v265 v266 v267 v268 v269 v270
   have e270 : lstX deI v270 = newL (bxI D B A G F E) K := lst_rowI
   intro v271
   refine andI ?_ fun o272 => ?_
   ·exact ⟨H.vb e270, H.vC e254, H.nT, H.np⟩
   intro v273
   have e273 : lstX deC v273 = gbM (bxI D B A G F E) (lstX deI J) I K := lst_rowC.trans (H.cp2 e270 e254)
   refine andI ?_ fun o274 => ?_
   ·exact ⟨H.vb e270, fun j hj => H.chg2 (by have := lx_mem (dec := deC) (l := v273) (k := (j : Int)) (by omega) hj; rwa [e273] at this)⟩
   intro v275
   have e275 : v275.i = cpE (bxI D B A G F E) I := rfl
   intro v276
   have e276 : v276.i = cpE (newB (gbT (bxI D B A G F E) I) 0) (ivB I) := rfl
   intro v277 v278 v279 v280 v281 v282 v283
   have e283 : lstX deI v283 = lstX deI v254 := lst_rowI
   intro v284 v285 v286 v287 v288 v289 v290
   have e290 : lstX deI v290 = lstX deI v262 := lst_rowI
   intro v291
   have e291 : v291.b = eqG (ppB (newB (gbT (bxI D B A G F E) I) 0) (lstX deI v254)) (lstX deI v283) (ppB (turB I (bxI D B A G F E)) (lstX deI v262)) (lstX deI v290) := by kernel_rfl
   intro v292 v293 v294 v295 v296 v297 v298
   have e298 : lstX deI v298 = (lstX deI J) := lst_rowI.trans (H.wr2 e270 e273)
   intro v299
   have e299 : v299.b = eqG (newB (bxI D B A G F E) K) (lstX deI v298) (bxI D B A G F E) (lstX deI J) := by kernel_rfl
   exact ⟨⟨⟨e275.trans H.e1, e276.trans H.e2⟩, e291.trans (H.pat e254 e283 e262 e290)⟩, e299.trans (eqG_of H.ib e298)⟩
  intro v300 v301 v302 v303 v304 v305 v306
  have e306 : lstX deI v306 = gbW (bxI D B A G F E) (lstX deI J) I K := lst_rowI.trans (H.wr e230 e233)
  intro v307 v308 v309
  refine andI ?_ fun o310 => ?_
  ·exact H.vW e306
  refine andI ?_ fun o311 => ?_
  ·exact gv
  intro v312 v313 v314 v315 v316 v317 v318
  have e318 : lstX deI v318 = gbC (bxI D B A G F E) (lstX deI J) I K := lst_rowI.trans (H.cr e306)
  refine andI ?_ fun o319 => ?_
  ·exact H.vC e318
  intro v320 v321 v322 v323 v324 v325 v326
  have e326 : lstX deI v326 = turL I (bxI D B A G F E) (lstX deI J) := lst_rowI
  refine andI ?_ fun o327 => ?_
  ·exact H.vT e326
  intro v328 v329 v330 v331 v332 v333 v334
  have e334 : lstX deI v334 = newL (bxI D B A G F E) K := lst_rowI
  intro v335
  refine andI ?_ fun o336 => ?_
  ·exact ⟨H.vb e334, H.vC e318, H.nT, H.np⟩
  intro v337
  have e337 : lstX deC v337 = gbM (bxI D B A G F E) (lstX deI J) I K := lst_rowC.trans (H.cp2 e334 e318)
  refine andI ?_ fun o338 => ?_
  ·exact ⟨H.vb e334, fun j hj => H.chg2 (by have := lx_mem (dec := deC) (l := v337) (k := (j : Int)) (by omega) hj; rwa [e337] at this)⟩
  intro v339
  have e339 : v339.i = cpE (bxI D B A G F E) I := rfl
  intro v340
  have e340 : v340.i = cpE (newB (gbT (bxI D B A G F E) I) 0) (ivB I) := rfl
  intro v341 v342 v343 v344 v345 v346 v347
  have e347 : lstX deI v347 = lstX deI v318 := lst_rowI
  intro v348 v349 v350 v351 v352 v353 v354
  have e354 : lstX deI v354 = lstX deI v326 := lst_rowI
  intro v355
  have e355 : v355.b = eqG (ppB (newB (gbT (bxI D B A G F E) I) 0) (lstX deI v318)) (lstX deI v347) (ppB (turB I (bxI D B A G F E)) (lstX deI v326)) (lstX deI v354) := by kernel_rfl
  intro v356 v357 v358 v359 v360 v361 v362
  have e362 : lstX deI v362 = (lstX deI J) := lst_rowI.trans (H.wr2 e334 e337)
  intro v363
  have e363 : v363.b = eqG (newB (bxI D B A G F E) K) (lstX deI v362) (bxI D B A G F E) (lstX deI J) := by kernel_rfl
  exact ⟨⟨⟨e339.trans H.e1, e340.trans H.e2⟩, e355.trans (H.pat e318 e347 e326 e354)⟩, e363.trans (eqG_of H.ib e362)⟩
 intro v364
 have e364 : lstX deC v364 = gbL (bxI D B A G F E) (lstX deI J) I K := lst_rowC.trans (H.cp e230)
 refine andI ?_ fun o365 => ?_
 ·exact ⟨H.vG e230, fun j hj => H.chg (by have := lx_mem (dec := deC) (l := v364) (k := (j : Int)) (by omega) hj; rwa [e364] at this)⟩
 intro v366 v367 v368 v369 v370 v371 v372
 have e372 : lstX deI v372 = gbW (bxI D B A G F E) (lstX deI J) I K := lst_rowI.trans (H.wr e230 e364)
 intro v373 v374 v375
 refine andI ?_ fun o376 => ?_
 ·exact H.vW e372
 refine andI ?_ fun o377 => ?_
 ·exact gv
 intro v378 v379 v380 v381 v382 v383 v384
 have e384 : lstX deI v384 = gbC (bxI D B A G F E) (lstX deI J) I K := lst_rowI.trans (H.cr e372)
 refine andI ?_ fun o385 => ?_
 ·exact H.vC e384
 intro v386 v387 v388 v389 v390 v391 v392
 have e392 : lstX deI v392 = turL I (bxI D B A G F E) (lstX deI J) := lst_rowI
 refine andI ?_ fun o393 => ?_
 ·exact H.vT e392
 intro v394 v395 v396 v397 v398 v399 v400
 have e400 : lstX deI v400 = newL (bxI D B A G F E) K := lst_rowI
 intro v401
 refine andI ?_ fun o402 => ?_
 ·exact ⟨H.vb e400, H.vC e384, H.nT, H.np⟩
 intro v403
 have e403 : lstX deC v403 = gbM (bxI D B A G F E) (lstX deI J) I K := lst_rowC.trans (H.cp2 e400 e384)
 refine andI ?_ fun o404 => ?_
 ·exact ⟨H.vb e400, fun j hj => H.chg2 (by have := lx_mem (dec := deC) (l := v403) (k := (j : Int)) (by omega) hj; rwa [e403] at this)⟩
 intro v405
 have e405 : v405.i = cpE (bxI D B A G F E) I := rfl
 intro v406
 have e406 : v406.i = cpE (newB (gbT (bxI D B A G F E) I) 0) (ivB I) := rfl
 intro v407 v408 v409 v410 v411 v412 v413
 have e413 : lstX deI v413 = lstX deI v384 := lst_rowI
 intro v414 v415 v416 v417 v418 v419 v420
 have e420 : lstX deI v420 = lstX deI v392 := lst_rowI
 intro v421
 have e421 : v421.b = eqG (ppB (newB (gbT (bxI D B A G F E) I) 0) (lstX deI v384)) (lstX deI v413) (ppB (turB I (bxI D B A G F E)) (lstX deI v392)) (lstX deI v420) := by kernel_rfl
 intro v422 v423 v424 v425 v426 v427 v428
 have e428 : lstX deI v428 = (lstX deI J) := lst_rowI.trans (H.wr2 e400 e403)
 intro v429
 have e429 : v429.b = eqG (newB (bxI D B A G F E) K) (lstX deI v428) (bxI D B A G F E) (lstX deI J) := by kernel_rfl
 exact ⟨⟨⟨e405.trans H.e1, e406.trans H.e2⟩, e421.trans (H.pat e384 e413 e392 e420)⟩, e429.trans (eqG_of H.ib e428)⟩
theorem shape_flat : flatR sh = [.int .i64 (-9223372036854775808) 9223372036854775807, .int .i64 (-9223372036854775808) 9223372036854775807, .int .i64 (-9223372036854775808) 9223372036854775807, .int .i64 (-9223372036854775808) 9223372036854775807, .int .i64 (-9223372036854775808) 9223372036854775807, .int .i64 (-9223372036854775808) 9223372036854775807, .row [.int .i64 (-9223372036854775808) (9223372036854775807)] 9223372036854775807, .int .i64 (-9223372036854775808) 9223372036854775807, .int .i64 (-9223372036854775808) 9223372036854775807] := by kernel_rfl
theorem lawful (ds : Ds) (hr : rshX sh ds) : (walkR Tryz.prog (cfO (some Ff) L20zc R20zc [] sumC) Tryz.f5 1000 sh).law { ρ0 with x := fun j => ds.getD j (xI 0) } := by
 have hr := rshX_flat hr
 rw [shape_flat] at hr
 match ds, hr with
 | [d0, d1, d2, d3, d4, d5, d6, d7, d8], hr =>
  obtain ⟨⟨e0, l0, u0⟩, ⟨e1, l1, u1⟩, ⟨e2, l2, u2⟩, ⟨e3, l3, u3⟩, ⟨e4, l4, u4⟩, ⟨e5, l5, u5⟩, l6, ⟨e7, l7, u7⟩, ⟨e8, l8, u8⟩, _⟩ := hr
  generalize d0.i = D, d1.i = B, d2.i = A, d3.i = G, d4.i = F, d5.i = E, d6 = J, d7.i = I, d8.i = K at *
  subst e0 e1 e2 e3 e4 e5 e7 e8
  exact Eq.mpr (link D B A G F E J I K) (lawP_ok D B A G F E J I K ⟨l0, u0⟩ ⟨l1, u1⟩ ⟨l2, u2⟩ ⟨l3, u3⟩ ⟨l4, u4⟩ ⟨l5, u5⟩ l6 ⟨l7, u7⟩ ⟨l8, u8⟩)
theorem shape {H : Type} {ds : List (DataW H)} (h : ds.length = 3) : Rows.stencilGoesBackSpec.fn H ds = { results := [.lit (.bool true)], args := ds } := by
 match ds, h with
 | [d1, d2, d3], _ => rfl
set_option maxRecDepth 100000 in
theorem calls {H : Type} {enc : TypeId × Value → H} (W : World) (base : Nat) (args : Array Value) (ds : List (DataW H)) (p : List MemPlace) (hval : ∀ (j : Nat) t v, Tryz.f5.params[j]? = some t → args[j]? = some v → Value.okWide Tryz.prog W .any base t v)
 (hA : DataW.TrodAll enc Tryz.prog W 0 (fun _ => true) true Tryz.f5.params.toList args.toList ds p) (hg : GlobOk ρ0.g W.heap.size W) : Calls Tryz.prog 5 args W fun e w' => e = .returned (.bool true) ∧ Below W.heap.size W w' := by
 rw [Tryz.params5] at hA hval
 have hs : shTs Tryz.prog [28, 3, 3] = some sh := by
  have : (shTs Tryz.prog [28, 3, 3]).isSome = true := by kernel_rfl
  obtain ⟨s, h⟩ := Option.isSome_iff_exists.1 this
  unfold sh
  rw [h]; rfl
 obtain ⟨ds', hr⟩ := args_rel hA (fun i t v ht hv => hval i t v (by simpa using ht) (by simpa using hv)) hs
 have := law_callsR (L20zc_ok) Tryz.func5 rfl 1000 hg hr lawful
 simpa using this
set_option maxRecDepth 100000 in
theorem lifted (os : Os) (started : os.Started) (H : Type) (enc : TypeId × Value → H) :
 ReturnsInHanded {} Tryz.checked os 5 .any (fun w args => (Rows.stencilGoesBackSpec.pre enc Tryz.prog Tryz.f5 [] false w args ∧ laidMetH Tryz.prog [("voxel/point.axes", Rows.laid_voxel_point_axes)] w) ∧ sizedMet enc Tryz.prog Tryz.f5 (OpenSpec.ofChange Rows.stencilGoesBackSpec) false w args)
  (Rows.stencilGoesBackSpec.post enc Tryz.prog Tryz.f5 false true false false) := by
 refine returnsInHanded_of_change_and (C := Tryz.checked) (X := fun w _ => laidMetH Tryz.prog [("voxel/point.axes", Rows.laid_voxel_point_axes)] w) (fun _ _ _ hh h => h.of_heap hh) own started (by kernel_rfl) Tryz.func5
  (ChangeSpec.witness_shaped (enc := enc) (C := Tryz.checked) (os := os) (X := fun w _ => laidMetH Tryz.prog [("voxel/point.axes", Rows.laid_voxel_point_axes)] w) false (World.doorLaid Tryz.prog 400 os) #[((Tryz.prog.info? 28).bind (·.zero)).getD undef, ((Tryz.prog.info? 3).bind (·.zero)).getD undef, ((Tryz.prog.info? 3).bind (·.zero)).getD undef] 8 rfl (World.shaped_of_RefB (by kernel_rfl) (by kernel_rfl)) (by kernel_rfl) (by kernel_rfl) (by kernel_rfl) (door_met os _)) ?_
 intro W base args ds gs before hval hW _ _ hL _
 have hW0 := hW
 obtain ⟨p, q, hA, hV, _⟩ := hW0
 have hlen : ds.length = 3 := (trodAll_len hA).trans (by kernel_rfl)
 refine (calls W base args ds p hval hA (glob_ok hL)).mono fun e W' ⟨he, hb⟩ => ?_
 subst he
 exact ⟨_, rfl, law_post kids slices (by rw [Tryz.params5]; decide +kernel) rfl rfl Tryz.underlying4 (shape hlen) hW hb⟩
theorem over : Rows.StencilGoesBackSaid :=
 OpenClaim.holds_of_wide 5 Tryz.f5 rfl rfl rfl rfl rfl rfl rfl ⟨rfl, rfl, rfl, rfl, rfl⟩ rfl rfl rfl rfl rfl (by kernel_rfl) Tryz.func5 (by kernel_rfl)
  (of_decide_eq_true (by kernel_rfl)) (by unfold Func.isWrapper; first | (rw [if_pos (by decide +kernel)]; kernel_rfl) | (rw [if_neg (by decide +kernel)]; exact ⟨rfl, rfl⟩))
  (fun os started H enc _ => lifted os started H enc)
theorem proved : Rows.StencilGoesBackCardSaid :=
 Claim7.holds_tied_plain_at .later [] [.data] true (true, "936f70b05c3747b5be2f074d4c150df06903d0dfa610a7c395a2b8dac20d7423") false
  over (fun _ h => by cases h) (by kernel_rfl) (fun _ h => by cases h) stencilGoesBack_row_tie rfl ⟨rfl, rfl⟩ (by kernel_rfl) rfl
  (fun f fn hf hfn => by
    obtain rfl : f = 5 := Option.some.inj ((show Tryz.prog.funcNamed "voxel/voxellaw20.StencilGoesBack" = some 5 by kernel_rfl).symm.trans hf) |>.symm
    obtain rfl : fn = Tryz.f5 := (Option.some.inj (Tryz.func5.symm.trans hfn)).symm
    exact ⟨by kernel_rfl, fun j t ht => by
     rw [Tryz.params5] at ht
     have hm : t ∈ [28, 3, 3] := by simpa using Array.mem_of_getElem? ht
     have hall : ([28, 3, 3].all fun u => !Tryz.prog.wantsStandIn u) = true := by kernel_rfl
     exact (show Tryz.prog.wantsStandIn t = false by simpa using List.all_eq_true.1 hall t hm)⟩)
  (by kernel_rfl)
#print axioms proved
end Go.Proofs.YtaacclebncplbaaGreatDoor.stencilGoesBack
