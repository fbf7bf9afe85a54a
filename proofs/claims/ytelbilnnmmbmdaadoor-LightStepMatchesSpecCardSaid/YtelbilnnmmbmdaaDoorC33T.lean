/- Contracts of functions, each out of one walk. -/
import Derived.Test.YtelbilnnmmbmdaaDoorC33R
import Derived.Test.YtelbilnnmmbmdaaDoorC33O
import Derived.Test.YtelbilnnmmbmdaaDoorC33F
namespace Go.Proofs.YtelbilnnmmbmdaaDoor
namespace Vc
open Go Go.RowKit
set_option linter.unusedVariables false
def CellRP (x0 x1 x2 x3 x4 x5 : Int) (x6 : X) (x7 : X) (x8 : X) (x9 : X) (x10 x11 x12 : Int) : Prop :=
 let A := [xI x0, xI x1, xI x2, xI x3, xI x4, xI x5, x6, x7, x8, x9, xI x10, xI x11, xI x12]; (Px 1232 [xI x0, xI x1, xI x2, xI x3, xI x4, xI x5, x6, x8, xI x10, xI x11, xI x12] ∧
(let v1 := Ff 1213 [xI x0, xI x1, xI x2, xI x3, xI x4, xI x5, x6, x8, xI x10, xI x11, xI x12]; (((¬ (v1.b = true)) →
((rI 0 (Ff 1214 A).i 0 15) ∧ ((rI 0 (Ff 1215 A).i 0 15) ∧ ((rI 0 (Ff 1216 A).i 0 15) ∧ (rI 0 (Ff 1217 A).i 0 15))))) ∧
((v1.b = true) →
(Px 710 [xI x0, xI x1, xI x2, xI x3, xI x4, xI x5, x6, xI x10, xI x11, xI x12] ∧
(let v6 := Ff 838 [xI x0, xI x1, xI x2, xI x3, xI x4, xI x5, x6, xI x10, xI x11, xI x12]; (Px 1234 [x7, xI v6.i] ∧
(Px 1234 [x7, xI v6.i] ∧
(let v9 := Ff 1218 [x7, xI v6.i]; let v10 := Ff 1219 [x7, xI v6.i]; let v11 := Ff 1220 [x7, xI v6.i]; (Px 1244 (A ++ [xI 0, xI v9.i, xI v10.i, xI v11.i, xI 0]) ∧
(∀ x30 : X, (∀ x31 : X, (∀ x32 : X, (∀ x33 : X, (∀ x34 : X, (((0 ≤ x30.i) ∧ (x30.i ≤ 6)) →
(((0 ≤ x31.i) ∧ (x31.i ≤ 15)) →
(((0 ≤ x32.i) ∧ (x32.i ≤ 15)) →
(((0 ≤ x33.i) ∧ (x33.i ≤ 15)) →
(((0 ≤ x34.i) ∧ (x34.i ≤ 15)) →
(Px 1244 (A ++ [x30, x31, x32, x33, x34]) →
(((x30.i < 6) →
(((x30.i = 0) →
(Px 1232 [xI x0, xI x1, xI x2, xI x3, xI x4, xI x5, x6, x8, (xI (x10 - 1)), xI x11, xI x12] ∧
(let v24 := Ff 1213 [xI x0, xI x1, xI x2, xI x3, xI x4, xI x5, x6, x8, (xI (x10 - 1)), xI x11, xI x12]; (((v24.b = true) →
(let v27 := Ff 260 [xI x0, xI x1, xI x2, xI x3, xI x4, xI x5, (xI (x10 - 1)), xI x11, xI x12]; ((0 ≤ v27.i) ∧
((v27.i < x9.i) ∧
((0 ≤ v27.i) ∧
((v27.i < x9.i) ∧
((0 ≤ v27.i) ∧
((v27.i < x9.i) ∧
((0 ≤ v27.i) ∧
((v27.i < x9.i) ∧
(let v36 := Ff 1221 [x7, xI v6.i]; (Px 1244 (A ++ [xI 1, (xI (max x31.i ((x9.r v27.i 0).i - v36.i))), (xI (max x32.i ((x9.r v27.i 1).i - v36.i))), (xI (max x33.i ((x9.r v27.i 2).i - v36.i))), (xI (max x34.i ((x9.r v27.i 3).i - v36.i)))]) ∧
(let v38 := Ff 1256 (A ++ [xI 1, (xI (max x31.i ((x9.r v27.i 0).i - v36.i))), (xI (max x32.i ((x9.r v27.i 1).i - v36.i))), (xI (max x33.i ((x9.r v27.i 2).i - v36.i))), (xI (max x34.i ((x9.r v27.i 3).i - v36.i)))]); let v39 := Ff 1256 (A ++ [x30, x31, x32, x33, x34]); ((v38.i < v39.i) ∧
(0 < v39.i))))))))))))))) ∧
((¬ (v24.b = true)) →
(Px 1244 (A ++ [xI 1, xI x31.i, xI x32.i, xI x33.i, xI x34.i]) ∧
(let v43 := Ff 1256 (A ++ [xI 1, xI x31.i, xI x32.i, xI x33.i, xI x34.i]); let v44 := Ff 1256 (A ++ [x30, x31, x32, x33, x34]); ((v43.i < v44.i) ∧
(0 < v44.i))))))))) ∧
(((x30.i = 1) →
(Px 1232 [xI x0, xI x1, xI x2, xI x3, xI x4, xI x5, x6, x8, (xI (x10 + 1)), xI x11, xI x12] ∧
(let v49 := Ff 1213 [xI x0, xI x1, xI x2, xI x3, xI x4, xI x5, x6, x8, (xI (x10 + 1)), xI x11, xI x12]; (((v49.b = true) →
(let v52 := Ff 260 [xI x0, xI x1, xI x2, xI x3, xI x4, xI x5, (xI (x10 + 1)), xI x11, xI x12]; ((0 ≤ v52.i) ∧
((v52.i < x9.i) ∧
((0 ≤ v52.i) ∧
((v52.i < x9.i) ∧
((0 ≤ v52.i) ∧
((v52.i < x9.i) ∧
((0 ≤ v52.i) ∧
((v52.i < x9.i) ∧
(let v61 := Ff 1221 [x7, xI v6.i]; (Px 1244 (A ++ [xI 2, (xI (max x31.i ((x9.r v52.i 0).i - v61.i))), (xI (max x32.i ((x9.r v52.i 1).i - v61.i))), (xI (max x33.i ((x9.r v52.i 2).i - v61.i))), (xI (max x34.i ((x9.r v52.i 3).i - v61.i)))]) ∧
(let v63 := Ff 1256 (A ++ [xI 2, (xI (max x31.i ((x9.r v52.i 0).i - v61.i))), (xI (max x32.i ((x9.r v52.i 1).i - v61.i))), (xI (max x33.i ((x9.r v52.i 2).i - v61.i))), (xI (max x34.i ((x9.r v52.i 3).i - v61.i)))]); let v64 := Ff 1256 (A ++ [x30, x31, x32, x33, x34]); ((v63.i < v64.i) ∧
(0 < v64.i))))))))))))))) ∧
((¬ (v49.b = true)) →
(Px 1244 (A ++ [xI 2, xI x31.i, xI x32.i, xI x33.i, xI x34.i]) ∧
(let v68 := Ff 1256 (A ++ [xI 2, xI x31.i, xI x32.i, xI x33.i, xI x34.i]); let v69 := Ff 1256 (A ++ [x30, x31, x32, x33, x34]); ((v68.i < v69.i) ∧
(0 < v69.i))))))))) ∧
(((x30.i = 2) →
(Px 1232 [xI x0, xI x1, xI x2, xI x3, xI x4, xI x5, x6, x8, xI x10, (xI (x11 - 1)), xI x12] ∧
(let v74 := Ff 1213 [xI x0, xI x1, xI x2, xI x3, xI x4, xI x5, x6, x8, xI x10, (xI (x11 - 1)), xI x12]; (((v74.b = true) →
(let v77 := Ff 260 [xI x0, xI x1, xI x2, xI x3, xI x4, xI x5, xI x10, (xI (x11 - 1)), xI x12]; ((0 ≤ v77.i) ∧
((v77.i < x9.i) ∧
((0 ≤ v77.i) ∧
((v77.i < x9.i) ∧
((0 ≤ v77.i) ∧
((v77.i < x9.i) ∧
((0 ≤ v77.i) ∧
((v77.i < x9.i) ∧
(let v86 := Ff 1221 [x7, xI v6.i]; (Px 1244 (A ++ [xI 3, (xI (max x31.i ((x9.r v77.i 0).i - v86.i))), (xI (max x32.i ((x9.r v77.i 1).i - v86.i))), (xI (max x33.i ((x9.r v77.i 2).i - v86.i))), (xI (max x34.i ((x9.r v77.i 3).i - v86.i)))]) ∧
(let v88 := Ff 1256 (A ++ [xI 3, (xI (max x31.i ((x9.r v77.i 0).i - v86.i))), (xI (max x32.i ((x9.r v77.i 1).i - v86.i))), (xI (max x33.i ((x9.r v77.i 2).i - v86.i))), (xI (max x34.i ((x9.r v77.i 3).i - v86.i)))]); let v89 := Ff 1256 (A ++ [x30, x31, x32, x33, x34]); ((v88.i < v89.i) ∧
(0 < v89.i))))))))))))))) ∧
((¬ (v74.b = true)) →
(Px 1244 (A ++ [xI 3, xI x31.i, xI x32.i, xI x33.i, xI x34.i]) ∧
(let v93 := Ff 1256 (A ++ [xI 3, xI x31.i, xI x32.i, xI x33.i, xI x34.i]); let v94 := Ff 1256 (A ++ [x30, x31, x32, x33, x34]); ((v93.i < v94.i) ∧
(0 < v94.i))))))))) ∧
(((x30.i = 3) →
(Px 1232 [xI x0, xI x1, xI x2, xI x3, xI x4, xI x5, x6, x8, xI x10, (xI (x11 + 1)), xI x12] ∧
(let v99 := Ff 1213 [xI x0, xI x1, xI x2, xI x3, xI x4, xI x5, x6, x8, xI x10, (xI (x11 + 1)), xI x12]; (((v99.b = true) →
(let v102 := Ff 260 [xI x0, xI x1, xI x2, xI x3, xI x4, xI x5, xI x10, (xI (x11 + 1)), xI x12]; ((0 ≤ v102.i) ∧
((v102.i < x9.i) ∧
((0 ≤ v102.i) ∧
((v102.i < x9.i) ∧
((0 ≤ v102.i) ∧
((v102.i < x9.i) ∧
((0 ≤ v102.i) ∧
((v102.i < x9.i) ∧
(let v111 := Ff 1221 [x7, xI v6.i]; (Px 1244 (A ++ [xI 4, (xI (max x31.i ((x9.r v102.i 0).i - v111.i))), (xI (max x32.i ((x9.r v102.i 1).i - v111.i))), (xI (max x33.i ((x9.r v102.i 2).i - v111.i))), (xI (max x34.i ((x9.r v102.i 3).i - v111.i)))]) ∧
(let v113 := Ff 1256 (A ++ [xI 4, (xI (max x31.i ((x9.r v102.i 0).i - v111.i))), (xI (max x32.i ((x9.r v102.i 1).i - v111.i))), (xI (max x33.i ((x9.r v102.i 2).i - v111.i))), (xI (max x34.i ((x9.r v102.i 3).i - v111.i)))]); let v114 := Ff 1256 (A ++ [x30, x31, x32, x33, x34]); ((v113.i < v114.i) ∧
(0 < v114.i))))))))))))))) ∧
((¬ (v99.b = true)) →
(Px 1244 (A ++ [xI 4, xI x31.i, xI x32.i, xI x33.i, xI x34.i]) ∧
(let v118 := Ff 1256 (A ++ [xI 4, xI x31.i, xI x32.i, xI x33.i, xI x34.i]); let v119 := Ff 1256 (A ++ [x30, x31, x32, x33, x34]); ((v118.i < v119.i) ∧
(0 < v119.i))))))))) ∧
(((x30.i = 4) →
(Px 1232 [xI x0, xI x1, xI x2, xI x3, xI x4, xI x5, x6, x8, xI x10, xI x11, (xI (x12 - 1))] ∧
(let v124 := Ff 1213 [xI x0, xI x1, xI x2, xI x3, xI x4, xI x5, x6, x8, xI x10, xI x11, (xI (x12 - 1))]; (((v124.b = true) →
(let v127 := Ff 260 [xI x0, xI x1, xI x2, xI x3, xI x4, xI x5, xI x10, xI x11, (xI (x12 - 1))]; ((0 ≤ v127.i) ∧
((v127.i < x9.i) ∧
((0 ≤ v127.i) ∧
((v127.i < x9.i) ∧
((0 ≤ v127.i) ∧
((v127.i < x9.i) ∧
((0 ≤ v127.i) ∧
((v127.i < x9.i) ∧
(let v136 := Ff 1221 [x7, xI v6.i]; (Px 1244 (A ++ [xI 5, (xI (max x31.i ((x9.r v127.i 0).i - v136.i))), (xI (max x32.i ((x9.r v127.i 1).i - v136.i))), (xI (max x33.i ((x9.r v127.i 2).i - v136.i))), (xI (max x34.i ((x9.r v127.i 3).i - v136.i)))]) ∧
(let v138 := Ff 1256 (A ++ [xI 5, (xI (max x31.i ((x9.r v127.i 0).i - v136.i))), (xI (max x32.i ((x9.r v127.i 1).i - v136.i))), (xI (max x33.i ((x9.r v127.i 2).i - v136.i))), (xI (max x34.i ((x9.r v127.i 3).i - v136.i)))]); let v139 := Ff 1256 (A ++ [x30, x31, x32, x33, x34]); ((v138.i < v139.i) ∧
(0 < v139.i))))))))))))))) ∧
((¬ (v124.b = true)) →
(Px 1244 (A ++ [xI 5, xI x31.i, xI x32.i, xI x33.i, xI x34.i]) ∧
(let v143 := Ff 1256 (A ++ [xI 5, xI x31.i, xI x32.i, xI x33.i, xI x34.i]); let v144 := Ff 1256 (A ++ [x30, x31, x32, x33, x34]); ((v143.i < v144.i) ∧
(0 < v144.i))))))))) ∧
(((x30.i = 5) →
(Px 1232 [xI x0, xI x1, xI x2, xI x3, xI x4, xI x5, x6, x8, xI x10, xI x11, (xI (x12 + 1))] ∧
(let v149 := Ff 1213 [xI x0, xI x1, xI x2, xI x3, xI x4, xI x5, x6, x8, xI x10, xI x11, (xI (x12 + 1))]; (((v149.b = true) →
(let v152 := Ff 260 [xI x0, xI x1, xI x2, xI x3, xI x4, xI x5, xI x10, xI x11, (xI (x12 + 1))]; ((0 ≤ v152.i) ∧
((v152.i < x9.i) ∧
((0 ≤ v152.i) ∧
((v152.i < x9.i) ∧
((0 ≤ v152.i) ∧
((v152.i < x9.i) ∧
((0 ≤ v152.i) ∧
((v152.i < x9.i) ∧
(let v161 := Ff 1221 [x7, xI v6.i]; (Px 1244 (A ++ [xI 6, (xI (max x31.i ((x9.r v152.i 0).i - v161.i))), (xI (max x32.i ((x9.r v152.i 1).i - v161.i))), (xI (max x33.i ((x9.r v152.i 2).i - v161.i))), (xI (max x34.i ((x9.r v152.i 3).i - v161.i)))]) ∧
(let v163 := Ff 1256 (A ++ [xI 6, (xI (max x31.i ((x9.r v152.i 0).i - v161.i))), (xI (max x32.i ((x9.r v152.i 1).i - v161.i))), (xI (max x33.i ((x9.r v152.i 2).i - v161.i))), (xI (max x34.i ((x9.r v152.i 3).i - v161.i)))]); let v164 := Ff 1256 (A ++ [x30, x31, x32, x33, x34]); ((v163.i < v164.i) ∧
(0 < v164.i))))))))))))))) ∧
((¬ (v149.b = true)) →
(Px 1244 (A ++ [xI 6, xI x31.i, xI x32.i, xI x33.i, xI x34.i]) ∧
(let v168 := Ff 1256 (A ++ [xI 6, xI x31.i, xI x32.i, xI x33.i, xI x34.i]); let v169 := Ff 1256 (A ++ [x30, x31, x32, x33, x34]); ((v168.i < v169.i) ∧
(0 < v169.i))))))))) ∧
 True))))))) ∧
((¬ (x30.i < 6)) →
(Px 1232 [xI x0, xI x1, xI x2, xI x3, xI x4, xI x5, x6, x8, xI x10, xI x11, (xI (x12 + 1))] ∧
(let v173 := Ff 1213 [xI x0, xI x1, xI x2, xI x3, xI x4, xI x5, x6, x8, xI x10, xI x11, (xI (x12 + 1))]; (((v173.b = true) →
(let v176 := Ff 260 [xI x0, xI x1, xI x2, xI x3, xI x4, xI x5, xI x10, xI x11, (xI (x12 + 1))]; ((0 ≤ v176.i) ∧
((v176.i < x9.i) ∧
(let v179 := Ff 1221 [x7, xI v6.i]; (((((bif (decide (x5 ≤ (x12 + 1))) then 15 else (x9.r v176.i 3).i) = 15) ∧ (v179.i = 1)) →
((rI x31.i (Ff 1214 A).i 0 15) ∧ ((rI x32.i (Ff 1215 A).i 0 15) ∧ ((rI x33.i (Ff 1216 A).i 0 15) ∧ (rI 15 (Ff 1217 A).i 0 15))))) ∧
((¬ (((bif (decide (x5 ≤ (x12 + 1))) then 15 else (x9.r v176.i 3).i) = 15) ∧ (v179.i = 1))) →
((rI x31.i (Ff 1214 A).i 0 15) ∧ ((rI x32.i (Ff 1215 A).i 0 15) ∧ ((rI x33.i (Ff 1216 A).i 0 15) ∧ (rI (max x34.i ((bif (decide (x5 ≤ (x12 + 1))) then 15 else (x9.r v176.i 3).i) - v179.i)) (Ff 1217 A).i 0 15))))))))))) ∧
((¬ (v173.b = true)) →
(let v184 := Ff 1221 [x7, xI v6.i]; (((((bif (decide (x5 ≤ (x12 + 1))) then (15 : Int) else 0) = 15) ∧ (v184.i = 1)) →
((rI x31.i (Ff 1214 A).i 0 15) ∧ ((rI x32.i (Ff 1215 A).i 0 15) ∧ ((rI x33.i (Ff 1216 A).i 0 15) ∧ (rI 15 (Ff 1217 A).i 0 15))))) ∧
((¬ (((bif (decide (x5 ≤ (x12 + 1))) then (15 : Int) else 0) = 15) ∧ (v184.i = 1))) →
((rI x31.i (Ff 1214 A).i 0 15) ∧ ((rI x32.i (Ff 1215 A).i 0 15) ∧ ((rI x33.i (Ff 1216 A).i 0 15) ∧ (rI (max x34.i ((bif (decide (x5 ≤ (x12 + 1))) then (15 : Int) else 0) - v184.i)) (Ff 1217 A).i 0 15))))))))))))))))))))))))))))))))))
theorem CellRL (x0 x1 x2 x3 x4 x5 : Int) (x6 : X) (x7 : X) (x8 : X) (x9 : X) (x10 x11 x12 : Int) : (ctrR (fun j => Ff j [xI x0, xI x1, xI x2, xI x3, xI x4, xI x5, x6, x7, x8, x9, xI x10, xI x11, xI x12]) cCellR.fs cCellR.res { ρ0 with x := fun j => [xI x0, xI x1, xI x2, xI x3, xI x4, xI x5, x6, x7, x8, x9, xI x10, xI x11, xI x12].getD j (xI 0) } (walkR Tryd.prog (cfG none [cInR, cIndexR] [cKnR, cGetR, cFadR, cEmtR] lpCell []) Tryd.f46 500 shCl)) = CellRP x0 x1 x2 x3 x4 x5 x6 x7 x8 x9 x10 x11 x12 := by kernel_rfl
set_option maxHeartbeats 4000000 in
theorem CellRO (x0 x1 x2 x3 x4 x5 : Int) (x6 : X) (x7 : X) (x8 : X) (x9 : X) (x10 x11 x12 : Int) (g0 : -1048575 ≤ x0 ∧ x0 ≤ 1048575) (g1 : -1048575 ≤ x1 ∧ x1 ≤ 1048575) (g2 : -1048575 ≤ x2 ∧ x2 ≤ 1048575) (g3 : -1048575 ≤ x3 ∧ x3 ≤ 1048575) (g4 : -1048575 ≤ x4 ∧ x4 ≤ 1048575) (g5 : -1048575 ≤ x5 ∧ x5 ≤ 1048575) (g6 : 0 ≤ x6.i ∧ x6.i ≤ 2097152 ∧ RowOk SMat x6.r x6.i.toNat) (g7 : 0 ≤ x7.i ∧ x7.i ≤ 9223372036854775807 ∧ RowOk SMt x7.r x7.i.toNat) (g8 : 0 ≤ x8.i ∧ x8.i ≤ 9223372036854775807 ∧ RowOk [.bool] x8.r x8.i.toNat) (g9 : 0 ≤ x9.i ∧ x9.i ≤ 9223372036854775807 ∧ RowOk SLv x9.r x9.i.toNat) (g10 : -1048575 ≤ x10 ∧ x10 ≤ 1048575) (g11 : -1048575 ≤ x11 ∧ x11 ≤ 1048575) (g12 : -1048575 ≤ x12 ∧ x12 ≤ 1048575) (gp : Px cCellR.pre.get! [xI x0, xI x1, xI x2, xI x3, xI x4, xI x5, x6, x7, x8, x9, xI x10, xI x11, xI x12]) : CellRP x0 x1 x2 x3 x4 x5 x6 x7 x8 x9 x10 x11 x12 := by
 unfold CellRP
 intro A
 obtain ⟨ok, go⟩ : okC (grX (xI x0) (xI x1) (xI x2) (xI x3) (xI x4) (xI x5) x6) x7 x8 = true ∧ x9.i = x6.i := gp
 obtain ⟨gv, ht, hk0⟩ := okC_iff.1 ok
 obtain ⟨k0, k1, k2, k3, k4⟩ := (v700 g6.1).1 gv
 have el : ((lstX deI x6).length : Int) = x6.i := by rw [lstX_len]; omega
 have hkk : x8.i = 0 ∨ x8.i = x6.i := by rw [← el]; exact hk0
 have hv : (bxI x0 x1 x2 x3 x4 x5).vol = (lstX deI x6).length := by rw [el]; exact k3
 refine andI ?_ fun o0 => ?_
 ·exact ⟨gv, hkk⟩
 intro v1
 refine And.intro ?_ ?_
 ·intro h3
  have hn : ¬ ((bxI x0 x1 x2 x3 x4 x5).has (x10, x11, x12) && knwX x8 ((bxI x0 x1 x2 x3 x4 x5).idx (x10, x11, x12))) = true := h3
  have e : ∀ c : Int, (if (bxI x0 x1 x2 x3 x4 x5).has (x10, x11, x12) then stpF (bxI x0 x1 x2 x3 x4 x5) (lstX deI x6) x7 x8 (lvX x9) ((bxI x0 x1 x2 x3 x4 x5).idx (x10, x11, x12)) c else 0) = 0 := fun c => by
   rw [Bool.and_eq_true] at hn
   by_cases hh : (bxI x0 x1 x2 x3 x4 x5).has (x10, x11, x12) = true
   ·rw [if_pos hh]
    exact stp_off fun hq => hn ⟨hh, hq⟩
   ·exact if_neg hh
  exact ⟨rngI (e 0) (by decide), rngI (e 1) (by decide), rngI (e 2) (by decide), rngI (e 3) (by decide)⟩
 intro h4
 have hb : ((bxI x0 x1 x2 x3 x4 x5).has (x10, x11, x12) && knwX x8 ((bxI x0 x1 x2 x3 x4 x5).idx (x10, x11, x12))) = true := h4
 rw [Bool.and_eq_true] at hb
 obtain ⟨hh, hkn⟩ := hb
 have hi := idx_ok hh
 have hat := at_idx hh
 obtain ⟨I, eI⟩ : ∃ I, I = (bxI x0 x1 x2 x3 x4 x5).idx (x10, x11, x12) := ⟨_, rfl⟩
 rw [← eI] at hi hat hkn
 have hif : ∀ c : Int, (if (bxI x0 x1 x2 x3 x4 x5).has (x10, x11, x12) then stpF (bxI x0 x1 x2 x3 x4 x5) (lstX deI x6) x7 x8 (lvX x9) ((bxI x0 x1 x2 x3 x4 x5).idx (x10, x11, x12)) c else 0) = stpF (bxI x0 x1 x2 x3 x4 x5) (lstX deI x6) x7 x8 (lvX x9) I c := fun c => by rw [if_pos hh, eI]
 refine andI ?_ fun o5 => ?_
 ·exact gv
 intro v6
 have e6 : v6.i = (lstX deI x6).getD I.toNat 0 := by
  show getL (bxI x0 x1 x2 x3 x4 x5) (lstX deI x6) (x10, x11, x12) = _
  unfold getL
  rw [← eI, if_pos hi.1]
 have hL : ∀ j : Int, 0 ≤ j → j < (lstX deI x6).length → ∀ c : Int, 0 ≤ c → c < 4 → lvX x9 j c ≤ 15 := fun j a d c e f => (row4 g9.2.2 a (by omega) e f).2
 refine andI ?_ fun o7 => ?_
 ·exact ht
 refine andI ?_ fun o8 => ?_
 ·exact ht
 intro v9 v10 v11
 refine andI ?_ fun o12 => ?_
 ·have er : ∀ c : Int, 0 ≤ c → c < 3 → emtX x7 v6.i c = max 0 (emtX x7 ((lstX deI x6).getD I.toNat 0) c) := fun c h0 h1 => by
   have := emt_rng (t := x7) (n := v6.i) (c := c) ht h0 h1
   rw [← e6]
   omega
  refine ⟨Int.le_refl _, by decide, ?_⟩
  show celQ (bxI x0 x1 x2 x3 x4 x5) (lstX deI x6) x7 x8 x9 ((bxI x0 x1 x2 x3 x4 x5).idx (x10, x11, x12)) 0 (emtX x7 v6.i 0) (emtX x7 v6.i 1) (emtX x7 v6.i 2) 0
  rw [← eI]
  exact ⟨er 0 (by decide) (by decide), er 1 (by decide) (by decide), er 2 (by decide) (by decide), rfl⟩
 intro x30 x31 x32 x33 x34 h13 h14 h15 h16 h17 p18
 obtain ⟨q0, q1, q2⟩ : 0 ≤ x30.i ∧ x30.i ≤ 6 ∧ celQ (bxI x0 x1 x2 x3 x4 x5) (lstX deI x6) x7 x8 x9 ((bxI x0 x1 x2 x3 x4 x5).idx (x10, x11, x12)) x30.i.toNat x31.i x32.i x33.i x34.i := p18
 rw [← eI] at q2
 refine And.intro ?_ ?_
 ·intro h20
  refine And.intro ?_ ?_
  ·intro h22
   rw [show x30.i.toNat = 0 by omega] at q2
   have eP : stpP ((bxI x0 x1 x2 x3 x4 x5).at I) (0 : Nat) = (x10 - 1, x11, x12) := by rw [hat]; exact st0
   refine andI ?_ fun o23 => ?_
   ·exact ⟨gv, hkk⟩
   intro v24
   refine And.intro ?_ ?_
   ·intro h26
    have hn : ngbB (bxI x0 x1 x2 x3 x4 x5) x8 ((bxI x0 x1 x2 x3 x4 x5).at I) (0 : Nat) = true := by
     unfold ngbB
     rw [eP]
     exact h26
    obtain ⟨hr, _⟩ := ngb_ix hv hn
    rw [eP] at hr
    intro v27
    refine andI ?_ fun o28 => ?_
    ·exact hr.1
    refine andI ?_ fun o29 => ?_
    ·show (bxI x0 x1 x2 x3 x4 x5).idx (x10 - 1, x11, x12) < x9.i
     omega
    refine andI ?_ fun o30 => ?_
    ·exact hr.1
    refine andI ?_ fun o31 => ?_
    ·show (bxI x0 x1 x2 x3 x4 x5).idx (x10 - 1, x11, x12) < x9.i
     omega
    refine andI ?_ fun o32 => ?_
    ·exact hr.1
    refine andI ?_ fun o33 => ?_
    ·show (bxI x0 x1 x2 x3 x4 x5).idx (x10 - 1, x11, x12) < x9.i
     omega
    refine andI ?_ fun o34 => ?_
    ·exact hr.1
    refine andI ?_ fun o35 => ?_
    ·show (bxI x0 x1 x2 x3 x4 x5).idx (x10 - 1, x11, x12) < x9.i
     omega
    intro v36
    refine andI ?_ fun o37 => ?_
    ·have q3 := cel_step q2 hn
     rw [eP] at q3
     have ef : v36.i = fadX x7 ((lstX deI x6).getD I.toNat 0) := by
      show fadX x7 v6.i = _
      rw [e6]
     refine ⟨by decide, by decide, ?_⟩
     show celQ (bxI x0 x1 x2 x3 x4 x5) (lstX deI x6) x7 x8 x9 ((bxI x0 x1 x2 x3 x4 x5).idx (x10, x11, x12)) 1 (max x31.i ((x9.r v27.i 0).i - v36.i)) (max x32.i ((x9.r v27.i 1).i - v36.i)) (max x33.i ((x9.r v27.i 2).i - v36.i)) (max x34.i ((x9.r v27.i 3).i - v36.i))
     rw [← eI, ef]
     exact q3
    intro v38 v39
    refine andI ?_ fun o40 => ?_
    ·show (7 : Int) - 1 < 7 - x30.i
     omega
    show 0 < 7 - x30.i
    omega
   intro h41
   have hn : ¬ ngbB (bxI x0 x1 x2 x3 x4 x5) x8 ((bxI x0 x1 x2 x3 x4 x5).at I) (0 : Nat) = true := by
    unfold ngbB
    rw [eP]
    exact h41
   refine andI ?_ fun o42 => ?_
   ·refine ⟨by decide, by decide, ?_⟩
    show celQ (bxI x0 x1 x2 x3 x4 x5) (lstX deI x6) x7 x8 x9 ((bxI x0 x1 x2 x3 x4 x5).idx (x10, x11, x12)) 1 x31.i x32.i x33.i x34.i
    rw [← eI]
    exact cel_stay q2 hn
   intro v43 v44
   refine andI ?_ fun o45 => ?_
   ·show (7 : Int) - 1 < 7 - x30.i
    omega
   show 0 < 7 - x30.i
   omega
  refine And.intro ?_ ?_
  ·intro h47
   rw [show x30.i.toNat = 1 by omega] at q2
   have eP : stpP ((bxI x0 x1 x2 x3 x4 x5).at I) (1 : Nat) = (x10 + 1, x11, x12) := by rw [hat]; exact st1
   refine andI ?_ fun o48 => ?_
   ·exact ⟨gv, hkk⟩
   intro v49
   refine And.intro ?_ ?_
   ·intro h51
    have hn : ngbB (bxI x0 x1 x2 x3 x4 x5) x8 ((bxI x0 x1 x2 x3 x4 x5).at I) (1 : Nat) = true := by
     unfold ngbB
     rw [eP]
     exact h51
    obtain ⟨hr, _⟩ := ngb_ix hv hn
    rw [eP] at hr
    intro v52
    refine andI ?_ fun o53 => ?_
    ·exact hr.1
    refine andI ?_ fun o54 => ?_
    ·show (bxI x0 x1 x2 x3 x4 x5).idx (x10 + 1, x11, x12) < x9.i
     omega
    refine andI ?_ fun o55 => ?_
    ·exact hr.1
    refine andI ?_ fun o56 => ?_
    ·show (bxI x0 x1 x2 x3 x4 x5).idx (x10 + 1, x11, x12) < x9.i
     omega
    refine andI ?_ fun o57 => ?_
    ·exact hr.1
    refine andI ?_ fun o58 => ?_
    ·show (bxI x0 x1 x2 x3 x4 x5).idx (x10 + 1, x11, x12) < x9.i
     omega
    refine andI ?_ fun o59 => ?_
    ·exact hr.1
    refine andI ?_ fun o60 => ?_
    ·show (bxI x0 x1 x2 x3 x4 x5).idx (x10 + 1, x11, x12) < x9.i
     omega
    intro v61
    refine andI ?_ fun o62 => ?_
    ·have q3 := cel_step q2 hn
     rw [eP] at q3
     have ef : v61.i = fadX x7 ((lstX deI x6).getD I.toNat 0) := by
      show fadX x7 v6.i = _
      rw [e6]
     refine ⟨by decide, by decide, ?_⟩
     show celQ (bxI x0 x1 x2 x3 x4 x5) (lstX deI x6) x7 x8 x9 ((bxI x0 x1 x2 x3 x4 x5).idx (x10, x11, x12)) 2 (max x31.i ((x9.r v52.i 0).i - v61.i)) (max x32.i ((x9.r v52.i 1).i - v61.i)) (max x33.i ((x9.r v52.i 2).i - v61.i)) (max x34.i ((x9.r v52.i 3).i - v61.i))
     rw [← eI, ef]
     exact q3
    intro v63 v64
    refine andI ?_ fun o65 => ?_
    ·show (7 : Int) - 2 < 7 - x30.i
     omega
    show 0 < 7 - x30.i
    omega
   intro h66
   have hn : ¬ ngbB (bxI x0 x1 x2 x3 x4 x5) x8 ((bxI x0 x1 x2 x3 x4 x5).at I) (1 : Nat) = true := by
    unfold ngbB
    rw [eP]
    exact h66
   refine andI ?_ fun o67 => ?_
   ·refine ⟨by decide, by decide, ?_⟩
    show celQ (bxI x0 x1 x2 x3 x4 x5) (lstX deI x6) x7 x8 x9 ((bxI x0 x1 x2 x3 x4 x5).idx (x10, x11, x12)) 2 x31.i x32.i x33.i x34.i
    rw [← eI]
    exact cel_stay q2 hn
   intro v68 v69
   refine andI ?_ fun o70 => ?_
   ·show (7 : Int) - 2 < 7 - x30.i
    omega
   show 0 < 7 - x30.i
   omega
  refine And.intro ?_ ?_
  ·intro h72
   rw [show x30.i.toNat = 2 by omega] at q2
   have eP : stpP ((bxI x0 x1 x2 x3 x4 x5).at I) (2 : Nat) = (x10, x11 - 1, x12) := by rw [hat]; exact st2
   refine andI ?_ fun o73 => ?_
   ·exact ⟨gv, hkk⟩
   intro v74
   refine And.intro ?_ ?_
   ·intro h76
    have hn : ngbB (bxI x0 x1 x2 x3 x4 x5) x8 ((bxI x0 x1 x2 x3 x4 x5).at I) (2 : Nat) = true := by
     unfold ngbB
     rw [eP]
     exact h76
    obtain ⟨hr, _⟩ := ngb_ix hv hn
    rw [eP] at hr
    intro v77
    refine andI ?_ fun o78 => ?_
    ·exact hr.1
    refine andI ?_ fun o79 => ?_
    ·show (bxI x0 x1 x2 x3 x4 x5).idx (x10, x11 - 1, x12) < x9.i
     omega
    refine andI ?_ fun o80 => ?_
    ·exact hr.1
    refine andI ?_ fun o81 => ?_
    ·show (bxI x0 x1 x2 x3 x4 x5).idx (x10, x11 - 1, x12) < x9.i
     omega
    refine andI ?_ fun o82 => ?_
    ·exact hr.1
    refine andI ?_ fun o83 => ?_
    ·show (bxI x0 x1 x2 x3 x4 x5).idx (x10, x11 - 1, x12) < x9.i
     omega
    refine andI ?_ fun o84 => ?_
    ·exact hr.1
    refine andI ?_ fun o85 => ?_
    ·show (bxI x0 x1 x2 x3 x4 x5).idx (x10, x11 - 1, x12) < x9.i
     omega
    intro v86
    refine andI ?_ fun o87 => ?_
    ·have q3 := cel_step q2 hn
     rw [eP] at q3
     have ef : v86.i = fadX x7 ((lstX deI x6).getD I.toNat 0) := by
      show fadX x7 v6.i = _
      rw [e6]
     refine ⟨by decide, by decide, ?_⟩
     show celQ (bxI x0 x1 x2 x3 x4 x5) (lstX deI x6) x7 x8 x9 ((bxI x0 x1 x2 x3 x4 x5).idx (x10, x11, x12)) 3 (max x31.i ((x9.r v77.i 0).i - v86.i)) (max x32.i ((x9.r v77.i 1).i - v86.i)) (max x33.i ((x9.r v77.i 2).i - v86.i)) (max x34.i ((x9.r v77.i 3).i - v86.i))
     rw [← eI, ef]
     exact q3
    intro v88 v89
    refine andI ?_ fun o90 => ?_
    ·show (7 : Int) - 3 < 7 - x30.i
     omega
    show 0 < 7 - x30.i
    omega
   intro h91
   have hn : ¬ ngbB (bxI x0 x1 x2 x3 x4 x5) x8 ((bxI x0 x1 x2 x3 x4 x5).at I) (2 : Nat) = true := by
    unfold ngbB
    rw [eP]
    exact h91
   refine andI ?_ fun o92 => ?_
   ·refine ⟨by decide, by decide, ?_⟩
    show celQ (bxI x0 x1 x2 x3 x4 x5) (lstX deI x6) x7 x8 x9 ((bxI x0 x1 x2 x3 x4 x5).idx (x10, x11, x12)) 3 x31.i x32.i x33.i x34.i
    rw [← eI]
    exact cel_stay q2 hn
   intro v93 v94
   refine andI ?_ fun o95 => ?_
   ·show (7 : Int) - 3 < 7 - x30.i
    omega
   show 0 < 7 - x30.i
   omega
  refine And.intro ?_ ?_
  ·intro h97
   rw [show x30.i.toNat = 3 by omega] at q2
   have eP : stpP ((bxI x0 x1 x2 x3 x4 x5).at I) (3 : Nat) = (x10, x11 + 1, x12) := by rw [hat]; exact st3
   refine andI ?_ fun o98 => ?_
   ·exact ⟨gv, hkk⟩
   intro v99
   refine And.intro ?_ ?_
   ·intro h101
    have hn : ngbB (bxI x0 x1 x2 x3 x4 x5) x8 ((bxI x0 x1 x2 x3 x4 x5).at I) (3 : Nat) = true := by
     unfold ngbB
     rw [eP]
     exact h101
    obtain ⟨hr, _⟩ := ngb_ix hv hn
    rw [eP] at hr
    intro v102
    refine andI ?_ fun o103 => ?_
    ·exact hr.1
    refine andI ?_ fun o104 => ?_
    ·show (bxI x0 x1 x2 x3 x4 x5).idx (x10, x11 + 1, x12) < x9.i
     omega
    refine andI ?_ fun o105 => ?_
    ·exact hr.1
    refine andI ?_ fun o106 => ?_
    ·show (bxI x0 x1 x2 x3 x4 x5).idx (x10, x11 + 1, x12) < x9.i
     omega
    refine andI ?_ fun o107 => ?_
    ·exact hr.1
    refine andI ?_ fun o108 => ?_
    ·show (bxI x0 x1 x2 x3 x4 x5).idx (x10, x11 + 1, x12) < x9.i
     omega
    refine andI ?_ fun o109 => ?_
    ·exact hr.1
    refine andI ?_ fun o110 => ?_
    ·show (bxI x0 x1 x2 x3 x4 x5).idx (x10, x11 + 1, x12) < x9.i
     omega
    intro v111
    refine andI ?_ fun o112 => ?_
    ·have q3 := cel_step q2 hn
     rw [eP] at q3
     have ef : v111.i = fadX x7 ((lstX deI x6).getD I.toNat 0) := by
      show fadX x7 v6.i = _
      rw [e6]
     refine ⟨by decide, by decide, ?_⟩
     show celQ (bxI x0 x1 x2 x3 x4 x5) (lstX deI x6) x7 x8 x9 ((bxI x0 x1 x2 x3 x4 x5).idx (x10, x11, x12)) 4 (max x31.i ((x9.r v102.i 0).i - v111.i)) (max x32.i ((x9.r v102.i 1).i - v111.i)) (max x33.i ((x9.r v102.i 2).i - v111.i)) (max x34.i ((x9.r v102.i 3).i - v111.i))
     rw [← eI, ef]
     exact q3
    intro v113 v114
    refine andI ?_ fun o115 => ?_
    ·show (7 : Int) - 4 < 7 - x30.i
     omega
    show 0 < 7 - x30.i
    omega
   intro h116
   have hn : ¬ ngbB (bxI x0 x1 x2 x3 x4 x5) x8 ((bxI x0 x1 x2 x3 x4 x5).at I) (3 : Nat) = true := by
    unfold ngbB
    rw [eP]
    exact h116
   refine andI ?_ fun o117 => ?_
   ·refine ⟨by decide, by decide, ?_⟩
    show celQ (bxI x0 x1 x2 x3 x4 x5) (lstX deI x6) x7 x8 x9 ((bxI x0 x1 x2 x3 x4 x5).idx (x10, x11, x12)) 4 x31.i x32.i x33.i x34.i
    rw [← eI]
    exact cel_stay q2 hn
   intro v118 v119
   refine andI ?_ fun o120 => ?_
   ·show (7 : Int) - 4 < 7 - x30.i
    omega
   show 0 < 7 - x30.i
   omega
  refine And.intro ?_ ?_
  ·intro h122
   rw [show x30.i.toNat = 4 by omega] at q2
   have eP : stpP ((bxI x0 x1 x2 x3 x4 x5).at I) (4 : Nat) = (x10, x11, x12 - 1) := by rw [hat]; exact st4
   refine andI ?_ fun o123 => ?_
   ·exact ⟨gv, hkk⟩
   intro v124
   refine And.intro ?_ ?_
   ·intro h126
    have hn : ngbB (bxI x0 x1 x2 x3 x4 x5) x8 ((bxI x0 x1 x2 x3 x4 x5).at I) (4 : Nat) = true := by
     unfold ngbB
     rw [eP]
     exact h126
    obtain ⟨hr, _⟩ := ngb_ix hv hn
    rw [eP] at hr
    intro v127
    refine andI ?_ fun o128 => ?_
    ·exact hr.1
    refine andI ?_ fun o129 => ?_
    ·show (bxI x0 x1 x2 x3 x4 x5).idx (x10, x11, x12 - 1) < x9.i
     omega
    refine andI ?_ fun o130 => ?_
    ·exact hr.1
    refine andI ?_ fun o131 => ?_
    ·show (bxI x0 x1 x2 x3 x4 x5).idx (x10, x11, x12 - 1) < x9.i
     omega
    refine andI ?_ fun o132 => ?_
    ·exact hr.1
    refine andI ?_ fun o133 => ?_
    ·show (bxI x0 x1 x2 x3 x4 x5).idx (x10, x11, x12 - 1) < x9.i
     omega
    refine andI ?_ fun o134 => ?_
    ·exact hr.1
    refine andI ?_ fun o135 => ?_
    ·show (bxI x0 x1 x2 x3 x4 x5).idx (x10, x11, x12 - 1) < x9.i
     omega
    intro v136
    refine andI ?_ fun o137 => ?_
    ·have q3 := cel_step q2 hn
     rw [eP] at q3
     have ef : v136.i = fadX x7 ((lstX deI x6).getD I.toNat 0) := by
      show fadX x7 v6.i = _
      rw [e6]
     refine ⟨by decide, by decide, ?_⟩
     show celQ (bxI x0 x1 x2 x3 x4 x5) (lstX deI x6) x7 x8 x9 ((bxI x0 x1 x2 x3 x4 x5).idx (x10, x11, x12)) 5 (max x31.i ((x9.r v127.i 0).i - v136.i)) (max x32.i ((x9.r v127.i 1).i - v136.i)) (max x33.i ((x9.r v127.i 2).i - v136.i)) (max x34.i ((x9.r v127.i 3).i - v136.i))
     rw [← eI, ef]
     exact q3
    intro v138 v139
    refine andI ?_ fun o140 => ?_
    ·show (7 : Int) - 5 < 7 - x30.i
     omega
    show 0 < 7 - x30.i
    omega
   intro h141
   have hn : ¬ ngbB (bxI x0 x1 x2 x3 x4 x5) x8 ((bxI x0 x1 x2 x3 x4 x5).at I) (4 : Nat) = true := by
    unfold ngbB
    rw [eP]
    exact h141
   refine andI ?_ fun o142 => ?_
   ·refine ⟨by decide, by decide, ?_⟩
    show celQ (bxI x0 x1 x2 x3 x4 x5) (lstX deI x6) x7 x8 x9 ((bxI x0 x1 x2 x3 x4 x5).idx (x10, x11, x12)) 5 x31.i x32.i x33.i x34.i
    rw [← eI]
    exact cel_stay q2 hn
   intro v143 v144
   refine andI ?_ fun o145 => ?_
   ·show (7 : Int) - 5 < 7 - x30.i
    omega
   show 0 < 7 - x30.i
   omega
  refine And.intro ?_ ?_
  ·intro h147
   rw [show x30.i.toNat = 5 by omega] at q2
   have eP : stpP ((bxI x0 x1 x2 x3 x4 x5).at I) (5 : Nat) = (x10, x11, x12 + 1) := by rw [hat]; exact st5
   refine andI ?_ fun o148 => ?_
   ·exact ⟨gv, hkk⟩
   intro v149
   refine And.intro ?_ ?_
   ·intro h151
    have hn : ngbB (bxI x0 x1 x2 x3 x4 x5) x8 ((bxI x0 x1 x2 x3 x4 x5).at I) (5 : Nat) = true := by
     unfold ngbB
     rw [eP]
     exact h151
    obtain ⟨hr, _⟩ := ngb_ix hv hn
    rw [eP] at hr
    intro v152
    refine andI ?_ fun o153 => ?_
    ·exact hr.1
    refine andI ?_ fun o154 => ?_
    ·show (bxI x0 x1 x2 x3 x4 x5).idx (x10, x11, x12 + 1) < x9.i
     omega
    refine andI ?_ fun o155 => ?_
    ·exact hr.1
    refine andI ?_ fun o156 => ?_
    ·show (bxI x0 x1 x2 x3 x4 x5).idx (x10, x11, x12 + 1) < x9.i
     omega
    refine andI ?_ fun o157 => ?_
    ·exact hr.1
    refine andI ?_ fun o158 => ?_
    ·show (bxI x0 x1 x2 x3 x4 x5).idx (x10, x11, x12 + 1) < x9.i
     omega
    refine andI ?_ fun o159 => ?_
    ·exact hr.1
    refine andI ?_ fun o160 => ?_
    ·show (bxI x0 x1 x2 x3 x4 x5).idx (x10, x11, x12 + 1) < x9.i
     omega
    intro v161
    refine andI ?_ fun o162 => ?_
    ·have q3 := cel_step q2 hn
     rw [eP] at q3
     have ef : v161.i = fadX x7 ((lstX deI x6).getD I.toNat 0) := by
      show fadX x7 v6.i = _
      rw [e6]
     refine ⟨by decide, by decide, ?_⟩
     show celQ (bxI x0 x1 x2 x3 x4 x5) (lstX deI x6) x7 x8 x9 ((bxI x0 x1 x2 x3 x4 x5).idx (x10, x11, x12)) 6 (max x31.i ((x9.r v152.i 0).i - v161.i)) (max x32.i ((x9.r v152.i 1).i - v161.i)) (max x33.i ((x9.r v152.i 2).i - v161.i)) (max x34.i ((x9.r v152.i 3).i - v161.i))
     rw [← eI, ef]
     exact q3
    intro v163 v164
    refine andI ?_ fun o165 => ?_
    ·show (7 : Int) - 6 < 7 - x30.i
     omega
    show 0 < 7 - x30.i
    omega
   intro h166
   have hn : ¬ ngbB (bxI x0 x1 x2 x3 x4 x5) x8 ((bxI x0 x1 x2 x3 x4 x5).at I) (5 : Nat) = true := by
    unfold ngbB
    rw [eP]
    exact h166
   refine andI ?_ fun o167 => ?_
   ·refine ⟨by decide, by decide, ?_⟩
    show celQ (bxI x0 x1 x2 x3 x4 x5) (lstX deI x6) x7 x8 x9 ((bxI x0 x1 x2 x3 x4 x5).idx (x10, x11, x12)) 6 x31.i x32.i x33.i x34.i
    rw [← eI]
    exact cel_stay q2 hn
   intro v168 v169
   refine andI ?_ fun o170 => ?_
   ·show (7 : Int) - 6 < 7 - x30.i
    omega
   show 0 < 7 - x30.i
   omega
  trivial
 intro h171
 rw [show x30.i.toNat = 6 by omega] at q2
 have eP : stpP ((bxI x0 x1 x2 x3 x4 x5).at I) 5 = (x10, x11, x12 + 1) := by rw [hat]; exact st5
 have ez : ((bxI x0 x1 x2 x3 x4 x5).at I).2.2 = x12 := by rw [hat]
 refine andI ?_ fun o172 => ?_
 ·exact ⟨gv, hkk⟩
 intro v173
 refine And.intro ?_ ?_
 ·intro h175
  have hn : ngbB (bxI x0 x1 x2 x3 x4 x5) x8 ((bxI x0 x1 x2 x3 x4 x5).at I) 5 = true := by
   unfold ngbB
   rw [eP]
   exact h175
  obtain ⟨hr, _⟩ := ngb_ix hv hn
  rw [eP] at hr
  intro v176
  refine andI ?_ fun o177 => ?_
  ·exact hr.1
  refine andI ?_ fun o178 => ?_
  ·show (bxI x0 x1 x2 x3 x4 x5).idx (x10, x11, x12 + 1) < x9.i
   omega
  intro v179
  have ef : v179.i = fadX x7 ((lstX deI x6).getD I.toNat 0) := by
   show fadX x7 v6.i = _
   rw [e6]
  have hu : (bif (decide (x5 ≤ (x12 + 1))) then 15 else (x9.r v176.i 3).i) = bif decide ((bxI x0 x1 x2 x3 x4 x5).f ≤ ((bxI x0 x1 x2 x3 x4 x5).at I).2.2 + 1) then 15 else if ngbB (bxI x0 x1 x2 x3 x4 x5) x8 ((bxI x0 x1 x2 x3 x4 x5).at I) 5 = true then lvX x9 ((bxI x0 x1 x2 x3 x4 x5).idx (stpP ((bxI x0 x1 x2 x3 x4 x5).at I) 5)) 3 else 0 := by
   rw [if_pos hn, ez, eP]
   rfl
  refine And.intro ?_ ?_
  ·intro h181
   rw [ef] at h181
   obtain ⟨a, b, c, d⟩ := cel_end q2 hv ht hkn hi.1 (by omega) hL hu (if_pos h181).symm
   have es : ∀ {v w z : Int}, v = w → (z = w ∧ 0 ≤ w ∧ w ≤ 15) → z = v ∧ 0 ≤ v ∧ v ≤ 15 := fun e h => by rw [e]; exact h
   exact ⟨es (hif 0) a, es (hif 1) b, es (hif 2) c, es (hif 3) d⟩
  intro h182
  rw [ef] at h182
  rw [ef]
  obtain ⟨a, b, c, d⟩ := cel_end q2 hv ht hkn hi.1 (by omega) hL hu (if_neg h182).symm
  have es : ∀ {v w z : Int}, v = w → (z = w ∧ 0 ≤ w ∧ w ≤ 15) → z = v ∧ 0 ≤ v ∧ v ≤ 15 := fun e h => by rw [e]; exact h
  exact ⟨es (hif 0) a, es (hif 1) b, es (hif 2) c, es (hif 3) d⟩
 intro h183 v184
 have hn : ¬ ngbB (bxI x0 x1 x2 x3 x4 x5) x8 ((bxI x0 x1 x2 x3 x4 x5).at I) 5 = true := by
  unfold ngbB
  rw [eP]
  exact h183
 have ef : v184.i = fadX x7 ((lstX deI x6).getD I.toNat 0) := by
  show fadX x7 v6.i = _
  rw [e6]
 have hu : (bif (decide (x5 ≤ (x12 + 1))) then 15 else 0) = bif decide ((bxI x0 x1 x2 x3 x4 x5).f ≤ ((bxI x0 x1 x2 x3 x4 x5).at I).2.2 + 1) then 15 else if ngbB (bxI x0 x1 x2 x3 x4 x5) x8 ((bxI x0 x1 x2 x3 x4 x5).at I) 5 = true then lvX x9 ((bxI x0 x1 x2 x3 x4 x5).idx (stpP ((bxI x0 x1 x2 x3 x4 x5).at I) 5)) 3 else (0 : Int) := by
  rw [if_neg hn, ez]
  rfl
 refine And.intro ?_ ?_
 ·intro h186
  rw [ef] at h186
  obtain ⟨a, b, c, d⟩ := cel_end q2 hv ht hkn hi.1 (by omega) hL hu (if_pos h186).symm
  have es : ∀ {v w z : Int}, v = w → (z = w ∧ 0 ≤ w ∧ w ≤ 15) → z = v ∧ 0 ≤ v ∧ v ≤ 15 := fun e h => by rw [e]; exact h
  exact ⟨es (hif 0) a, es (hif 1) b, es (hif 2) c, es (hif 3) d⟩
 intro h187
 rw [ef] at h187
 rw [ef]
 obtain ⟨a, b, c, d⟩ := cel_end q2 hv ht hkn hi.1 (by omega) hL hu (if_neg h187).symm
 have es : ∀ {v w z : Int}, v = w → (z = w ∧ 0 ≤ w ∧ w ≤ 15) → z = v ∧ 0 ≤ v ∧ v ≤ 15 := fun e h => by rw [e]; exact h
 exact ⟨es (hif 0) a, es (hif 1) b, es (hif 2) c, es (hif 3) d⟩
theorem kCellR : RCtrOk Tryd.prog ρ0 cCellR := by
 refine rctr_ofN (cf := cfG none [cInR, cIndexR] [cKnR, cGetR, cFadR, cEmtR] lpCell []) (cfG_ok ((keep0.cons kIndexR nIndexR).cons kInR nInR) ((((keepR0.cons kEmtR nEmtR).cons kFadR nFadR).cons kGetR nGetR).cons kKnR nKnR) noF) Tryd.func46 rfl 500 rfl (sh := shCl) (by kernel_rfl) cl_rsh fun ds hr hp => ?_
 have hr := rshX_flat hr
 match ds, hr, hp with
 | [d0, d1, d2, d3, d4, d5, d6, d7, d8, d9, d10, d11, d12], hr, hp =>
  obtain ⟨⟨e0, l0, u0⟩, ⟨e1, l1, u1⟩, ⟨e2, l2, u2⟩, ⟨e3, l3, u3⟩, ⟨e4, l4, u4⟩, ⟨e5, l5, u5⟩, l6, l7, l8, l9, ⟨e10, l10, u10⟩, ⟨e11, l11, u11⟩, ⟨e12, l12, u12⟩, _⟩ := hr
  generalize d0.i = x0, d1.i = x1, d2.i = x2, d3.i = x3, d4.i = x4, d5.i = x5, d6 = x6, d7 = x7, d8 = x8, d9 = x9, d10.i = x10, d11.i = x11, d12.i = x12 at *
  subst e0 e1 e2 e3 e4 e5 e10 e11 e12
  exact Eq.mpr (CellRL x0 x1 x2 x3 x4 x5 x6 x7 x8 x9 x10 x11 x12) (CellRO x0 x1 x2 x3 x4 x5 x6 x7 x8 x9 x10 x11 x12 ⟨l0, u0⟩ ⟨l1, u1⟩ ⟨l2, u2⟩ ⟨l3, u3⟩ ⟨l4, u4⟩ ⟨l5, u5⟩ l6 l7 l8 l9 ⟨l10, u10⟩ ⟨l11, u11⟩ ⟨l12, u12⟩ hp)
theorem nCellR : Hs cCellR.f := ⟨_, Tryd.func46, by kernel_rfl, by kernel_rfl⟩
end Vc
end Go.Proofs.YtelbilnnmmbmdaaDoor
