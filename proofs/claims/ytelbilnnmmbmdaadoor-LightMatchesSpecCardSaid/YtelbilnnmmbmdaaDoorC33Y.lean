/- Contracts of functions, each out of one walk. -/
import Derived.Test.YtelbilnnmmbmdaaDoorC33S
import Derived.Test.YtelbilnnmmbmdaaDoorC33W
import Derived.Test.YtelbilnnmmbmdaaDoorC33Q
import Derived.Test.YtelbilnnmmbmdaaDoorC33F
namespace Go.Proofs.YtelbilnnmmbmdaaDoor
namespace Vc
open Go Go.RowKit
set_option linter.unusedVariables false
def FulAP (x0 x1 x2 x3 x4 x5 : Int) (x6 : X) (x7 : X) (x8 : X) : Prop :=
 let A := [xI x0, xI x1, xI x2, xI x3, xI x4, xI x5, x6, x7, x8]; (let v0 := Ff 1202 A; (((¬ (v0.i = 0)) →
(((Ff 1201 A).i = 0 ∧ 0 ≤ (2097152 : Int)) ∧ ((rI v0.i (Ff 1202 A).i 0 1) ∧ True))) ∧
((v0.i = 0) →
(Px 1245 (A ++ [xI 0, (mkX (rwTab 1 []) 0), (mkX (rwTab 1 []) 0)]) ∧
(∀ x30 : X, (∀ x31 : X, (∀ x32 : X, (((0 ≤ x30.i) ∧ (x30.i ≤ 2097152)) →
((0 ≤ x31.i ∧ x31.i ≤ 2097152 ∧ RowOk SFd x31.r (x31.i).toNat) →
((0 ≤ x32.i ∧ x32.i ≤ 2097152 ∧ RowOk SEm x32.r (x32.i).toNat) →
(Px 1245 (A ++ [x30, x31, x32]) →
(((x30.i < x6.i) →
((x30.i < x6.i) ∧
(Px 1234 [x7, (xI (x6.r x30.i 0).i)] ∧
(Px 1234 [x7, (xI (x6.r x30.i 0).i)] ∧
(((x31.i + 1) ≤ 2097152) ∧
(((x32.i + 1) ≤ 2097152) ∧
(let v16 := Ff 1221 [x7, (xI (x6.r x30.i 0).i)]; let v17 := Ff 1218 [x7, (xI (x6.r x30.i 0).i)]; let v18 := Ff 1219 [x7, (xI (x6.r x30.i 0).i)]; let v19 := Ff 1220 [x7, (xI (x6.r x30.i 0).i)]; (Px 1245 (A ++ [(xI (x30.i + 1)), (mkX (rwCat x31.r x31.i (rwTab 1 [v16])) (x31.i + 1)), (mkX (rwCat x32.r x32.i (rwTab 3 [v17, v18, v19])) (x32.i + 1))]) ∧
(((Ff 1253 (A ++ [(xI (x30.i + 1)), (mkX (rwCat x31.r x31.i (rwTab 1 [v16])) (x31.i + 1)), (mkX (rwCat x32.r x32.i (rwTab 3 [v17, v18, v19])) (x32.i + 1))])).i < (Ff 1253 (A ++ [x30, x31, x32])).i) ∧
(0 < (Ff 1253 (A ++ [x30, x31, x32])).i)))))))))) ∧
((¬ (x30.i < x6.i)) →
(Px 1260 (A ++ [xI 0, (mkX (rwRep [xI 0, xI 0, xI 0, xI 0]) x6.i)]) ∧
(∀ x40 : X, (∀ x41 : X, (((0 ≤ x40.i) ∧ (x40.i ≤ 4)) →
((0 ≤ x41.i ∧ x41.i ≤ 2097152 ∧ RowOk SLw x41.r (x41.i).toNat) →
(Px 1260 (A ++ [x40, x41]) →
(((x40.i < 4) →
(((x40.i = 0) →
(Px 1261 (A ++ [x40, xI 0, x41, (xR (rwRep []))]) ∧
(∀ x50 : X, (∀ x51 : X, (∀ x52 : X, (((0 ≤ x50.i) ∧ (x50.i ≤ 2097152)) →
((0 ≤ x51.i ∧ x51.i ≤ 2097152 ∧ RowOk SLw x51.r (x51.i).toNat) →
(Px 1261 (A ++ [x40, x50, x51, x52]) →
(((x50.i < x41.i) →
(Px 1235 [xI x0, xI x1, xI x2, xI x3, xI x4, xI x5, x6, x8, x31, x32, xI x50.i] ∧
(let v38 := Ff 1223 [xI x0, xI x1, xI x2, xI x3, xI x4, xI x5, x6, x8, x31, x32, xI x50.i]; (((v38.b = true) →
(Px 1236 [xI x0, xI x1, xI x2, xI x3, xI x4, xI x5, x6, x8, x31, x32, xI x50.i, xI 0] ∧
((x50.i < x51.i) ∧
(let v43 := Ff 1225 [xI x0, xI x1, xI x2, xI x3, xI x4, xI x5, x6, x8, x31, x32, xI x50.i, xI 0]; ((((x51.r x50.i 0).i < v43.i) →
((x50.i < x51.i) ∧
(((x52.r v43.i (-1)).i < 100000000) ∧
(Px 1261 (A ++ [x40, (xI (x50.i + 1)), (mkX (rwSet x51.r x50.i 0 v43) x51.i), (xR (rwSet (rwSet x52.r v43.i (x52.r v43.i (-1)).i x50) v43.i (-1) (xI ((x52.r v43.i (-1)).i + 1))))]) ∧
(((Ff 1261 (A ++ [x40, (xI (x50.i + 1)), (mkX (rwSet x51.r x50.i 0 v43) x51.i), (xR (rwSet (rwSet x52.r v43.i (x52.r v43.i (-1)).i x50) v43.i (-1) (xI ((x52.r v43.i (-1)).i + 1))))])).i < (Ff 1261 (A ++ [x40, x50, x51, x52])).i) ∧
(0 < (Ff 1261 (A ++ [x40, x50, x51, x52])).i)))))) ∧
((¬ ((x51.r x50.i 0).i < v43.i)) →
(Px 1261 (A ++ [x40, (xI (x50.i + 1)), x51, x52]) ∧
(((Ff 1261 (A ++ [x40, (xI (x50.i + 1)), x51, x52])).i < (Ff 1261 (A ++ [x40, x50, x51, x52])).i) ∧
(0 < (Ff 1261 (A ++ [x40, x50, x51, x52])).i))))))))) ∧
((¬ (v38.b = true)) →
(Px 1261 (A ++ [x40, (xI (x50.i + 1)), x51, x52]) ∧
(((Ff 1261 (A ++ [x40, (xI (x50.i + 1)), x51, x52])).i < (Ff 1261 (A ++ [x40, x50, x51, x52])).i) ∧
(0 < (Ff 1261 (A ++ [x40, x50, x51, x52])).i)))))))) ∧
((¬ (x50.i < x41.i)) →
(Px 1262 (A ++ [x40, xI 15, x51, x52]) ∧
(∀ x60 : X, (∀ x61 : X, (∀ x62 : X, (((0 ≤ x60.i) ∧ (x60.i ≤ 15)) →
((0 ≤ x61.i ∧ x61.i ≤ 2097152 ∧ RowOk SLw x61.r (x61.i).toNat) →
(Px 1262 (A ++ [x40, x60, x61, x62]) →
(((0 < x60.i) →
(Px 1263 (A ++ [x40, x60, xI 0, x61, x62]) ∧
(∀ x70 : X, (∀ x71 : X, (∀ x72 : X, (((0 ≤ x70.i) ∧ (x70.i ≤ 100000000)) →
((0 ≤ x71.i ∧ x71.i ≤ 2097152 ∧ RowOk SLw x71.r (x71.i).toNat) →
(Px 1263 (A ++ [x40, x60, x70, x71, x72]) →
(((x70.i < (x72.r x60.i (-1)).i) →
((x70.i < (x72.r x60.i (-1)).i) ∧
((0 ≤ (x72.r x60.i x70.i).i) ∧
(((x72.r x60.i x70.i).i < x71.i) ∧
(((¬ ((x71.r (x72.r x60.i x70.i).i 0).i = x60.i)) →
(Px 1263 (A ++ [x40, x60, (xI (x70.i + 1)), x71, x72]) ∧
(((Ff 1263 (A ++ [x40, x60, (xI (x70.i + 1)), x71, x72])).i < (Ff 1263 (A ++ [x40, x60, x70, x71, x72])).i) ∧
(0 < (Ff 1263 (A ++ [x40, x60, x70, x71, x72])).i)))) ∧
(((x71.r (x72.r x60.i x70.i).i 0).i = x60.i) →
(Px 1264 (A ++ [x40, x60, x70, (xI (x72.r x60.i x70.i).i), x71, x72, xI 0, x71, x72]) ∧
(∀ x80 : X, (∀ x81 : X, (∀ x82 : X, (((0 ≤ x80.i) ∧ (x80.i ≤ 6)) →
((0 ≤ x81.i ∧ x81.i ≤ 2097152 ∧ RowOk SLw x81.r (x81.i).toNat) →
(Px 1264 (A ++ [x40, x60, x70, (xI (x72.r x60.i x70.i).i), x71, x72, x80, x81, x82]) →
(((x80.i < 6) →
(let v83 := Ff 270 [xI x0, xI x1, xI x2, xI x3, xI x4, xI x5, (xI (x72.r x60.i x70.i).i)]; let v84 := Ff 271 [xI x0, xI x1, xI x2, xI x3, xI x4, xI x5, (xI (x72.r x60.i x70.i).i)]; let v85 := Ff 272 [xI x0, xI x1, xI x2, xI x3, xI x4, xI x5, (xI (x72.r x60.i x70.i).i)]; let v86 := Ff 201 [(xI (v83.i + (bif (decide (x80.i = 5)) then 0 else (bif (decide (x80.i = 4)) then 0 else (bif (decide (x80.i = 3)) then 0 else (bif (decide (x80.i = 2)) then 0 else (bif (decide (x80.i = 1)) then (1 : Int) else (-1)))))))), (xI (v84.i + (bif (decide (x80.i = 5)) then 0 else (bif (decide (x80.i = 4)) then 0 else (bif (decide (x80.i = 3)) then 1 else (bif (decide (x80.i = 2)) then ((-1) : Int) else 0)))))), (xI (v85.i + (bif (decide (x80.i = 5)) then 1 else (bif (decide (x80.i = 4)) then ((-1) : Int) else 0)))), xI x0, xI x1, xI x2, xI x3, xI x4, xI x5]; (((¬ (v86.b = true)) →
(Px 1264 (A ++ [x40, x60, x70, (xI (x72.r x60.i x70.i).i), x71, x72, (xI (x80.i + 1)), x81, x82]) ∧
(((Ff 1264 (A ++ [x40, x60, x70, (xI (x72.r x60.i x70.i).i), x71, x72, (xI (x80.i + 1)), x81, x82])).i < (Ff 1264 (A ++ [x40, x60, x70, (xI (x72.r x60.i x70.i).i), x71, x72, x80, x81, x82])).i) ∧
(0 < (Ff 1264 (A ++ [x40, x60, x70, (xI (x72.r x60.i x70.i).i), x71, x72, x80, x81, x82])).i)))) ∧
((v86.b = true) →
(let v92 := Ff 260 [xI x0, xI x1, xI x2, xI x3, xI x4, xI x5, (xI (v83.i + (bif (decide (x80.i = 5)) then 0 else (bif (decide (x80.i = 4)) then 0 else (bif (decide (x80.i = 3)) then 0 else (bif (decide (x80.i = 2)) then 0 else (bif (decide (x80.i = 1)) then (1 : Int) else (-1)))))))), (xI (v84.i + (bif (decide (x80.i = 5)) then 0 else (bif (decide (x80.i = 4)) then 0 else (bif (decide (x80.i = 3)) then 1 else (bif (decide (x80.i = 2)) then ((-1) : Int) else 0)))))), (xI (v85.i + (bif (decide (x80.i = 5)) then 1 else (bif (decide (x80.i = 4)) then ((-1) : Int) else 0))))]; (Px 1235 [xI x0, xI x1, xI x2, xI x3, xI x4, xI x5, x6, x8, x31, x32, xI v92.i] ∧
(let v94 := Ff 1223 [xI x0, xI x1, xI x2, xI x3, xI x4, xI x5, x6, x8, x31, x32, xI v92.i]; (((v94.b = true) →
(Px 1236 [xI x0, xI x1, xI x2, xI x3, xI x4, xI x5, x6, x8, x31, x32, xI v92.i, xI 0, xI x60.i, xI x80.i] ∧
((0 ≤ v92.i) ∧
((v92.i < x81.i) ∧
(let v100 := Ff 1224 [xI x0, xI x1, xI x2, xI x3, xI x4, xI x5, x6, x8, x31, x32, xI v92.i, xI 0, xI x60.i, xI x80.i]; ((((x81.r v92.i 0).i < v100.i) →
((0 ≤ v92.i) ∧
((v92.i < x81.i) ∧
((0 ≤ v100.i) ∧
(((x82.r v100.i (-1)).i < 100000000) ∧
((0 ≤ v100.i) ∧
(Px 1264 (A ++ [x40, x60, x70, (xI (x72.r x60.i x70.i).i), x71, x72, (xI (x80.i + 1)), (mkX (rwSet x81.r v92.i 0 v100) x81.i), (xR (rwSet (rwSet x82.r v100.i (x82.r v100.i (-1)).i v92) v100.i (-1) (xI ((x82.r v100.i (-1)).i + 1))))]) ∧
(((Ff 1264 (A ++ [x40, x60, x70, (xI (x72.r x60.i x70.i).i), x71, x72, (xI (x80.i + 1)), (mkX (rwSet x81.r v92.i 0 v100) x81.i), (xR (rwSet (rwSet x82.r v100.i (x82.r v100.i (-1)).i v92) v100.i (-1) (xI ((x82.r v100.i (-1)).i + 1))))])).i < (Ff 1264 (A ++ [x40, x60, x70, (xI (x72.r x60.i x70.i).i), x71, x72, x80, x81, x82])).i) ∧
(0 < (Ff 1264 (A ++ [x40, x60, x70, (xI (x72.r x60.i x70.i).i), x71, x72, x80, x81, x82])).i))))))))) ∧
((¬ ((x81.r v92.i 0).i < v100.i)) →
(Px 1264 (A ++ [x40, x60, x70, (xI (x72.r x60.i x70.i).i), x71, x72, (xI (x80.i + 1)), x81, x82]) ∧
(((Ff 1264 (A ++ [x40, x60, x70, (xI (x72.r x60.i x70.i).i), x71, x72, (xI (x80.i + 1)), x81, x82])).i < (Ff 1264 (A ++ [x40, x60, x70, (xI (x72.r x60.i x70.i).i), x71, x72, x80, x81, x82])).i) ∧
(0 < (Ff 1264 (A ++ [x40, x60, x70, (xI (x72.r x60.i x70.i).i), x71, x72, x80, x81, x82])).i)))))))))) ∧
((¬ (v94.b = true)) →
(Px 1264 (A ++ [x40, x60, x70, (xI (x72.r x60.i x70.i).i), x71, x72, (xI (x80.i + 1)), x81, x82]) ∧
(((Ff 1264 (A ++ [x40, x60, x70, (xI (x72.r x60.i x70.i).i), x71, x72, (xI (x80.i + 1)), x81, x82])).i < (Ff 1264 (A ++ [x40, x60, x70, (xI (x72.r x60.i x70.i).i), x71, x72, x80, x81, x82])).i) ∧
(0 < (Ff 1264 (A ++ [x40, x60, x70, (xI (x72.r x60.i x70.i).i), x71, x72, x80, x81, x82])).i)))))))))))) ∧
((¬ (x80.i < 6)) →
(Px 1263 (A ++ [x40, x60, (xI (x70.i + 1)), x81, x82]) ∧
(((Ff 1263 (A ++ [x40, x60, (xI (x70.i + 1)), x81, x82])).i < (Ff 1263 (A ++ [x40, x60, x70, x71, x72])).i) ∧
(0 < (Ff 1263 (A ++ [x40, x60, x70, x71, x72])).i)))))))))))))))))) ∧
((¬ (x70.i < (x72.r x60.i (-1)).i)) →
(Px 1262 (A ++ [x40, (xI (x60.i - 1)), x71, x72]) ∧
(((Ff 1262 (A ++ [x40, (xI (x60.i - 1)), x71, x72])).i < (Ff 1262 (A ++ [x40, x60, x61, x62])).i) ∧
(0 < (Ff 1262 (A ++ [x40, x60, x61, x62])).i))))))))))))) ∧
((¬ (0 < x60.i)) →
(Px 1260 (A ++ [xI 1, x61]) ∧
(((Ff 1260 (A ++ [xI 1, x61])).i < (Ff 1260 (A ++ [x40, x41])).i) ∧
(0 < (Ff 1260 (A ++ [x40, x41])).i)))))))))))))))))))))) ∧
(((x40.i = 1) →
(Px 1261 (A ++ [x40, xI 0, x41, (xR (rwRep []))]) ∧
(∀ x50 : X, (∀ x51 : X, (∀ x52 : X, (((0 ≤ x50.i) ∧ (x50.i ≤ 2097152)) →
((0 ≤ x51.i ∧ x51.i ≤ 2097152 ∧ RowOk SLw x51.r (x51.i).toNat) →
(Px 1261 (A ++ [x40, x50, x51, x52]) →
(((x50.i < x41.i) →
(Px 1235 [xI x0, xI x1, xI x2, xI x3, xI x4, xI x5, x6, x8, x31, x32, xI x50.i] ∧
(let v134 := Ff 1223 [xI x0, xI x1, xI x2, xI x3, xI x4, xI x5, x6, x8, x31, x32, xI x50.i]; (((v134.b = true) →
(Px 1236 [xI x0, xI x1, xI x2, xI x3, xI x4, xI x5, x6, x8, x31, x32, xI x50.i, xI 1] ∧
((x50.i < x51.i) ∧
(let v139 := Ff 1225 [xI x0, xI x1, xI x2, xI x3, xI x4, xI x5, x6, x8, x31, x32, xI x50.i, xI 1]; ((((x51.r x50.i 1).i < v139.i) →
((x50.i < x51.i) ∧
(((x52.r v139.i (-1)).i < 100000000) ∧
(Px 1261 (A ++ [x40, (xI (x50.i + 1)), (mkX (rwSet x51.r x50.i 1 v139) x51.i), (xR (rwSet (rwSet x52.r v139.i (x52.r v139.i (-1)).i x50) v139.i (-1) (xI ((x52.r v139.i (-1)).i + 1))))]) ∧
(((Ff 1261 (A ++ [x40, (xI (x50.i + 1)), (mkX (rwSet x51.r x50.i 1 v139) x51.i), (xR (rwSet (rwSet x52.r v139.i (x52.r v139.i (-1)).i x50) v139.i (-1) (xI ((x52.r v139.i (-1)).i + 1))))])).i < (Ff 1261 (A ++ [x40, x50, x51, x52])).i) ∧
(0 < (Ff 1261 (A ++ [x40, x50, x51, x52])).i)))))) ∧
((¬ ((x51.r x50.i 1).i < v139.i)) →
(Px 1261 (A ++ [x40, (xI (x50.i + 1)), x51, x52]) ∧
(((Ff 1261 (A ++ [x40, (xI (x50.i + 1)), x51, x52])).i < (Ff 1261 (A ++ [x40, x50, x51, x52])).i) ∧
(0 < (Ff 1261 (A ++ [x40, x50, x51, x52])).i))))))))) ∧
((¬ (v134.b = true)) →
(Px 1261 (A ++ [x40, (xI (x50.i + 1)), x51, x52]) ∧
(((Ff 1261 (A ++ [x40, (xI (x50.i + 1)), x51, x52])).i < (Ff 1261 (A ++ [x40, x50, x51, x52])).i) ∧
(0 < (Ff 1261 (A ++ [x40, x50, x51, x52])).i)))))))) ∧
((¬ (x50.i < x41.i)) →
(Px 1262 (A ++ [x40, xI 15, x51, x52]) ∧
(∀ x60 : X, (∀ x61 : X, (∀ x62 : X, (((0 ≤ x60.i) ∧ (x60.i ≤ 15)) →
((0 ≤ x61.i ∧ x61.i ≤ 2097152 ∧ RowOk SLw x61.r (x61.i).toNat) →
(Px 1262 (A ++ [x40, x60, x61, x62]) →
(((0 < x60.i) →
(Px 1263 (A ++ [x40, x60, xI 0, x61, x62]) ∧
(∀ x70 : X, (∀ x71 : X, (∀ x72 : X, (((0 ≤ x70.i) ∧ (x70.i ≤ 100000000)) →
((0 ≤ x71.i ∧ x71.i ≤ 2097152 ∧ RowOk SLw x71.r (x71.i).toNat) →
(Px 1263 (A ++ [x40, x60, x70, x71, x72]) →
(((x70.i < (x72.r x60.i (-1)).i) →
((x70.i < (x72.r x60.i (-1)).i) ∧
((0 ≤ (x72.r x60.i x70.i).i) ∧
(((x72.r x60.i x70.i).i < x71.i) ∧
(((¬ ((x71.r (x72.r x60.i x70.i).i 1).i = x60.i)) →
(Px 1263 (A ++ [x40, x60, (xI (x70.i + 1)), x71, x72]) ∧
(((Ff 1263 (A ++ [x40, x60, (xI (x70.i + 1)), x71, x72])).i < (Ff 1263 (A ++ [x40, x60, x70, x71, x72])).i) ∧
(0 < (Ff 1263 (A ++ [x40, x60, x70, x71, x72])).i)))) ∧
(((x71.r (x72.r x60.i x70.i).i 1).i = x60.i) →
(Px 1264 (A ++ [x40, x60, x70, (xI (x72.r x60.i x70.i).i), x71, x72, xI 0, x71, x72]) ∧
(∀ x80 : X, (∀ x81 : X, (∀ x82 : X, (((0 ≤ x80.i) ∧ (x80.i ≤ 6)) →
((0 ≤ x81.i ∧ x81.i ≤ 2097152 ∧ RowOk SLw x81.r (x81.i).toNat) →
(Px 1264 (A ++ [x40, x60, x70, (xI (x72.r x60.i x70.i).i), x71, x72, x80, x81, x82]) →
(((x80.i < 6) →
(let v179 := Ff 270 [xI x0, xI x1, xI x2, xI x3, xI x4, xI x5, (xI (x72.r x60.i x70.i).i)]; let v180 := Ff 271 [xI x0, xI x1, xI x2, xI x3, xI x4, xI x5, (xI (x72.r x60.i x70.i).i)]; let v181 := Ff 272 [xI x0, xI x1, xI x2, xI x3, xI x4, xI x5, (xI (x72.r x60.i x70.i).i)]; let v182 := Ff 201 [(xI (v179.i + (bif (decide (x80.i = 5)) then 0 else (bif (decide (x80.i = 4)) then 0 else (bif (decide (x80.i = 3)) then 0 else (bif (decide (x80.i = 2)) then 0 else (bif (decide (x80.i = 1)) then (1 : Int) else (-1)))))))), (xI (v180.i + (bif (decide (x80.i = 5)) then 0 else (bif (decide (x80.i = 4)) then 0 else (bif (decide (x80.i = 3)) then 1 else (bif (decide (x80.i = 2)) then ((-1) : Int) else 0)))))), (xI (v181.i + (bif (decide (x80.i = 5)) then 1 else (bif (decide (x80.i = 4)) then ((-1) : Int) else 0)))), xI x0, xI x1, xI x2, xI x3, xI x4, xI x5]; (((¬ (v182.b = true)) →
(Px 1264 (A ++ [x40, x60, x70, (xI (x72.r x60.i x70.i).i), x71, x72, (xI (x80.i + 1)), x81, x82]) ∧
(((Ff 1264 (A ++ [x40, x60, x70, (xI (x72.r x60.i x70.i).i), x71, x72, (xI (x80.i + 1)), x81, x82])).i < (Ff 1264 (A ++ [x40, x60, x70, (xI (x72.r x60.i x70.i).i), x71, x72, x80, x81, x82])).i) ∧
(0 < (Ff 1264 (A ++ [x40, x60, x70, (xI (x72.r x60.i x70.i).i), x71, x72, x80, x81, x82])).i)))) ∧
((v182.b = true) →
(let v188 := Ff 260 [xI x0, xI x1, xI x2, xI x3, xI x4, xI x5, (xI (v179.i + (bif (decide (x80.i = 5)) then 0 else (bif (decide (x80.i = 4)) then 0 else (bif (decide (x80.i = 3)) then 0 else (bif (decide (x80.i = 2)) then 0 else (bif (decide (x80.i = 1)) then (1 : Int) else (-1)))))))), (xI (v180.i + (bif (decide (x80.i = 5)) then 0 else (bif (decide (x80.i = 4)) then 0 else (bif (decide (x80.i = 3)) then 1 else (bif (decide (x80.i = 2)) then ((-1) : Int) else 0)))))), (xI (v181.i + (bif (decide (x80.i = 5)) then 1 else (bif (decide (x80.i = 4)) then ((-1) : Int) else 0))))]; (Px 1235 [xI x0, xI x1, xI x2, xI x3, xI x4, xI x5, x6, x8, x31, x32, xI v188.i] ∧
(let v190 := Ff 1223 [xI x0, xI x1, xI x2, xI x3, xI x4, xI x5, x6, x8, x31, x32, xI v188.i]; (((v190.b = true) →
(Px 1236 [xI x0, xI x1, xI x2, xI x3, xI x4, xI x5, x6, x8, x31, x32, xI v188.i, xI 1, xI x60.i, xI x80.i] ∧
((0 ≤ v188.i) ∧
((v188.i < x81.i) ∧
(let v196 := Ff 1224 [xI x0, xI x1, xI x2, xI x3, xI x4, xI x5, x6, x8, x31, x32, xI v188.i, xI 1, xI x60.i, xI x80.i]; ((((x81.r v188.i 1).i < v196.i) →
((0 ≤ v188.i) ∧
((v188.i < x81.i) ∧
((0 ≤ v196.i) ∧
(((x82.r v196.i (-1)).i < 100000000) ∧
((0 ≤ v196.i) ∧
(Px 1264 (A ++ [x40, x60, x70, (xI (x72.r x60.i x70.i).i), x71, x72, (xI (x80.i + 1)), (mkX (rwSet x81.r v188.i 1 v196) x81.i), (xR (rwSet (rwSet x82.r v196.i (x82.r v196.i (-1)).i v188) v196.i (-1) (xI ((x82.r v196.i (-1)).i + 1))))]) ∧
(((Ff 1264 (A ++ [x40, x60, x70, (xI (x72.r x60.i x70.i).i), x71, x72, (xI (x80.i + 1)), (mkX (rwSet x81.r v188.i 1 v196) x81.i), (xR (rwSet (rwSet x82.r v196.i (x82.r v196.i (-1)).i v188) v196.i (-1) (xI ((x82.r v196.i (-1)).i + 1))))])).i < (Ff 1264 (A ++ [x40, x60, x70, (xI (x72.r x60.i x70.i).i), x71, x72, x80, x81, x82])).i) ∧
(0 < (Ff 1264 (A ++ [x40, x60, x70, (xI (x72.r x60.i x70.i).i), x71, x72, x80, x81, x82])).i))))))))) ∧
((¬ ((x81.r v188.i 1).i < v196.i)) →
(Px 1264 (A ++ [x40, x60, x70, (xI (x72.r x60.i x70.i).i), x71, x72, (xI (x80.i + 1)), x81, x82]) ∧
(((Ff 1264 (A ++ [x40, x60, x70, (xI (x72.r x60.i x70.i).i), x71, x72, (xI (x80.i + 1)), x81, x82])).i < (Ff 1264 (A ++ [x40, x60, x70, (xI (x72.r x60.i x70.i).i), x71, x72, x80, x81, x82])).i) ∧
(0 < (Ff 1264 (A ++ [x40, x60, x70, (xI (x72.r x60.i x70.i).i), x71, x72, x80, x81, x82])).i)))))))))) ∧
((¬ (v190.b = true)) →
(Px 1264 (A ++ [x40, x60, x70, (xI (x72.r x60.i x70.i).i), x71, x72, (xI (x80.i + 1)), x81, x82]) ∧
(((Ff 1264 (A ++ [x40, x60, x70, (xI (x72.r x60.i x70.i).i), x71, x72, (xI (x80.i + 1)), x81, x82])).i < (Ff 1264 (A ++ [x40, x60, x70, (xI (x72.r x60.i x70.i).i), x71, x72, x80, x81, x82])).i) ∧
(0 < (Ff 1264 (A ++ [x40, x60, x70, (xI (x72.r x60.i x70.i).i), x71, x72, x80, x81, x82])).i)))))))))))) ∧
((¬ (x80.i < 6)) →
(Px 1263 (A ++ [x40, x60, (xI (x70.i + 1)), x81, x82]) ∧
(((Ff 1263 (A ++ [x40, x60, (xI (x70.i + 1)), x81, x82])).i < (Ff 1263 (A ++ [x40, x60, x70, x71, x72])).i) ∧
(0 < (Ff 1263 (A ++ [x40, x60, x70, x71, x72])).i)))))))))))))))))) ∧
((¬ (x70.i < (x72.r x60.i (-1)).i)) →
(Px 1262 (A ++ [x40, (xI (x60.i - 1)), x71, x72]) ∧
(((Ff 1262 (A ++ [x40, (xI (x60.i - 1)), x71, x72])).i < (Ff 1262 (A ++ [x40, x60, x61, x62])).i) ∧
(0 < (Ff 1262 (A ++ [x40, x60, x61, x62])).i))))))))))))) ∧
((¬ (0 < x60.i)) →
(Px 1260 (A ++ [xI 2, x61]) ∧
(((Ff 1260 (A ++ [xI 2, x61])).i < (Ff 1260 (A ++ [x40, x41])).i) ∧
(0 < (Ff 1260 (A ++ [x40, x41])).i)))))))))))))))))))))) ∧
(((x40.i = 2) →
(Px 1261 (A ++ [x40, xI 0, x41, (xR (rwRep []))]) ∧
(∀ x50 : X, (∀ x51 : X, (∀ x52 : X, (((0 ≤ x50.i) ∧ (x50.i ≤ 2097152)) →
((0 ≤ x51.i ∧ x51.i ≤ 2097152 ∧ RowOk SLw x51.r (x51.i).toNat) →
(Px 1261 (A ++ [x40, x50, x51, x52]) →
(((x50.i < x41.i) →
(Px 1235 [xI x0, xI x1, xI x2, xI x3, xI x4, xI x5, x6, x8, x31, x32, xI x50.i] ∧
(let v230 := Ff 1223 [xI x0, xI x1, xI x2, xI x3, xI x4, xI x5, x6, x8, x31, x32, xI x50.i]; (((v230.b = true) →
(Px 1236 [xI x0, xI x1, xI x2, xI x3, xI x4, xI x5, x6, x8, x31, x32, xI x50.i, xI 2] ∧
((x50.i < x51.i) ∧
(let v235 := Ff 1225 [xI x0, xI x1, xI x2, xI x3, xI x4, xI x5, x6, x8, x31, x32, xI x50.i, xI 2]; ((((x51.r x50.i 2).i < v235.i) →
((x50.i < x51.i) ∧
(((x52.r v235.i (-1)).i < 100000000) ∧
(Px 1261 (A ++ [x40, (xI (x50.i + 1)), (mkX (rwSet x51.r x50.i 2 v235) x51.i), (xR (rwSet (rwSet x52.r v235.i (x52.r v235.i (-1)).i x50) v235.i (-1) (xI ((x52.r v235.i (-1)).i + 1))))]) ∧
(((Ff 1261 (A ++ [x40, (xI (x50.i + 1)), (mkX (rwSet x51.r x50.i 2 v235) x51.i), (xR (rwSet (rwSet x52.r v235.i (x52.r v235.i (-1)).i x50) v235.i (-1) (xI ((x52.r v235.i (-1)).i + 1))))])).i < (Ff 1261 (A ++ [x40, x50, x51, x52])).i) ∧
(0 < (Ff 1261 (A ++ [x40, x50, x51, x52])).i)))))) ∧
((¬ ((x51.r x50.i 2).i < v235.i)) →
(Px 1261 (A ++ [x40, (xI (x50.i + 1)), x51, x52]) ∧
(((Ff 1261 (A ++ [x40, (xI (x50.i + 1)), x51, x52])).i < (Ff 1261 (A ++ [x40, x50, x51, x52])).i) ∧
(0 < (Ff 1261 (A ++ [x40, x50, x51, x52])).i))))))))) ∧
((¬ (v230.b = true)) →
(Px 1261 (A ++ [x40, (xI (x50.i + 1)), x51, x52]) ∧
(((Ff 1261 (A ++ [x40, (xI (x50.i + 1)), x51, x52])).i < (Ff 1261 (A ++ [x40, x50, x51, x52])).i) ∧
(0 < (Ff 1261 (A ++ [x40, x50, x51, x52])).i)))))))) ∧
((¬ (x50.i < x41.i)) →
(Px 1262 (A ++ [x40, xI 15, x51, x52]) ∧
(∀ x60 : X, (∀ x61 : X, (∀ x62 : X, (((0 ≤ x60.i) ∧ (x60.i ≤ 15)) →
((0 ≤ x61.i ∧ x61.i ≤ 2097152 ∧ RowOk SLw x61.r (x61.i).toNat) →
(Px 1262 (A ++ [x40, x60, x61, x62]) →
(((0 < x60.i) →
(Px 1263 (A ++ [x40, x60, xI 0, x61, x62]) ∧
(∀ x70 : X, (∀ x71 : X, (∀ x72 : X, (((0 ≤ x70.i) ∧ (x70.i ≤ 100000000)) →
((0 ≤ x71.i ∧ x71.i ≤ 2097152 ∧ RowOk SLw x71.r (x71.i).toNat) →
(Px 1263 (A ++ [x40, x60, x70, x71, x72]) →
(((x70.i < (x72.r x60.i (-1)).i) →
((x70.i < (x72.r x60.i (-1)).i) ∧
((0 ≤ (x72.r x60.i x70.i).i) ∧
(((x72.r x60.i x70.i).i < x71.i) ∧
(((¬ ((x71.r (x72.r x60.i x70.i).i 2).i = x60.i)) →
(Px 1263 (A ++ [x40, x60, (xI (x70.i + 1)), x71, x72]) ∧
(((Ff 1263 (A ++ [x40, x60, (xI (x70.i + 1)), x71, x72])).i < (Ff 1263 (A ++ [x40, x60, x70, x71, x72])).i) ∧
(0 < (Ff 1263 (A ++ [x40, x60, x70, x71, x72])).i)))) ∧
(((x71.r (x72.r x60.i x70.i).i 2).i = x60.i) →
(Px 1264 (A ++ [x40, x60, x70, (xI (x72.r x60.i x70.i).i), x71, x72, xI 0, x71, x72]) ∧
(∀ x80 : X, (∀ x81 : X, (∀ x82 : X, (((0 ≤ x80.i) ∧ (x80.i ≤ 6)) →
((0 ≤ x81.i ∧ x81.i ≤ 2097152 ∧ RowOk SLw x81.r (x81.i).toNat) →
(Px 1264 (A ++ [x40, x60, x70, (xI (x72.r x60.i x70.i).i), x71, x72, x80, x81, x82]) →
(((x80.i < 6) →
(let v275 := Ff 270 [xI x0, xI x1, xI x2, xI x3, xI x4, xI x5, (xI (x72.r x60.i x70.i).i)]; let v276 := Ff 271 [xI x0, xI x1, xI x2, xI x3, xI x4, xI x5, (xI (x72.r x60.i x70.i).i)]; let v277 := Ff 272 [xI x0, xI x1, xI x2, xI x3, xI x4, xI x5, (xI (x72.r x60.i x70.i).i)]; let v278 := Ff 201 [(xI (v275.i + (bif (decide (x80.i = 5)) then 0 else (bif (decide (x80.i = 4)) then 0 else (bif (decide (x80.i = 3)) then 0 else (bif (decide (x80.i = 2)) then 0 else (bif (decide (x80.i = 1)) then (1 : Int) else (-1)))))))), (xI (v276.i + (bif (decide (x80.i = 5)) then 0 else (bif (decide (x80.i = 4)) then 0 else (bif (decide (x80.i = 3)) then 1 else (bif (decide (x80.i = 2)) then ((-1) : Int) else 0)))))), (xI (v277.i + (bif (decide (x80.i = 5)) then 1 else (bif (decide (x80.i = 4)) then ((-1) : Int) else 0)))), xI x0, xI x1, xI x2, xI x3, xI x4, xI x5]; (((¬ (v278.b = true)) →
(Px 1264 (A ++ [x40, x60, x70, (xI (x72.r x60.i x70.i).i), x71, x72, (xI (x80.i + 1)), x81, x82]) ∧
(((Ff 1264 (A ++ [x40, x60, x70, (xI (x72.r x60.i x70.i).i), x71, x72, (xI (x80.i + 1)), x81, x82])).i < (Ff 1264 (A ++ [x40, x60, x70, (xI (x72.r x60.i x70.i).i), x71, x72, x80, x81, x82])).i) ∧
(0 < (Ff 1264 (A ++ [x40, x60, x70, (xI (x72.r x60.i x70.i).i), x71, x72, x80, x81, x82])).i)))) ∧
((v278.b = true) →
(let v284 := Ff 260 [xI x0, xI x1, xI x2, xI x3, xI x4, xI x5, (xI (v275.i + (bif (decide (x80.i = 5)) then 0 else (bif (decide (x80.i = 4)) then 0 else (bif (decide (x80.i = 3)) then 0 else (bif (decide (x80.i = 2)) then 0 else (bif (decide (x80.i = 1)) then (1 : Int) else (-1)))))))), (xI (v276.i + (bif (decide (x80.i = 5)) then 0 else (bif (decide (x80.i = 4)) then 0 else (bif (decide (x80.i = 3)) then 1 else (bif (decide (x80.i = 2)) then ((-1) : Int) else 0)))))), (xI (v277.i + (bif (decide (x80.i = 5)) then 1 else (bif (decide (x80.i = 4)) then ((-1) : Int) else 0))))]; (Px 1235 [xI x0, xI x1, xI x2, xI x3, xI x4, xI x5, x6, x8, x31, x32, xI v284.i] ∧
(let v286 := Ff 1223 [xI x0, xI x1, xI x2, xI x3, xI x4, xI x5, x6, x8, x31, x32, xI v284.i]; (((v286.b = true) →
(Px 1236 [xI x0, xI x1, xI x2, xI x3, xI x4, xI x5, x6, x8, x31, x32, xI v284.i, xI 2, xI x60.i, xI x80.i] ∧
((0 ≤ v284.i) ∧
((v284.i < x81.i) ∧
(let v292 := Ff 1224 [xI x0, xI x1, xI x2, xI x3, xI x4, xI x5, x6, x8, x31, x32, xI v284.i, xI 2, xI x60.i, xI x80.i]; ((((x81.r v284.i 2).i < v292.i) →
((0 ≤ v284.i) ∧
((v284.i < x81.i) ∧
((0 ≤ v292.i) ∧
(((x82.r v292.i (-1)).i < 100000000) ∧
((0 ≤ v292.i) ∧
(Px 1264 (A ++ [x40, x60, x70, (xI (x72.r x60.i x70.i).i), x71, x72, (xI (x80.i + 1)), (mkX (rwSet x81.r v284.i 2 v292) x81.i), (xR (rwSet (rwSet x82.r v292.i (x82.r v292.i (-1)).i v284) v292.i (-1) (xI ((x82.r v292.i (-1)).i + 1))))]) ∧
(((Ff 1264 (A ++ [x40, x60, x70, (xI (x72.r x60.i x70.i).i), x71, x72, (xI (x80.i + 1)), (mkX (rwSet x81.r v284.i 2 v292) x81.i), (xR (rwSet (rwSet x82.r v292.i (x82.r v292.i (-1)).i v284) v292.i (-1) (xI ((x82.r v292.i (-1)).i + 1))))])).i < (Ff 1264 (A ++ [x40, x60, x70, (xI (x72.r x60.i x70.i).i), x71, x72, x80, x81, x82])).i) ∧
(0 < (Ff 1264 (A ++ [x40, x60, x70, (xI (x72.r x60.i x70.i).i), x71, x72, x80, x81, x82])).i))))))))) ∧
((¬ ((x81.r v284.i 2).i < v292.i)) →
(Px 1264 (A ++ [x40, x60, x70, (xI (x72.r x60.i x70.i).i), x71, x72, (xI (x80.i + 1)), x81, x82]) ∧
(((Ff 1264 (A ++ [x40, x60, x70, (xI (x72.r x60.i x70.i).i), x71, x72, (xI (x80.i + 1)), x81, x82])).i < (Ff 1264 (A ++ [x40, x60, x70, (xI (x72.r x60.i x70.i).i), x71, x72, x80, x81, x82])).i) ∧
(0 < (Ff 1264 (A ++ [x40, x60, x70, (xI (x72.r x60.i x70.i).i), x71, x72, x80, x81, x82])).i)))))))))) ∧
((¬ (v286.b = true)) →
(Px 1264 (A ++ [x40, x60, x70, (xI (x72.r x60.i x70.i).i), x71, x72, (xI (x80.i + 1)), x81, x82]) ∧
(((Ff 1264 (A ++ [x40, x60, x70, (xI (x72.r x60.i x70.i).i), x71, x72, (xI (x80.i + 1)), x81, x82])).i < (Ff 1264 (A ++ [x40, x60, x70, (xI (x72.r x60.i x70.i).i), x71, x72, x80, x81, x82])).i) ∧
(0 < (Ff 1264 (A ++ [x40, x60, x70, (xI (x72.r x60.i x70.i).i), x71, x72, x80, x81, x82])).i)))))))))))) ∧
((¬ (x80.i < 6)) →
(Px 1263 (A ++ [x40, x60, (xI (x70.i + 1)), x81, x82]) ∧
(((Ff 1263 (A ++ [x40, x60, (xI (x70.i + 1)), x81, x82])).i < (Ff 1263 (A ++ [x40, x60, x70, x71, x72])).i) ∧
(0 < (Ff 1263 (A ++ [x40, x60, x70, x71, x72])).i)))))))))))))))))) ∧
((¬ (x70.i < (x72.r x60.i (-1)).i)) →
(Px 1262 (A ++ [x40, (xI (x60.i - 1)), x71, x72]) ∧
(((Ff 1262 (A ++ [x40, (xI (x60.i - 1)), x71, x72])).i < (Ff 1262 (A ++ [x40, x60, x61, x62])).i) ∧
(0 < (Ff 1262 (A ++ [x40, x60, x61, x62])).i))))))))))))) ∧
((¬ (0 < x60.i)) →
(Px 1260 (A ++ [xI 3, x61]) ∧
(((Ff 1260 (A ++ [xI 3, x61])).i < (Ff 1260 (A ++ [x40, x41])).i) ∧
(0 < (Ff 1260 (A ++ [x40, x41])).i)))))))))))))))))))))) ∧
(((x40.i = 3) →
(Px 1261 (A ++ [x40, xI 0, x41, (xR (rwRep []))]) ∧
(∀ x50 : X, (∀ x51 : X, (∀ x52 : X, (((0 ≤ x50.i) ∧ (x50.i ≤ 2097152)) →
((0 ≤ x51.i ∧ x51.i ≤ 2097152 ∧ RowOk SLw x51.r (x51.i).toNat) →
(Px 1261 (A ++ [x40, x50, x51, x52]) →
(((x50.i < x41.i) →
(Px 1235 [xI x0, xI x1, xI x2, xI x3, xI x4, xI x5, x6, x8, x31, x32, xI x50.i] ∧
(let v326 := Ff 1223 [xI x0, xI x1, xI x2, xI x3, xI x4, xI x5, x6, x8, x31, x32, xI x50.i]; (((v326.b = true) →
(Px 1236 [xI x0, xI x1, xI x2, xI x3, xI x4, xI x5, x6, x8, x31, x32, xI x50.i, xI 3] ∧
((x50.i < x51.i) ∧
(let v331 := Ff 1225 [xI x0, xI x1, xI x2, xI x3, xI x4, xI x5, x6, x8, x31, x32, xI x50.i, xI 3]; ((((x51.r x50.i 3).i < v331.i) →
((x50.i < x51.i) ∧
(((x52.r v331.i (-1)).i < 100000000) ∧
(Px 1261 (A ++ [x40, (xI (x50.i + 1)), (mkX (rwSet x51.r x50.i 3 v331) x51.i), (xR (rwSet (rwSet x52.r v331.i (x52.r v331.i (-1)).i x50) v331.i (-1) (xI ((x52.r v331.i (-1)).i + 1))))]) ∧
(((Ff 1261 (A ++ [x40, (xI (x50.i + 1)), (mkX (rwSet x51.r x50.i 3 v331) x51.i), (xR (rwSet (rwSet x52.r v331.i (x52.r v331.i (-1)).i x50) v331.i (-1) (xI ((x52.r v331.i (-1)).i + 1))))])).i < (Ff 1261 (A ++ [x40, x50, x51, x52])).i) ∧
(0 < (Ff 1261 (A ++ [x40, x50, x51, x52])).i)))))) ∧
((¬ ((x51.r x50.i 3).i < v331.i)) →
(Px 1261 (A ++ [x40, (xI (x50.i + 1)), x51, x52]) ∧
(((Ff 1261 (A ++ [x40, (xI (x50.i + 1)), x51, x52])).i < (Ff 1261 (A ++ [x40, x50, x51, x52])).i) ∧
(0 < (Ff 1261 (A ++ [x40, x50, x51, x52])).i))))))))) ∧
((¬ (v326.b = true)) →
(Px 1261 (A ++ [x40, (xI (x50.i + 1)), x51, x52]) ∧
(((Ff 1261 (A ++ [x40, (xI (x50.i + 1)), x51, x52])).i < (Ff 1261 (A ++ [x40, x50, x51, x52])).i) ∧
(0 < (Ff 1261 (A ++ [x40, x50, x51, x52])).i)))))))) ∧
((¬ (x50.i < x41.i)) →
(Px 1262 (A ++ [x40, xI 15, x51, x52]) ∧
(∀ x60 : X, (∀ x61 : X, (∀ x62 : X, (((0 ≤ x60.i) ∧ (x60.i ≤ 15)) →
((0 ≤ x61.i ∧ x61.i ≤ 2097152 ∧ RowOk SLw x61.r (x61.i).toNat) →
(Px 1262 (A ++ [x40, x60, x61, x62]) →
(((0 < x60.i) →
(Px 1263 (A ++ [x40, x60, xI 0, x61, x62]) ∧
(∀ x70 : X, (∀ x71 : X, (∀ x72 : X, (((0 ≤ x70.i) ∧ (x70.i ≤ 100000000)) →
((0 ≤ x71.i ∧ x71.i ≤ 2097152 ∧ RowOk SLw x71.r (x71.i).toNat) →
(Px 1263 (A ++ [x40, x60, x70, x71, x72]) →
(((x70.i < (x72.r x60.i (-1)).i) →
((x70.i < (x72.r x60.i (-1)).i) ∧
((0 ≤ (x72.r x60.i x70.i).i) ∧
(((x72.r x60.i x70.i).i < x71.i) ∧
(((¬ ((x71.r (x72.r x60.i x70.i).i 3).i = x60.i)) →
(Px 1263 (A ++ [x40, x60, (xI (x70.i + 1)), x71, x72]) ∧
(((Ff 1263 (A ++ [x40, x60, (xI (x70.i + 1)), x71, x72])).i < (Ff 1263 (A ++ [x40, x60, x70, x71, x72])).i) ∧
(0 < (Ff 1263 (A ++ [x40, x60, x70, x71, x72])).i)))) ∧
(((x71.r (x72.r x60.i x70.i).i 3).i = x60.i) →
(Px 1264 (A ++ [x40, x60, x70, (xI (x72.r x60.i x70.i).i), x71, x72, xI 0, x71, x72]) ∧
(∀ x80 : X, (∀ x81 : X, (∀ x82 : X, (((0 ≤ x80.i) ∧ (x80.i ≤ 6)) →
((0 ≤ x81.i ∧ x81.i ≤ 2097152 ∧ RowOk SLw x81.r (x81.i).toNat) →
(Px 1264 (A ++ [x40, x60, x70, (xI (x72.r x60.i x70.i).i), x71, x72, x80, x81, x82]) →
(((x80.i < 6) →
(let v371 := Ff 270 [xI x0, xI x1, xI x2, xI x3, xI x4, xI x5, (xI (x72.r x60.i x70.i).i)]; let v372 := Ff 271 [xI x0, xI x1, xI x2, xI x3, xI x4, xI x5, (xI (x72.r x60.i x70.i).i)]; let v373 := Ff 272 [xI x0, xI x1, xI x2, xI x3, xI x4, xI x5, (xI (x72.r x60.i x70.i).i)]; let v374 := Ff 201 [(xI (v371.i + (bif (decide (x80.i = 5)) then 0 else (bif (decide (x80.i = 4)) then 0 else (bif (decide (x80.i = 3)) then 0 else (bif (decide (x80.i = 2)) then 0 else (bif (decide (x80.i = 1)) then (1 : Int) else (-1)))))))), (xI (v372.i + (bif (decide (x80.i = 5)) then 0 else (bif (decide (x80.i = 4)) then 0 else (bif (decide (x80.i = 3)) then 1 else (bif (decide (x80.i = 2)) then ((-1) : Int) else 0)))))), (xI (v373.i + (bif (decide (x80.i = 5)) then 1 else (bif (decide (x80.i = 4)) then ((-1) : Int) else 0)))), xI x0, xI x1, xI x2, xI x3, xI x4, xI x5]; (((¬ (v374.b = true)) →
(Px 1264 (A ++ [x40, x60, x70, (xI (x72.r x60.i x70.i).i), x71, x72, (xI (x80.i + 1)), x81, x82]) ∧
(((Ff 1264 (A ++ [x40, x60, x70, (xI (x72.r x60.i x70.i).i), x71, x72, (xI (x80.i + 1)), x81, x82])).i < (Ff 1264 (A ++ [x40, x60, x70, (xI (x72.r x60.i x70.i).i), x71, x72, x80, x81, x82])).i) ∧
(0 < (Ff 1264 (A ++ [x40, x60, x70, (xI (x72.r x60.i x70.i).i), x71, x72, x80, x81, x82])).i)))) ∧
((v374.b = true) →
(let v380 := Ff 260 [xI x0, xI x1, xI x2, xI x3, xI x4, xI x5, (xI (v371.i + (bif (decide (x80.i = 5)) then 0 else (bif (decide (x80.i = 4)) then 0 else (bif (decide (x80.i = 3)) then 0 else (bif (decide (x80.i = 2)) then 0 else (bif (decide (x80.i = 1)) then (1 : Int) else (-1)))))))), (xI (v372.i + (bif (decide (x80.i = 5)) then 0 else (bif (decide (x80.i = 4)) then 0 else (bif (decide (x80.i = 3)) then 1 else (bif (decide (x80.i = 2)) then ((-1) : Int) else 0)))))), (xI (v373.i + (bif (decide (x80.i = 5)) then 1 else (bif (decide (x80.i = 4)) then ((-1) : Int) else 0))))]; (Px 1235 [xI x0, xI x1, xI x2, xI x3, xI x4, xI x5, x6, x8, x31, x32, xI v380.i] ∧
(let v382 := Ff 1223 [xI x0, xI x1, xI x2, xI x3, xI x4, xI x5, x6, x8, x31, x32, xI v380.i]; (((v382.b = true) →
(Px 1236 [xI x0, xI x1, xI x2, xI x3, xI x4, xI x5, x6, x8, x31, x32, xI v380.i, xI 3, xI x60.i, xI x80.i] ∧
((0 ≤ v380.i) ∧
((v380.i < x81.i) ∧
(let v388 := Ff 1224 [xI x0, xI x1, xI x2, xI x3, xI x4, xI x5, x6, x8, x31, x32, xI v380.i, xI 3, xI x60.i, xI x80.i]; ((((x81.r v380.i 3).i < v388.i) →
((0 ≤ v380.i) ∧
((v380.i < x81.i) ∧
((0 ≤ v388.i) ∧
(((x82.r v388.i (-1)).i < 100000000) ∧
((0 ≤ v388.i) ∧
(Px 1264 (A ++ [x40, x60, x70, (xI (x72.r x60.i x70.i).i), x71, x72, (xI (x80.i + 1)), (mkX (rwSet x81.r v380.i 3 v388) x81.i), (xR (rwSet (rwSet x82.r v388.i (x82.r v388.i (-1)).i v380) v388.i (-1) (xI ((x82.r v388.i (-1)).i + 1))))]) ∧
(((Ff 1264 (A ++ [x40, x60, x70, (xI (x72.r x60.i x70.i).i), x71, x72, (xI (x80.i + 1)), (mkX (rwSet x81.r v380.i 3 v388) x81.i), (xR (rwSet (rwSet x82.r v388.i (x82.r v388.i (-1)).i v380) v388.i (-1) (xI ((x82.r v388.i (-1)).i + 1))))])).i < (Ff 1264 (A ++ [x40, x60, x70, (xI (x72.r x60.i x70.i).i), x71, x72, x80, x81, x82])).i) ∧
(0 < (Ff 1264 (A ++ [x40, x60, x70, (xI (x72.r x60.i x70.i).i), x71, x72, x80, x81, x82])).i))))))))) ∧
((¬ ((x81.r v380.i 3).i < v388.i)) →
(Px 1264 (A ++ [x40, x60, x70, (xI (x72.r x60.i x70.i).i), x71, x72, (xI (x80.i + 1)), x81, x82]) ∧
(((Ff 1264 (A ++ [x40, x60, x70, (xI (x72.r x60.i x70.i).i), x71, x72, (xI (x80.i + 1)), x81, x82])).i < (Ff 1264 (A ++ [x40, x60, x70, (xI (x72.r x60.i x70.i).i), x71, x72, x80, x81, x82])).i) ∧
(0 < (Ff 1264 (A ++ [x40, x60, x70, (xI (x72.r x60.i x70.i).i), x71, x72, x80, x81, x82])).i)))))))))) ∧
((¬ (v382.b = true)) →
(Px 1264 (A ++ [x40, x60, x70, (xI (x72.r x60.i x70.i).i), x71, x72, (xI (x80.i + 1)), x81, x82]) ∧
(((Ff 1264 (A ++ [x40, x60, x70, (xI (x72.r x60.i x70.i).i), x71, x72, (xI (x80.i + 1)), x81, x82])).i < (Ff 1264 (A ++ [x40, x60, x70, (xI (x72.r x60.i x70.i).i), x71, x72, x80, x81, x82])).i) ∧
(0 < (Ff 1264 (A ++ [x40, x60, x70, (xI (x72.r x60.i x70.i).i), x71, x72, x80, x81, x82])).i)))))))))))) ∧
((¬ (x80.i < 6)) →
(Px 1263 (A ++ [x40, x60, (xI (x70.i + 1)), x81, x82]) ∧
(((Ff 1263 (A ++ [x40, x60, (xI (x70.i + 1)), x81, x82])).i < (Ff 1263 (A ++ [x40, x60, x70, x71, x72])).i) ∧
(0 < (Ff 1263 (A ++ [x40, x60, x70, x71, x72])).i)))))))))))))))))) ∧
((¬ (x70.i < (x72.r x60.i (-1)).i)) →
(Px 1262 (A ++ [x40, (xI (x60.i - 1)), x71, x72]) ∧
(((Ff 1262 (A ++ [x40, (xI (x60.i - 1)), x71, x72])).i < (Ff 1262 (A ++ [x40, x60, x61, x62])).i) ∧
(0 < (Ff 1262 (A ++ [x40, x60, x61, x62])).i))))))))))))) ∧
((¬ (0 < x60.i)) →
(Px 1260 (A ++ [xI 4, x61]) ∧
(((Ff 1260 (A ++ [xI 4, x61])).i < (Ff 1260 (A ++ [x40, x41])).i) ∧
(0 < (Ff 1260 (A ++ [x40, x41])).i)))))))))))))))))))))) ∧
 True))))) ∧
((¬ (x40.i < 4)) →
((rowEq SLv (Ff 1201 A) x41.r x41.i 2097152 ∧ RowOk SLv (Ff 1201 A).r (x41.i).toNat) ∧ ((rI 0 (Ff 1202 A).i 0 1) ∧ True)))))))))))))))))))))))
theorem FulAL (x0 x1 x2 x3 x4 x5 : Int) (x6 : X) (x7 : X) (x8 : X) : (ctrR (fun j => Ff j [xI x0, xI x1, xI x2, xI x3, xI x4, xI x5, x6, x7, x8]) cFulA.fs cFulA.res { ρ0 with x := fun j => [xI x0, xI x1, xI x2, xI x3, xI x4, xI x5, x6, x7, x8].getD j (xI 0) } (walkR Tryd.prog (cfZ spFul none [cIn, cIndex, cAt] [cFade, cEmit, cIs, cPass, cOwn, cChL] lpFul sm33) Tryd.f11 600 shFu)) = FulAP x0 x1 x2 x3 x4 x5 x6 x7 x8 := by kernel_rfl
set_option maxHeartbeats 4000000 in
theorem FulAO (x0 x1 x2 x3 x4 x5 : Int) (x6 : X) (x7 : X) (x8 : X) (g0 : -1048575 ≤ x0 ∧ x0 ≤ 1048575) (g1 : -1048575 ≤ x1 ∧ x1 ≤ 1048575) (g2 : -1048575 ≤ x2 ∧ x2 ≤ 1048575) (g3 : -1048575 ≤ x3 ∧ x3 ≤ 1048575) (g4 : -1048575 ≤ x4 ∧ x4 ≤ 1048575) (g5 : -1048575 ≤ x5 ∧ x5 ≤ 1048575) (g6 : 0 ≤ x6.i ∧ x6.i ≤ 2097152 ∧ RowOk SMat x6.r x6.i.toNat) (g7 : 0 ≤ x7.i ∧ x7.i ≤ 9223372036854775807 ∧ RowOk SMt x7.r x7.i.toNat) (g8 : 0 ≤ x8.i ∧ x8.i ≤ 9223372036854775807 ∧ RowOk [.bool] x8.r x8.i.toNat) (gp : Px cFulA.pre.get! [xI x0, xI x1, xI x2, xI x3, xI x4, xI x5, x6, x7, x8]) : FulAP x0 x1 x2 x3 x4 x5 x6 x7 x8 := by
 unfold FulAP
 intro A
 have ok : okC (grX (xI x0) (xI x1) (xI x2) (xI x3) (xI x4) (xI x5) x6) x7 x8 = true := gp
 obtain ⟨gv, ht, hkk, el, hv, hm⟩ := grok g6.1 ok
 have hcs : ∀ j : Int, 0 ≤ j → j < x6.i → (lstX deI x6).getD j.toNat 0 = (x6.r j 0).i := fun j h0 h1 => lxI_at h0 h1
 have e1 : Ff 1201 [xI x0, xI x1, xI x2, xI x3, xI x4, xI x5, x6, x7, x8] = rowF x6.i (fulF (bxI x0 x1 x2 x3 x4 x5) (lstX deI x6) x7 x8) := if_pos ok
 have e2 : (Ff 1202 [xI x0, xI x1, xI x2, xI x3, xI x4, xI x5, x6, x7, x8]).i = 0 := if_pos ok
 intro v0
 refine And.intro ?_ ?_
 ·intro h2
  exact absurd e2 h2
 intro h3
 refine andI ?_ fun o4 => ?_
 ·exact ⟨Int.le_refl _, g6.1, rfl, rfl, fun j hj => absurd hj (by show ¬ (j : Int) < 0; omega)⟩
 intro x30 x31 x32 h5 r6 r7 p8
 obtain ⟨q0, q1, q2, q3, q4⟩ : 0 ≤ x30.i ∧ x30.i ≤ x6.i ∧ x31.i = x30.i ∧ x32.i = x30.i ∧ ∀ j : Nat, (j : Int) < x30.i → scnQ x6 x7 x31 x32 j := p8
 refine And.intro ?_ ?_
 ·intro h10
  refine andI ?_ fun o11 => ?_
  ·omega
  refine andI ?_ fun o12 => ?_
  ·exact ht
  refine andI ?_ fun o13 => ?_
  ·exact ht
  refine andI ?_ fun o14 => ?_
  ·omega
  refine andI ?_ fun o15 => ?_
  ·omega
  intro v16 v17 v18 v19
  refine andI ?_ fun o20 => ?_
  ·exact ⟨by show 0 ≤ x30.i + 1; omega, by show x30.i + 1 ≤ x6.i; omega, by show x31.i + 1 = x30.i + 1; omega, by show x32.i + 1 = x30.i + 1; omega, scn_step q4 q0 q2 q3 rfl rfl rfl rfl⟩
  refine andI ?_ fun o21 => ?_
  ·show x6.i + 1 - (x30.i + 1) < x6.i + 1 - x30.i
   omega
  show 0 < x6.i + 1 - x30.i
  omega
 intro h22
 have hs : ∀ j : Int, 0 ≤ j → j < x6.i → scnQ x6 x7 x31 x32 j := fun j h0 h1 => scn_at q4 h0 (by omega)
 have a31 : ∀ j : Int, j < x6.i → j < x31.i := fun j hj => by omega
 have a32 : ∀ j : Int, j < x6.i → j < x32.i := fun j hj => by omega
 have a8 : ∀ j : Int, j < x6.i → x8.i = 0 ∨ j < x8.i := fun j hj => by omega
 have eo : ∀ i : Int, 0 ≤ i → i < x6.i → ∀ c : Int, 0 ≤ c → c < 4 → ownS (bxI x0 x1 x2 x3 x4 x5) x31 x32 i c = ownB (bxI x0 x1 x2 x3 x4 x5) (lstX deI x6) x7 i c := fun i i0 i1 c h0 h1 => by
  obtain ⟨s0, s1, s2, s3⟩ := hs i i0 i1
  unfold ownS ownB
  rw [hcs _ i0 i1, s0]
  by_cases h3 : c = 3
  ·rw [if_pos h3, if_pos h3]
  ·rw [if_neg h3, if_neg h3]
   have hc : c = 0 ∨ c = 1 ∨ c = 2 := by omega
   rcases hc with rfl | rfl | rfl
   ·exact s1
   ·exact s2
   ·exact s3
 refine andI ?_ fun o23 => ?_
 ·refine ⟨Int.le_refl _, by decide, rfl, fun j q a d e f => ⟨fun hh => ?_, fun _ => ?_⟩⟩
  ·have hh : q < 0 := hh
   omega
  ·have hc : q = 0 ∨ q = 1 ∨ q = 2 ∨ q = 3 := by omega
   rcases hc with rfl | rfl | rfl | rfl <;> rfl
 intro x40 x41 h24 r25 p26
 obtain ⟨c0, c4, c2, c3⟩ : 0 ≤ x40.i ∧ x40.i ≤ 4 ∧ x41.i = x6.i ∧ ∀ j q : Int, 0 ≤ j → j < x6.i → 0 ≤ q → q < 4 → (q < x40.i → lvX x41 j q = fulF (bxI x0 x1 x2 x3 x4 x5) (lstX deI x6) x7 x8 j q) ∧ (x40.i ≤ q → lvX x41 j q = 0) := p26
 refine And.intro ?_ ?_
 ·intro h28
  have c1 : x40.i < 4 := h28
  refine And.intro ?_ ?_
  ·intro h30
   refine andI ?_ fun o31 => ?_
   ·obtain ⟨z0, z1, z2⟩ := com_first (k := x8) (o := x41) (by omega) hv ht c0 c1 fun j q a d e f => c3 j q a (by omega) e f
    exact ⟨z0, Int.le_refl _, g6.1, z1, z2⟩
   intro x50 x51 x52 h32 r33 p34
   obtain ⟨H0, a0, a1, a2, a3⟩ : ComQ (bxI x0 x1 x2 x3 x4 x5) (lstX deI x6) x7 x8 x40.i x51 x52 ∧ 0 ≤ x50.i ∧ x50.i ≤ x6.i ∧ ownQ (bxI x0 x1 x2 x3 x4 x5) (lstX deI x6) x7 x8 x40.i x51 x50.i ∧ celQu (lstX deI x6) x40.i x51 x52 := p34
   have l0 := H0.len
   refine And.intro ?_ ?_
   ·intro h36
    have i1 : x50.i < x6.i := by omega
    refine andI ?_ fun o37 => ?_
    ·exact ⟨a0, a8 _ i1⟩
    intro v38
    refine And.intro ?_ ?_
    ·intro h40
     refine andI ?_ fun o41 => ?_
     ·exact ⟨a0, a31 _ i1, a32 _ i1⟩
     refine andI ?_ fun o42 => ?_
     ·omega
     intro v43
     have e43 : v43.i = ownB (bxI x0 x1 x2 x3 x4 x5) (lstX deI x6) x7 x50.i x40.i := by rw [h30]; exact eo x50.i a0 i1 0 (by decide) (by decide)
     have r43 := own_rng (b := (bxI x0 x1 x2 x3 x4 x5)) (cs := (lstX deI x6)) (i := x50.i) ht c0 c1
     rw [← e43] at r43
     refine And.intro ?_ ?_
     ·intro h45
      refine andI ?_ fun o46 => ?_
      ·omega
      refine andI ?_ fun o47 => ?_
      ·have hq : qlen x52 v43.i ≤ 15 * (lstX deI x6).length := H0.qle hv ht c0 c1 r43.1 r43.2
       show qlen x52 v43.i < 100000000
       omega
      refine andI ?_ fun o48 => ?_
      ·obtain ⟨z0, z1, z2⟩ := put_own (q := 0) (x := x50) (e := v43) h30 H0 hv ht c0 c1 a0 (by omega) h40 a2 a3 rfl e43 (by rw [h30]; exact h45)
       exact ⟨z0, by show 0 ≤ x50.i + 1; omega, by show x50.i + 1 ≤ x6.i; omega, z1, z2⟩
      refine andI ?_ fun o49 => ?_
      ·show x6.i + 1 - (x50.i + 1) < x6.i + 1 - x50.i
       omega
      show 0 < x6.i + 1 - x50.i
      omega
     intro h50
     refine andI ?_ fun o51 => ?_
     ·refine ⟨H0, by show 0 ≤ x50.i + 1; omega, by show x50.i + 1 ≤ x6.i; omega, own_next a2 fun _ => ?_, a3⟩
      rw [← e43, h30]
      exact Int.not_lt.1 h50
     refine andI ?_ fun o52 => ?_
     ·show x6.i + 1 - (x50.i + 1) < x6.i + 1 - x50.i
      omega
     show 0 < x6.i + 1 - x50.i
     omega
    intro h53
    refine andI ?_ fun o54 => ?_
    ·exact ⟨H0, by show 0 ≤ x50.i + 1; omega, by show x50.i + 1 ≤ x6.i; omega, own_next a2 fun hq => absurd hq h53, a3⟩
    refine andI ?_ fun o55 => ?_
    ·show x6.i + 1 - (x50.i + 1) < x6.i + 1 - x50.i
     omega
    show 0 < x6.i + 1 - x50.i
    omega
   intro h56
   refine andI ?_ fun o57 => ?_
   ·exact ⟨H0, by decide, by decide, fun j a d f g => a2 j a d (by omega) g, lev_first H0 hv ht c0 c1 a3⟩
   intro x60 x61 x62 h58 r59 p60
   obtain ⟨H1, b0, b1, b2, b3⟩ : ComQ (bxI x0 x1 x2 x3 x4 x5) (lstX deI x6) x7 x8 x40.i x61 x62 ∧ 0 ≤ x60.i ∧ x60.i ≤ 15 ∧ ownQ (bxI x0 x1 x2 x3 x4 x5) (lstX deI x6) x7 x8 x40.i x61 x6.i ∧ levQ (bxI x0 x1 x2 x3 x4 x5) (lstX deI x6) x7 x8 x40.i x60.i x61 x62 := p60
   refine And.intro ?_ ?_
   ·intro h62
    refine andI ?_ fun o63 => ?_
    ·exact ⟨H1, h62, b1, Int.le_refl _, H1.nn _, b2, que_first b3⟩
    intro x70 x71 x72 h64 r65 p66
    obtain ⟨H2, d0, d1, d2, d3, d4, d5⟩ : ComQ (bxI x0 x1 x2 x3 x4 x5) (lstX deI x6) x7 x8 x40.i x71 x72 ∧ 0 < x60.i ∧ x60.i ≤ 15 ∧ 0 ≤ x70.i ∧ x70.i ≤ qlen x72 x60.i ∧ ownQ (bxI x0 x1 x2 x3 x4 x5) (lstX deI x6) x7 x8 x40.i x71 x6.i ∧ queQ (bxI x0 x1 x2 x3 x4 x5) (lstX deI x6) x7 x8 x40.i x60.i x70.i x71 x72 := p66
    have l2 := H2.len
    have f2 := H2.left (lev := x60.i) hv ht c0 c1
    refine And.intro ?_ ?_
    ·intro h68
     obtain ⟨⟨t0, t1⟩, t2⟩ := H2.ent x60.i x70.i (by omega) d1 d2 h68
     refine andI ?_ fun o69 => ?_
     ·exact h68
     refine andI ?_ fun o70 => ?_
     ·exact t0
     refine andI ?_ fun o71 => ?_
     ·show qel x72 x60.i x70.i < x71.i
      omega
     refine And.intro ?_ ?_
     ·intro h73
      have hne : ¬ lvX x71 (qel x72 x60.i x70.i) x40.i = x60.i := by rw [h30]; exact h73
      refine andI ?_ fun o74 => ?_
      ·refine ⟨H2, d0, d1, by show 0 ≤ x70.i + 1; omega, ?_, d4, que_skip d5 hne⟩
       have : x70.i < qlen x72 x60.i := h68
       show x70.i + 1 ≤ qlen x72 x60.i
       omega
      refine andI ?_ fun o75 => ?_
      ·show leftQ (lstX deI x6) x40.i x60.i x71 x72 - (x70.i + 1) + 1 < leftQ (lstX deI x6) x40.i x60.i x71 x72 - x70.i + 1
       omega
      show 0 < leftQ (lstX deI x6) x40.i x60.i x71 x72 - x70.i + 1
      omega
     intro h76
     have hi : lvX x71 (qel x72 x60.i x70.i) x40.i = x60.i := by rw [h30]; exact h76
     refine andI ?_ fun o77 => ?_
     ·exact ⟨H2, ⟨d0, d1⟩, ⟨d2, h68⟩, ⟨⟨t0, by show qel x72 x60.i x70.i < x6.i; omega⟩, t2, hi⟩, ⟨Int.le_refl _, by decide⟩, d4, nea_first d5, fun e e0 e1 => absurd e1 (by show ¬ e < 0; omega), Int.le_refl _⟩
     intro x80 x81 x82 h78 r79 p80
     obtain ⟨H3, _, ⟨_, f3⟩, ⟨⟨_, f4⟩, _, f5⟩, ⟨f6, _⟩, f7, f8, f9, f10⟩ : ComQ (bxI x0 x1 x2 x3 x4 x5) (lstX deI x6) x7 x8 x40.i x81 x82 ∧ (0 < x60.i ∧ x60.i ≤ 15) ∧ (0 ≤ x70.i ∧ x70.i < qlen x82 x60.i) ∧ ((0 ≤ qel x72 x60.i x70.i ∧ qel x72 x60.i x70.i < x6.i) ∧ knwX x8 (qel x72 x60.i x70.i) = true ∧ lvX x81 (qel x72 x60.i x70.i) x40.i = x60.i) ∧ (0 ≤ x80.i ∧ x80.i ≤ 6) ∧ ownQ (bxI x0 x1 x2 x3 x4 x5) (lstX deI x6) x7 x8 x40.i x81 x6.i ∧ neaQ (bxI x0 x1 x2 x3 x4 x5) (lstX deI x6) x7 x8 x40.i x60.i x70.i (qel x72 x60.i x70.i) x81 x82 ∧ cloD (bxI x0 x1 x2 x3 x4 x5) (lstX deI x6) x7 x8 x40.i x81 (qel x72 x60.i x70.i) x80.i ∧ leftQ (lstX deI x6) x40.i x60.i x81 x82 ≤ leftQ (lstX deI x6) x40.i x60.i x71 x72 := p80
     have l3 := H3.len
     rw [← el] at f7
     refine And.intro ?_ ?_
     ·intro h82 v83 v84 v85 v86
      refine And.intro ?_ ?_
      ·intro h88
       have hn : ¬ ngbB (bxI x0 x1 x2 x3 x4 x5) x8 ((bxI x0 x1 x2 x3 x4 x5).at (qel x72 x60.i x70.i)) x80.i = true := fun hn => h88 (ngb_ix hv hn).2.1
       refine andI ?_ fun o89 => ?_
       ·exact ⟨H3, ⟨d0, d1⟩, ⟨d2, f3⟩, ⟨⟨t0, f4⟩, t2, f5⟩, ⟨by show 0 ≤ x80.i + 1; omega, by show x80.i + 1 ≤ 6; omega⟩, by rw [← el]; exact f7, f8, clo_next f9 fun hc => absurd hc hn, f10⟩
       refine andI ?_ fun o90 => ?_
       ·show 7 - (x80.i + 1) < 7 - x80.i
        omega
       show 0 < 7 - x80.i
       omega
      intro h91 v92
      have hh : (bxI x0 x1 x2 x3 x4 x5).has (stpP ((bxI x0 x1 x2 x3 x4 x5).at (qel x72 x60.i x70.i)) x80.i) = true := h91
      have e92 : v92.i = (bxI x0 x1 x2 x3 x4 x5).idx (stpP ((bxI x0 x1 x2 x3 x4 x5).at (qel x72 x60.i x70.i)) x80.i) := rfl
      have hj := idx_ok hh
      rw [← e92] at hj
      have j1 : v92.i < x6.i := by omega
      refine andI ?_ fun o93 => ?_
      ·exact ⟨hj.1, a8 _ j1⟩
      intro v94
      refine And.intro ?_ ?_
      ·intro h96
       have hn : ngbB (bxI x0 x1 x2 x3 x4 x5) x8 ((bxI x0 x1 x2 x3 x4 x5).at (qel x72 x60.i x70.i)) x80.i = true := by
        show ((bxI x0 x1 x2 x3 x4 x5).has (stpP ((bxI x0 x1 x2 x3 x4 x5).at (qel x72 x60.i x70.i)) x80.i) && knwX x8 ((bxI x0 x1 x2 x3 x4 x5).idx (stpP ((bxI x0 x1 x2 x3 x4 x5).at (qel x72 x60.i x70.i)) x80.i))) = true
        rw [hh, Bool.true_and]
        exact h96
       refine andI ?_ fun o97 => ?_
       ·exact ⟨hj.1, a31 _ j1, a32 _ j1⟩
       refine andI ?_ fun o98 => ?_
       ·exact hj.1
       refine andI ?_ fun o99 => ?_
       ·omega
       intro v100
       have ev : v100.i = pssB (fadX x7 ((lstX deI x6).getD v92.i.toNat 0)) x40.i (if x80.i = 4 then 5 else 0) x60.i := by
        obtain ⟨s0, _⟩ := hs v92.i hj.1 j1
        rw [hcs _ hj.1 j1, ← s0, h30]
        rfl
       have v15 : v100.i ≤ x60.i := by rw [ev]; exact pss_self (fad_rng ht).1
       refine And.intro ?_ ?_
       ·intro h102
        have hlt : lvX x81 v92.i x40.i < v100.i := by rw [h30]; exact h102
        have vp := (H3.up v92.i hj.1 (by omega)).1
        refine andI ?_ fun o103 => ?_
        ·exact hj.1
        refine andI ?_ fun o104 => ?_
        ·omega
        refine andI ?_ fun o105 => ?_
        ·omega
        refine andI ?_ fun o106 => ?_
        ·have hq : qlen x82 v100.i ≤ 15 * (lstX deI x6).length := H3.qle hv ht c0 c1 (by omega) (by omega)
         show qlen x82 v100.i < 100000000
         omega
        refine andI ?_ fun o107 => ?_
        ·omega
        refine andI ?_ fun o108 => ?_
        ·obtain ⟨z0, z1, z2, z3, z4, z5, z6⟩ := put_nea (q := 0) (J := v92.i) (x := v92) (e := v100) h30 H3 hv ht c0 c1 d0 d1 d2 f3 t0 (by omega) t2 f5 f6 h82 f7 f8 f9 hn e92 rfl ev hlt
         rw [el] at z3
         exact ⟨z0, ⟨d0, d1⟩, ⟨d2, z1⟩, ⟨⟨t0, f4⟩, t2, z2⟩, ⟨by show 0 ≤ x80.i + 1; omega, by show x80.i + 1 ≤ 6; omega⟩, z3, z4, z5, Int.le_trans z6 f10⟩
        refine andI ?_ fun o109 => ?_
        ·show 7 - (x80.i + 1) < 7 - x80.i
         omega
        show 0 < 7 - x80.i
        omega
       intro h110
       refine andI ?_ fun o111 => ?_
       ·refine ⟨H3, ⟨d0, d1⟩, ⟨d2, f3⟩, ⟨⟨t0, f4⟩, t2, f5⟩, ⟨by show 0 ≤ x80.i + 1; omega, by show x80.i + 1 ≤ 6; omega⟩, by rw [← el]; exact f7, f8, clo_next f9 fun _ => ?_, f10⟩
        show pssB (fadX x7 ((lstX deI x6).getD ((bxI x0 x1 x2 x3 x4 x5).idx (stpP ((bxI x0 x1 x2 x3 x4 x5).at (qel x72 x60.i x70.i)) x80.i)).toNat 0)) x40.i (if x80.i = 4 then 5 else 0) (lvX x81 (qel x72 x60.i x70.i) x40.i) ≤ lvX x81 ((bxI x0 x1 x2 x3 x4 x5).idx (stpP ((bxI x0 x1 x2 x3 x4 x5).at (qel x72 x60.i x70.i)) x80.i)) x40.i
        rw [f5, ← e92, ← ev, h30]
        exact Int.not_lt.1 h110
       refine andI ?_ fun o112 => ?_
       ·show 7 - (x80.i + 1) < 7 - x80.i
        omega
       show 0 < 7 - x80.i
       omega
      intro h113
      have hn : ¬ ngbB (bxI x0 x1 x2 x3 x4 x5) x8 ((bxI x0 x1 x2 x3 x4 x5).at (qel x72 x60.i x70.i)) x80.i = true := fun hn => h113 (ngb_ix hv hn).2.2
      refine andI ?_ fun o114 => ?_
      ·exact ⟨H3, ⟨d0, d1⟩, ⟨d2, f3⟩, ⟨⟨t0, f4⟩, t2, f5⟩, ⟨by show 0 ≤ x80.i + 1; omega, by show x80.i + 1 ≤ 6; omega⟩, by rw [← el]; exact f7, f8, clo_next f9 fun hc => absurd hc hn, f10⟩
      refine andI ?_ fun o115 => ?_
      ·show 7 - (x80.i + 1) < 7 - x80.i
       omega
      show 0 < 7 - x80.i
      omega
     intro h116
     rw [show x80.i = 6 by omega] at f9
     refine andI ?_ fun o117 => ?_
     ·exact ⟨H3, d0, d1, by show 0 ≤ x70.i + 1; omega, by show x70.i + 1 ≤ qlen x82 x60.i; omega, by rw [← el]; exact f7, nea_last f8 f9⟩
     refine andI ?_ fun o118 => ?_
     ·show leftQ (lstX deI x6) x40.i x60.i x81 x82 - (x70.i + 1) + 1 < leftQ (lstX deI x6) x40.i x60.i x71 x72 - x70.i + 1
      omega
     show 0 < leftQ (lstX deI x6) x40.i x60.i x71 x72 - x70.i + 1
     omega
    intro h119
    refine andI ?_ fun o120 => ?_
    ·exact ⟨H2, by show 0 ≤ x60.i - 1; omega, by show x60.i - 1 ≤ 15; omega, d4, que_last d5 h119⟩
    refine andI ?_ fun o121 => ?_
    ·show x60.i - 1 + 1 < x60.i + 1
     omega
    show 0 < x60.i + 1
    omega
   intro h122
   refine andI ?_ fun o123 => ?_
   ·rw [show x60.i = 0 by omega] at b3
    have l1 := H1.len
    have hd := lev_done H1 hv ht c0 c1 (by rw [el]; exact b2) b3
    refine ⟨by decide, by decide, by show x61.i = x6.i; omega, fun j q a d e f => ?_⟩
    have hlo := H1.lo j q a (by omega) e f
    have hdj := hd j a (by omega)
    rw [h30] at hlo hdj
    refine ⟨fun hh => ?_, fun hh => hlo.2 (by have hh : 1 ≤ q := hh; omega)⟩
    have hh : q < 1 := hh
    by_cases hq : q = 0
    ·rw [hq]; exact hdj
    ·exact hlo.1 (by omega)
   refine andI ?_ fun o124 => ?_
   ·show 5 - 1 < 5 - x40.i
    omega
   show 0 < 5 - x40.i
   omega
  refine And.intro ?_ ?_
  ·intro h126
   refine andI ?_ fun o127 => ?_
   ·obtain ⟨z0, z1, z2⟩ := com_first (k := x8) (o := x41) (by omega) hv ht c0 c1 fun j q a d e f => c3 j q a (by omega) e f
    exact ⟨z0, Int.le_refl _, g6.1, z1, z2⟩
   intro x50 x51 x52 h128 r129 p130
   obtain ⟨H0, a0, a1, a2, a3⟩ : ComQ (bxI x0 x1 x2 x3 x4 x5) (lstX deI x6) x7 x8 x40.i x51 x52 ∧ 0 ≤ x50.i ∧ x50.i ≤ x6.i ∧ ownQ (bxI x0 x1 x2 x3 x4 x5) (lstX deI x6) x7 x8 x40.i x51 x50.i ∧ celQu (lstX deI x6) x40.i x51 x52 := p130
   have l0 := H0.len
   refine And.intro ?_ ?_
   ·intro h132
    have i1 : x50.i < x6.i := by omega
    refine andI ?_ fun o133 => ?_
    ·exact ⟨a0, a8 _ i1⟩
    intro v134
    refine And.intro ?_ ?_
    ·intro h136
     refine andI ?_ fun o137 => ?_
     ·exact ⟨a0, a31 _ i1, a32 _ i1⟩
     refine andI ?_ fun o138 => ?_
     ·omega
     intro v139
     have e43 : v139.i = ownB (bxI x0 x1 x2 x3 x4 x5) (lstX deI x6) x7 x50.i x40.i := by rw [h126]; exact eo x50.i a0 i1 1 (by decide) (by decide)
     have r43 := own_rng (b := (bxI x0 x1 x2 x3 x4 x5)) (cs := (lstX deI x6)) (i := x50.i) ht c0 c1
     rw [← e43] at r43
     refine And.intro ?_ ?_
     ·intro h141
      refine andI ?_ fun o142 => ?_
      ·omega
      refine andI ?_ fun o143 => ?_
      ·have hq : qlen x52 v139.i ≤ 15 * (lstX deI x6).length := H0.qle hv ht c0 c1 r43.1 r43.2
       show qlen x52 v139.i < 100000000
       omega
      refine andI ?_ fun o144 => ?_
      ·obtain ⟨z0, z1, z2⟩ := put_own (q := 1) (x := x50) (e := v139) h126 H0 hv ht c0 c1 a0 (by omega) h136 a2 a3 rfl e43 (by rw [h126]; exact h141)
       exact ⟨z0, by show 0 ≤ x50.i + 1; omega, by show x50.i + 1 ≤ x6.i; omega, z1, z2⟩
      refine andI ?_ fun o145 => ?_
      ·show x6.i + 1 - (x50.i + 1) < x6.i + 1 - x50.i
       omega
      show 0 < x6.i + 1 - x50.i
      omega
     intro h146
     refine andI ?_ fun o147 => ?_
     ·refine ⟨H0, by show 0 ≤ x50.i + 1; omega, by show x50.i + 1 ≤ x6.i; omega, own_next a2 fun _ => ?_, a3⟩
      rw [← e43, h126]
      exact Int.not_lt.1 h146
     refine andI ?_ fun o148 => ?_
     ·show x6.i + 1 - (x50.i + 1) < x6.i + 1 - x50.i
      omega
     show 0 < x6.i + 1 - x50.i
     omega
    intro h149
    refine andI ?_ fun o150 => ?_
    ·exact ⟨H0, by show 0 ≤ x50.i + 1; omega, by show x50.i + 1 ≤ x6.i; omega, own_next a2 fun hq => absurd hq h149, a3⟩
    refine andI ?_ fun o151 => ?_
    ·show x6.i + 1 - (x50.i + 1) < x6.i + 1 - x50.i
     omega
    show 0 < x6.i + 1 - x50.i
    omega
   intro h152
   refine andI ?_ fun o153 => ?_
   ·exact ⟨H0, by decide, by decide, fun j a d f g => a2 j a d (by omega) g, lev_first H0 hv ht c0 c1 a3⟩
   intro x60 x61 x62 h154 r155 p156
   obtain ⟨H1, b0, b1, b2, b3⟩ : ComQ (bxI x0 x1 x2 x3 x4 x5) (lstX deI x6) x7 x8 x40.i x61 x62 ∧ 0 ≤ x60.i ∧ x60.i ≤ 15 ∧ ownQ (bxI x0 x1 x2 x3 x4 x5) (lstX deI x6) x7 x8 x40.i x61 x6.i ∧ levQ (bxI x0 x1 x2 x3 x4 x5) (lstX deI x6) x7 x8 x40.i x60.i x61 x62 := p156
   refine And.intro ?_ ?_
   ·intro h158
    refine andI ?_ fun o159 => ?_
    ·exact ⟨H1, h158, b1, Int.le_refl _, H1.nn _, b2, que_first b3⟩
    intro x70 x71 x72 h160 r161 p162
    obtain ⟨H2, d0, d1, d2, d3, d4, d5⟩ : ComQ (bxI x0 x1 x2 x3 x4 x5) (lstX deI x6) x7 x8 x40.i x71 x72 ∧ 0 < x60.i ∧ x60.i ≤ 15 ∧ 0 ≤ x70.i ∧ x70.i ≤ qlen x72 x60.i ∧ ownQ (bxI x0 x1 x2 x3 x4 x5) (lstX deI x6) x7 x8 x40.i x71 x6.i ∧ queQ (bxI x0 x1 x2 x3 x4 x5) (lstX deI x6) x7 x8 x40.i x60.i x70.i x71 x72 := p162
    have l2 := H2.len
    have f2 := H2.left (lev := x60.i) hv ht c0 c1
    refine And.intro ?_ ?_
    ·intro h164
     obtain ⟨⟨t0, t1⟩, t2⟩ := H2.ent x60.i x70.i (by omega) d1 d2 h164
     refine andI ?_ fun o165 => ?_
     ·exact h164
     refine andI ?_ fun o166 => ?_
     ·exact t0
     refine andI ?_ fun o167 => ?_
     ·show qel x72 x60.i x70.i < x71.i
      omega
     refine And.intro ?_ ?_
     ·intro h169
      have hne : ¬ lvX x71 (qel x72 x60.i x70.i) x40.i = x60.i := by rw [h126]; exact h169
      refine andI ?_ fun o170 => ?_
      ·refine ⟨H2, d0, d1, by show 0 ≤ x70.i + 1; omega, ?_, d4, que_skip d5 hne⟩
       have : x70.i < qlen x72 x60.i := h164
       show x70.i + 1 ≤ qlen x72 x60.i
       omega
      refine andI ?_ fun o171 => ?_
      ·show leftQ (lstX deI x6) x40.i x60.i x71 x72 - (x70.i + 1) + 1 < leftQ (lstX deI x6) x40.i x60.i x71 x72 - x70.i + 1
       omega
      show 0 < leftQ (lstX deI x6) x40.i x60.i x71 x72 - x70.i + 1
      omega
     intro h172
     have hi : lvX x71 (qel x72 x60.i x70.i) x40.i = x60.i := by rw [h126]; exact h172
     refine andI ?_ fun o173 => ?_
     ·exact ⟨H2, ⟨d0, d1⟩, ⟨d2, h164⟩, ⟨⟨t0, by show qel x72 x60.i x70.i < x6.i; omega⟩, t2, hi⟩, ⟨Int.le_refl _, by decide⟩, d4, nea_first d5, fun e e0 e1 => absurd e1 (by show ¬ e < 0; omega), Int.le_refl _⟩
     intro x80 x81 x82 h174 r175 p176
     obtain ⟨H3, _, ⟨_, f3⟩, ⟨⟨_, f4⟩, _, f5⟩, ⟨f6, _⟩, f7, f8, f9, f10⟩ : ComQ (bxI x0 x1 x2 x3 x4 x5) (lstX deI x6) x7 x8 x40.i x81 x82 ∧ (0 < x60.i ∧ x60.i ≤ 15) ∧ (0 ≤ x70.i ∧ x70.i < qlen x82 x60.i) ∧ ((0 ≤ qel x72 x60.i x70.i ∧ qel x72 x60.i x70.i < x6.i) ∧ knwX x8 (qel x72 x60.i x70.i) = true ∧ lvX x81 (qel x72 x60.i x70.i) x40.i = x60.i) ∧ (0 ≤ x80.i ∧ x80.i ≤ 6) ∧ ownQ (bxI x0 x1 x2 x3 x4 x5) (lstX deI x6) x7 x8 x40.i x81 x6.i ∧ neaQ (bxI x0 x1 x2 x3 x4 x5) (lstX deI x6) x7 x8 x40.i x60.i x70.i (qel x72 x60.i x70.i) x81 x82 ∧ cloD (bxI x0 x1 x2 x3 x4 x5) (lstX deI x6) x7 x8 x40.i x81 (qel x72 x60.i x70.i) x80.i ∧ leftQ (lstX deI x6) x40.i x60.i x81 x82 ≤ leftQ (lstX deI x6) x40.i x60.i x71 x72 := p176
     have l3 := H3.len
     rw [← el] at f7
     refine And.intro ?_ ?_
     ·intro h178 v179 v180 v181 v182
      refine And.intro ?_ ?_
      ·intro h184
       have hn : ¬ ngbB (bxI x0 x1 x2 x3 x4 x5) x8 ((bxI x0 x1 x2 x3 x4 x5).at (qel x72 x60.i x70.i)) x80.i = true := fun hn => h184 (ngb_ix hv hn).2.1
       refine andI ?_ fun o185 => ?_
       ·exact ⟨H3, ⟨d0, d1⟩, ⟨d2, f3⟩, ⟨⟨t0, f4⟩, t2, f5⟩, ⟨by show 0 ≤ x80.i + 1; omega, by show x80.i + 1 ≤ 6; omega⟩, by rw [← el]; exact f7, f8, clo_next f9 fun hc => absurd hc hn, f10⟩
       refine andI ?_ fun o186 => ?_
       ·show 7 - (x80.i + 1) < 7 - x80.i
        omega
       show 0 < 7 - x80.i
       omega
      intro h187 v188
      have hh : (bxI x0 x1 x2 x3 x4 x5).has (stpP ((bxI x0 x1 x2 x3 x4 x5).at (qel x72 x60.i x70.i)) x80.i) = true := h187
      have e92 : v188.i = (bxI x0 x1 x2 x3 x4 x5).idx (stpP ((bxI x0 x1 x2 x3 x4 x5).at (qel x72 x60.i x70.i)) x80.i) := rfl
      have hj := idx_ok hh
      rw [← e92] at hj
      have j1 : v188.i < x6.i := by omega
      refine andI ?_ fun o189 => ?_
      ·exact ⟨hj.1, a8 _ j1⟩
      intro v190
      refine And.intro ?_ ?_
      ·intro h192
       have hn : ngbB (bxI x0 x1 x2 x3 x4 x5) x8 ((bxI x0 x1 x2 x3 x4 x5).at (qel x72 x60.i x70.i)) x80.i = true := by
        show ((bxI x0 x1 x2 x3 x4 x5).has (stpP ((bxI x0 x1 x2 x3 x4 x5).at (qel x72 x60.i x70.i)) x80.i) && knwX x8 ((bxI x0 x1 x2 x3 x4 x5).idx (stpP ((bxI x0 x1 x2 x3 x4 x5).at (qel x72 x60.i x70.i)) x80.i))) = true
        rw [hh, Bool.true_and]
        exact h192
       refine andI ?_ fun o193 => ?_
       ·exact ⟨hj.1, a31 _ j1, a32 _ j1⟩
       refine andI ?_ fun o194 => ?_
       ·exact hj.1
       refine andI ?_ fun o195 => ?_
       ·omega
       intro v196
       have ev : v196.i = pssB (fadX x7 ((lstX deI x6).getD v188.i.toNat 0)) x40.i (if x80.i = 4 then 5 else 0) x60.i := by
        obtain ⟨s0, _⟩ := hs v188.i hj.1 j1
        rw [hcs _ hj.1 j1, ← s0, h126]
        rfl
       have v15 : v196.i ≤ x60.i := by rw [ev]; exact pss_self (fad_rng ht).1
       refine And.intro ?_ ?_
       ·intro h198
        have hlt : lvX x81 v188.i x40.i < v196.i := by rw [h126]; exact h198
        have vp := (H3.up v188.i hj.1 (by omega)).1
        refine andI ?_ fun o199 => ?_
        ·exact hj.1
        refine andI ?_ fun o200 => ?_
        ·omega
        refine andI ?_ fun o201 => ?_
        ·omega
        refine andI ?_ fun o202 => ?_
        ·have hq : qlen x82 v196.i ≤ 15 * (lstX deI x6).length := H3.qle hv ht c0 c1 (by omega) (by omega)
         show qlen x82 v196.i < 100000000
         omega
        refine andI ?_ fun o203 => ?_
        ·omega
        refine andI ?_ fun o204 => ?_
        ·obtain ⟨z0, z1, z2, z3, z4, z5, z6⟩ := put_nea (q := 1) (J := v188.i) (x := v188) (e := v196) h126 H3 hv ht c0 c1 d0 d1 d2 f3 t0 (by omega) t2 f5 f6 h178 f7 f8 f9 hn e92 rfl ev hlt
         rw [el] at z3
         exact ⟨z0, ⟨d0, d1⟩, ⟨d2, z1⟩, ⟨⟨t0, f4⟩, t2, z2⟩, ⟨by show 0 ≤ x80.i + 1; omega, by show x80.i + 1 ≤ 6; omega⟩, z3, z4, z5, Int.le_trans z6 f10⟩
        refine andI ?_ fun o205 => ?_
        ·show 7 - (x80.i + 1) < 7 - x80.i
         omega
        show 0 < 7 - x80.i
        omega
       intro h206
       refine andI ?_ fun o207 => ?_
       ·refine ⟨H3, ⟨d0, d1⟩, ⟨d2, f3⟩, ⟨⟨t0, f4⟩, t2, f5⟩, ⟨by show 0 ≤ x80.i + 1; omega, by show x80.i + 1 ≤ 6; omega⟩, by rw [← el]; exact f7, f8, clo_next f9 fun _ => ?_, f10⟩
        show pssB (fadX x7 ((lstX deI x6).getD ((bxI x0 x1 x2 x3 x4 x5).idx (stpP ((bxI x0 x1 x2 x3 x4 x5).at (qel x72 x60.i x70.i)) x80.i)).toNat 0)) x40.i (if x80.i = 4 then 5 else 0) (lvX x81 (qel x72 x60.i x70.i) x40.i) ≤ lvX x81 ((bxI x0 x1 x2 x3 x4 x5).idx (stpP ((bxI x0 x1 x2 x3 x4 x5).at (qel x72 x60.i x70.i)) x80.i)) x40.i
        rw [f5, ← e92, ← ev, h126]
        exact Int.not_lt.1 h206
       refine andI ?_ fun o208 => ?_
       ·show 7 - (x80.i + 1) < 7 - x80.i
        omega
       show 0 < 7 - x80.i
       omega
      intro h209
      have hn : ¬ ngbB (bxI x0 x1 x2 x3 x4 x5) x8 ((bxI x0 x1 x2 x3 x4 x5).at (qel x72 x60.i x70.i)) x80.i = true := fun hn => h209 (ngb_ix hv hn).2.2
      refine andI ?_ fun o210 => ?_
      ·exact ⟨H3, ⟨d0, d1⟩, ⟨d2, f3⟩, ⟨⟨t0, f4⟩, t2, f5⟩, ⟨by show 0 ≤ x80.i + 1; omega, by show x80.i + 1 ≤ 6; omega⟩, by rw [← el]; exact f7, f8, clo_next f9 fun hc => absurd hc hn, f10⟩
      refine andI ?_ fun o211 => ?_
      ·show 7 - (x80.i + 1) < 7 - x80.i
       omega
      show 0 < 7 - x80.i
      omega
     intro h212
     rw [show x80.i = 6 by omega] at f9
     refine andI ?_ fun o213 => ?_
     ·exact ⟨H3, d0, d1, by show 0 ≤ x70.i + 1; omega, by show x70.i + 1 ≤ qlen x82 x60.i; omega, by rw [← el]; exact f7, nea_last f8 f9⟩
     refine andI ?_ fun o214 => ?_
     ·show leftQ (lstX deI x6) x40.i x60.i x81 x82 - (x70.i + 1) + 1 < leftQ (lstX deI x6) x40.i x60.i x71 x72 - x70.i + 1
      omega
     show 0 < leftQ (lstX deI x6) x40.i x60.i x71 x72 - x70.i + 1
     omega
    intro h215
    refine andI ?_ fun o216 => ?_
    ·exact ⟨H2, by show 0 ≤ x60.i - 1; omega, by show x60.i - 1 ≤ 15; omega, d4, que_last d5 h215⟩
    refine andI ?_ fun o217 => ?_
    ·show x60.i - 1 + 1 < x60.i + 1
     omega
    show 0 < x60.i + 1
    omega
   intro h218
   refine andI ?_ fun o219 => ?_
   ·rw [show x60.i = 0 by omega] at b3
    have l1 := H1.len
    have hd := lev_done H1 hv ht c0 c1 (by rw [el]; exact b2) b3
    refine ⟨by decide, by decide, by show x61.i = x6.i; omega, fun j q a d e f => ?_⟩
    have hlo := H1.lo j q a (by omega) e f
    have hdj := hd j a (by omega)
    rw [h126] at hlo hdj
    refine ⟨fun hh => ?_, fun hh => hlo.2 (by have hh : 2 ≤ q := hh; omega)⟩
    have hh : q < 2 := hh
    by_cases hq : q = 1
    ·rw [hq]; exact hdj
    ·exact hlo.1 (by omega)
   refine andI ?_ fun o220 => ?_
   ·show 5 - 2 < 5 - x40.i
    omega
   show 0 < 5 - x40.i
   omega
  refine And.intro ?_ ?_
  ·intro h222
   refine andI ?_ fun o223 => ?_
   ·obtain ⟨z0, z1, z2⟩ := com_first (k := x8) (o := x41) (by omega) hv ht c0 c1 fun j q a d e f => c3 j q a (by omega) e f
    exact ⟨z0, Int.le_refl _, g6.1, z1, z2⟩
   intro x50 x51 x52 h224 r225 p226
   obtain ⟨H0, a0, a1, a2, a3⟩ : ComQ (bxI x0 x1 x2 x3 x4 x5) (lstX deI x6) x7 x8 x40.i x51 x52 ∧ 0 ≤ x50.i ∧ x50.i ≤ x6.i ∧ ownQ (bxI x0 x1 x2 x3 x4 x5) (lstX deI x6) x7 x8 x40.i x51 x50.i ∧ celQu (lstX deI x6) x40.i x51 x52 := p226
   have l0 := H0.len
   refine And.intro ?_ ?_
   ·intro h228
    have i1 : x50.i < x6.i := by omega
    refine andI ?_ fun o229 => ?_
    ·exact ⟨a0, a8 _ i1⟩
    intro v230
    refine And.intro ?_ ?_
    ·intro h232
     refine andI ?_ fun o233 => ?_
     ·exact ⟨a0, a31 _ i1, a32 _ i1⟩
     refine andI ?_ fun o234 => ?_
     ·omega
     intro v235
     have e43 : v235.i = ownB (bxI x0 x1 x2 x3 x4 x5) (lstX deI x6) x7 x50.i x40.i := by rw [h222]; exact eo x50.i a0 i1 2 (by decide) (by decide)
     have r43 := own_rng (b := (bxI x0 x1 x2 x3 x4 x5)) (cs := (lstX deI x6)) (i := x50.i) ht c0 c1
     rw [← e43] at r43
     refine And.intro ?_ ?_
     ·intro h237
      refine andI ?_ fun o238 => ?_
      ·omega
      refine andI ?_ fun o239 => ?_
      ·have hq : qlen x52 v235.i ≤ 15 * (lstX deI x6).length := H0.qle hv ht c0 c1 r43.1 r43.2
       show qlen x52 v235.i < 100000000
       omega
      refine andI ?_ fun o240 => ?_
      ·obtain ⟨z0, z1, z2⟩ := put_own (q := 2) (x := x50) (e := v235) h222 H0 hv ht c0 c1 a0 (by omega) h232 a2 a3 rfl e43 (by rw [h222]; exact h237)
       exact ⟨z0, by show 0 ≤ x50.i + 1; omega, by show x50.i + 1 ≤ x6.i; omega, z1, z2⟩
      refine andI ?_ fun o241 => ?_
      ·show x6.i + 1 - (x50.i + 1) < x6.i + 1 - x50.i
       omega
      show 0 < x6.i + 1 - x50.i
      omega
     intro h242
     refine andI ?_ fun o243 => ?_
     ·refine ⟨H0, by show 0 ≤ x50.i + 1; omega, by show x50.i + 1 ≤ x6.i; omega, own_next a2 fun _ => ?_, a3⟩
      rw [← e43, h222]
      exact Int.not_lt.1 h242
     refine andI ?_ fun o244 => ?_
     ·show x6.i + 1 - (x50.i + 1) < x6.i + 1 - x50.i
      omega
     show 0 < x6.i + 1 - x50.i
     omega
    intro h245
    refine andI ?_ fun o246 => ?_
    ·exact ⟨H0, by show 0 ≤ x50.i + 1; omega, by show x50.i + 1 ≤ x6.i; omega, own_next a2 fun hq => absurd hq h245, a3⟩
    refine andI ?_ fun o247 => ?_
    ·show x6.i + 1 - (x50.i + 1) < x6.i + 1 - x50.i
     omega
    show 0 < x6.i + 1 - x50.i
    omega
   intro h248
   refine andI ?_ fun o249 => ?_
   ·exact ⟨H0, by decide, by decide, fun j a d f g => a2 j a d (by omega) g, lev_first H0 hv ht c0 c1 a3⟩
   intro x60 x61 x62 h250 r251 p252
   obtain ⟨H1, b0, b1, b2, b3⟩ : ComQ (bxI x0 x1 x2 x3 x4 x5) (lstX deI x6) x7 x8 x40.i x61 x62 ∧ 0 ≤ x60.i ∧ x60.i ≤ 15 ∧ ownQ (bxI x0 x1 x2 x3 x4 x5) (lstX deI x6) x7 x8 x40.i x61 x6.i ∧ levQ (bxI x0 x1 x2 x3 x4 x5) (lstX deI x6) x7 x8 x40.i x60.i x61 x62 := p252
   refine And.intro ?_ ?_
   ·intro h254
    refine andI ?_ fun o255 => ?_
    ·exact ⟨H1, h254, b1, Int.le_refl _, H1.nn _, b2, que_first b3⟩
    intro x70 x71 x72 h256 r257 p258
    obtain ⟨H2, d0, d1, d2, d3, d4, d5⟩ : ComQ (bxI x0 x1 x2 x3 x4 x5) (lstX deI x6) x7 x8 x40.i x71 x72 ∧ 0 < x60.i ∧ x60.i ≤ 15 ∧ 0 ≤ x70.i ∧ x70.i ≤ qlen x72 x60.i ∧ ownQ (bxI x0 x1 x2 x3 x4 x5) (lstX deI x6) x7 x8 x40.i x71 x6.i ∧ queQ (bxI x0 x1 x2 x3 x4 x5) (lstX deI x6) x7 x8 x40.i x60.i x70.i x71 x72 := p258
    have l2 := H2.len
    have f2 := H2.left (lev := x60.i) hv ht c0 c1
    refine And.intro ?_ ?_
    ·intro h260
     obtain ⟨⟨t0, t1⟩, t2⟩ := H2.ent x60.i x70.i (by omega) d1 d2 h260
     refine andI ?_ fun o261 => ?_
     ·exact h260
     refine andI ?_ fun o262 => ?_
     ·exact t0
     refine andI ?_ fun o263 => ?_
     ·show qel x72 x60.i x70.i < x71.i
      omega
     refine And.intro ?_ ?_
     ·intro h265
      have hne : ¬ lvX x71 (qel x72 x60.i x70.i) x40.i = x60.i := by rw [h222]; exact h265
      refine andI ?_ fun o266 => ?_
      ·refine ⟨H2, d0, d1, by show 0 ≤ x70.i + 1; omega, ?_, d4, que_skip d5 hne⟩
       have : x70.i < qlen x72 x60.i := h260
       show x70.i + 1 ≤ qlen x72 x60.i
       omega
      refine andI ?_ fun o267 => ?_
      ·show leftQ (lstX deI x6) x40.i x60.i x71 x72 - (x70.i + 1) + 1 < leftQ (lstX deI x6) x40.i x60.i x71 x72 - x70.i + 1
       omega
      show 0 < leftQ (lstX deI x6) x40.i x60.i x71 x72 - x70.i + 1
      omega
     intro h268
     have hi : lvX x71 (qel x72 x60.i x70.i) x40.i = x60.i := by rw [h222]; exact h268
     refine andI ?_ fun o269 => ?_
     ·exact ⟨H2, ⟨d0, d1⟩, ⟨d2, h260⟩, ⟨⟨t0, by show qel x72 x60.i x70.i < x6.i; omega⟩, t2, hi⟩, ⟨Int.le_refl _, by decide⟩, d4, nea_first d5, fun e e0 e1 => absurd e1 (by show ¬ e < 0; omega), Int.le_refl _⟩
     intro x80 x81 x82 h270 r271 p272
     obtain ⟨H3, _, ⟨_, f3⟩, ⟨⟨_, f4⟩, _, f5⟩, ⟨f6, _⟩, f7, f8, f9, f10⟩ : ComQ (bxI x0 x1 x2 x3 x4 x5) (lstX deI x6) x7 x8 x40.i x81 x82 ∧ (0 < x60.i ∧ x60.i ≤ 15) ∧ (0 ≤ x70.i ∧ x70.i < qlen x82 x60.i) ∧ ((0 ≤ qel x72 x60.i x70.i ∧ qel x72 x60.i x70.i < x6.i) ∧ knwX x8 (qel x72 x60.i x70.i) = true ∧ lvX x81 (qel x72 x60.i x70.i) x40.i = x60.i) ∧ (0 ≤ x80.i ∧ x80.i ≤ 6) ∧ ownQ (bxI x0 x1 x2 x3 x4 x5) (lstX deI x6) x7 x8 x40.i x81 x6.i ∧ neaQ (bxI x0 x1 x2 x3 x4 x5) (lstX deI x6) x7 x8 x40.i x60.i x70.i (qel x72 x60.i x70.i) x81 x82 ∧ cloD (bxI x0 x1 x2 x3 x4 x5) (lstX deI x6) x7 x8 x40.i x81 (qel x72 x60.i x70.i) x80.i ∧ leftQ (lstX deI x6) x40.i x60.i x81 x82 ≤ leftQ (lstX deI x6) x40.i x60.i x71 x72 := p272
     have l3 := H3.len
     rw [← el] at f7
     refine And.intro ?_ ?_
     ·intro h274 v275 v276 v277 v278
      refine And.intro ?_ ?_
      ·intro h280
       have hn : ¬ ngbB (bxI x0 x1 x2 x3 x4 x5) x8 ((bxI x0 x1 x2 x3 x4 x5).at (qel x72 x60.i x70.i)) x80.i = true := fun hn => h280 (ngb_ix hv hn).2.1
       refine andI ?_ fun o281 => ?_
       ·exact ⟨H3, ⟨d0, d1⟩, ⟨d2, f3⟩, ⟨⟨t0, f4⟩, t2, f5⟩, ⟨by show 0 ≤ x80.i + 1; omega, by show x80.i + 1 ≤ 6; omega⟩, by rw [← el]; exact f7, f8, clo_next f9 fun hc => absurd hc hn, f10⟩
       refine andI ?_ fun o282 => ?_
       ·show 7 - (x80.i + 1) < 7 - x80.i
        omega
       show 0 < 7 - x80.i
       omega
      intro h283 v284
      have hh : (bxI x0 x1 x2 x3 x4 x5).has (stpP ((bxI x0 x1 x2 x3 x4 x5).at (qel x72 x60.i x70.i)) x80.i) = true := h283
      have e92 : v284.i = (bxI x0 x1 x2 x3 x4 x5).idx (stpP ((bxI x0 x1 x2 x3 x4 x5).at (qel x72 x60.i x70.i)) x80.i) := rfl
      have hj := idx_ok hh
      rw [← e92] at hj
      have j1 : v284.i < x6.i := by omega
      refine andI ?_ fun o285 => ?_
      ·exact ⟨hj.1, a8 _ j1⟩
      intro v286
      refine And.intro ?_ ?_
      ·intro h288
       have hn : ngbB (bxI x0 x1 x2 x3 x4 x5) x8 ((bxI x0 x1 x2 x3 x4 x5).at (qel x72 x60.i x70.i)) x80.i = true := by
        show ((bxI x0 x1 x2 x3 x4 x5).has (stpP ((bxI x0 x1 x2 x3 x4 x5).at (qel x72 x60.i x70.i)) x80.i) && knwX x8 ((bxI x0 x1 x2 x3 x4 x5).idx (stpP ((bxI x0 x1 x2 x3 x4 x5).at (qel x72 x60.i x70.i)) x80.i))) = true
        rw [hh, Bool.true_and]
        exact h288
       refine andI ?_ fun o289 => ?_
       ·exact ⟨hj.1, a31 _ j1, a32 _ j1⟩
       refine andI ?_ fun o290 => ?_
       ·exact hj.1
       refine andI ?_ fun o291 => ?_
       ·omega
       intro v292
       have ev : v292.i = pssB (fadX x7 ((lstX deI x6).getD v284.i.toNat 0)) x40.i (if x80.i = 4 then 5 else 0) x60.i := by
        obtain ⟨s0, _⟩ := hs v284.i hj.1 j1
        rw [hcs _ hj.1 j1, ← s0, h222]
        rfl
       have v15 : v292.i ≤ x60.i := by rw [ev]; exact pss_self (fad_rng ht).1
       refine And.intro ?_ ?_
       ·intro h294
        have hlt : lvX x81 v284.i x40.i < v292.i := by rw [h222]; exact h294
        have vp := (H3.up v284.i hj.1 (by omega)).1
        refine andI ?_ fun o295 => ?_
        ·exact hj.1
        refine andI ?_ fun o296 => ?_
        ·omega
        refine andI ?_ fun o297 => ?_
        ·omega
        refine andI ?_ fun o298 => ?_
        ·have hq : qlen x82 v292.i ≤ 15 * (lstX deI x6).length := H3.qle hv ht c0 c1 (by omega) (by omega)
         show qlen x82 v292.i < 100000000
         omega
        refine andI ?_ fun o299 => ?_
        ·omega
        refine andI ?_ fun o300 => ?_
        ·obtain ⟨z0, z1, z2, z3, z4, z5, z6⟩ := put_nea (q := 2) (J := v284.i) (x := v284) (e := v292) h222 H3 hv ht c0 c1 d0 d1 d2 f3 t0 (by omega) t2 f5 f6 h274 f7 f8 f9 hn e92 rfl ev hlt
         rw [el] at z3
         exact ⟨z0, ⟨d0, d1⟩, ⟨d2, z1⟩, ⟨⟨t0, f4⟩, t2, z2⟩, ⟨by show 0 ≤ x80.i + 1; omega, by show x80.i + 1 ≤ 6; omega⟩, z3, z4, z5, Int.le_trans z6 f10⟩
        refine andI ?_ fun o301 => ?_
        ·show 7 - (x80.i + 1) < 7 - x80.i
         omega
        show 0 < 7 - x80.i
        omega
       intro h302
       refine andI ?_ fun o303 => ?_
       ·refine ⟨H3, ⟨d0, d1⟩, ⟨d2, f3⟩, ⟨⟨t0, f4⟩, t2, f5⟩, ⟨by show 0 ≤ x80.i + 1; omega, by show x80.i + 1 ≤ 6; omega⟩, by rw [← el]; exact f7, f8, clo_next f9 fun _ => ?_, f10⟩
        show pssB (fadX x7 ((lstX deI x6).getD ((bxI x0 x1 x2 x3 x4 x5).idx (stpP ((bxI x0 x1 x2 x3 x4 x5).at (qel x72 x60.i x70.i)) x80.i)).toNat 0)) x40.i (if x80.i = 4 then 5 else 0) (lvX x81 (qel x72 x60.i x70.i) x40.i) ≤ lvX x81 ((bxI x0 x1 x2 x3 x4 x5).idx (stpP ((bxI x0 x1 x2 x3 x4 x5).at (qel x72 x60.i x70.i)) x80.i)) x40.i
        rw [f5, ← e92, ← ev, h222]
        exact Int.not_lt.1 h302
       refine andI ?_ fun o304 => ?_
       ·show 7 - (x80.i + 1) < 7 - x80.i
        omega
       show 0 < 7 - x80.i
       omega
      intro h305
      have hn : ¬ ngbB (bxI x0 x1 x2 x3 x4 x5) x8 ((bxI x0 x1 x2 x3 x4 x5).at (qel x72 x60.i x70.i)) x80.i = true := fun hn => h305 (ngb_ix hv hn).2.2
      refine andI ?_ fun o306 => ?_
      ·exact ⟨H3, ⟨d0, d1⟩, ⟨d2, f3⟩, ⟨⟨t0, f4⟩, t2, f5⟩, ⟨by show 0 ≤ x80.i + 1; omega, by show x80.i + 1 ≤ 6; omega⟩, by rw [← el]; exact f7, f8, clo_next f9 fun hc => absurd hc hn, f10⟩
      refine andI ?_ fun o307 => ?_
      ·show 7 - (x80.i + 1) < 7 - x80.i
       omega
      show 0 < 7 - x80.i
      omega
     intro h308
     rw [show x80.i = 6 by omega] at f9
     refine andI ?_ fun o309 => ?_
     ·exact ⟨H3, d0, d1, by show 0 ≤ x70.i + 1; omega, by show x70.i + 1 ≤ qlen x82 x60.i; omega, by rw [← el]; exact f7, nea_last f8 f9⟩
     refine andI ?_ fun o310 => ?_
     ·show leftQ (lstX deI x6) x40.i x60.i x81 x82 - (x70.i + 1) + 1 < leftQ (lstX deI x6) x40.i x60.i x71 x72 - x70.i + 1
      omega
     show 0 < leftQ (lstX deI x6) x40.i x60.i x71 x72 - x70.i + 1
     omega
    intro h311
    refine andI ?_ fun o312 => ?_
    ·exact ⟨H2, by show 0 ≤ x60.i - 1; omega, by show x60.i - 1 ≤ 15; omega, d4, que_last d5 h311⟩
    refine andI ?_ fun o313 => ?_
    ·show x60.i - 1 + 1 < x60.i + 1
     omega
    show 0 < x60.i + 1
    omega
   intro h314
   refine andI ?_ fun o315 => ?_
   ·rw [show x60.i = 0 by omega] at b3
    have l1 := H1.len
    have hd := lev_done H1 hv ht c0 c1 (by rw [el]; exact b2) b3
    refine ⟨by decide, by decide, by show x61.i = x6.i; omega, fun j q a d e f => ?_⟩
    have hlo := H1.lo j q a (by omega) e f
    have hdj := hd j a (by omega)
    rw [h222] at hlo hdj
    refine ⟨fun hh => ?_, fun hh => hlo.2 (by have hh : 3 ≤ q := hh; omega)⟩
    have hh : q < 3 := hh
    by_cases hq : q = 2
    ·rw [hq]; exact hdj
    ·exact hlo.1 (by omega)
   refine andI ?_ fun o316 => ?_
   ·show 5 - 3 < 5 - x40.i
    omega
   show 0 < 5 - x40.i
   omega
  refine And.intro ?_ ?_
  ·intro h318
   refine andI ?_ fun o319 => ?_
   ·obtain ⟨z0, z1, z2⟩ := com_first (k := x8) (o := x41) (by omega) hv ht c0 c1 fun j q a d e f => c3 j q a (by omega) e f
    exact ⟨z0, Int.le_refl _, g6.1, z1, z2⟩
   intro x50 x51 x52 h320 r321 p322
   obtain ⟨H0, a0, a1, a2, a3⟩ : ComQ (bxI x0 x1 x2 x3 x4 x5) (lstX deI x6) x7 x8 x40.i x51 x52 ∧ 0 ≤ x50.i ∧ x50.i ≤ x6.i ∧ ownQ (bxI x0 x1 x2 x3 x4 x5) (lstX deI x6) x7 x8 x40.i x51 x50.i ∧ celQu (lstX deI x6) x40.i x51 x52 := p322
   have l0 := H0.len
   refine And.intro ?_ ?_
   ·intro h324
    have i1 : x50.i < x6.i := by omega
    refine andI ?_ fun o325 => ?_
    ·exact ⟨a0, a8 _ i1⟩
    intro v326
    refine And.intro ?_ ?_
    ·intro h328
     refine andI ?_ fun o329 => ?_
     ·exact ⟨a0, a31 _ i1, a32 _ i1⟩
     refine andI ?_ fun o330 => ?_
     ·omega
     intro v331
     have e43 : v331.i = ownB (bxI x0 x1 x2 x3 x4 x5) (lstX deI x6) x7 x50.i x40.i := by rw [h318]; exact eo x50.i a0 i1 3 (by decide) (by decide)
     have r43 := own_rng (b := (bxI x0 x1 x2 x3 x4 x5)) (cs := (lstX deI x6)) (i := x50.i) ht c0 c1
     rw [← e43] at r43
     refine And.intro ?_ ?_
     ·intro h333
      refine andI ?_ fun o334 => ?_
      ·omega
      refine andI ?_ fun o335 => ?_
      ·have hq : qlen x52 v331.i ≤ 15 * (lstX deI x6).length := H0.qle hv ht c0 c1 r43.1 r43.2
       show qlen x52 v331.i < 100000000
       omega
      refine andI ?_ fun o336 => ?_
      ·obtain ⟨z0, z1, z2⟩ := put_own (q := 3) (x := x50) (e := v331) h318 H0 hv ht c0 c1 a0 (by omega) h328 a2 a3 rfl e43 (by rw [h318]; exact h333)
       exact ⟨z0, by show 0 ≤ x50.i + 1; omega, by show x50.i + 1 ≤ x6.i; omega, z1, z2⟩
      refine andI ?_ fun o337 => ?_
      ·show x6.i + 1 - (x50.i + 1) < x6.i + 1 - x50.i
       omega
      show 0 < x6.i + 1 - x50.i
      omega
     intro h338
     refine andI ?_ fun o339 => ?_
     ·refine ⟨H0, by show 0 ≤ x50.i + 1; omega, by show x50.i + 1 ≤ x6.i; omega, own_next a2 fun _ => ?_, a3⟩
      rw [← e43, h318]
      exact Int.not_lt.1 h338
     refine andI ?_ fun o340 => ?_
     ·show x6.i + 1 - (x50.i + 1) < x6.i + 1 - x50.i
      omega
     show 0 < x6.i + 1 - x50.i
     omega
    intro h341
    refine andI ?_ fun o342 => ?_
    ·exact ⟨H0, by show 0 ≤ x50.i + 1; omega, by show x50.i + 1 ≤ x6.i; omega, own_next a2 fun hq => absurd hq h341, a3⟩
    refine andI ?_ fun o343 => ?_
    ·show x6.i + 1 - (x50.i + 1) < x6.i + 1 - x50.i
     omega
    show 0 < x6.i + 1 - x50.i
    omega
   intro h344
   refine andI ?_ fun o345 => ?_
   ·exact ⟨H0, by decide, by decide, fun j a d f g => a2 j a d (by omega) g, lev_first H0 hv ht c0 c1 a3⟩
   intro x60 x61 x62 h346 r347 p348
   obtain ⟨H1, b0, b1, b2, b3⟩ : ComQ (bxI x0 x1 x2 x3 x4 x5) (lstX deI x6) x7 x8 x40.i x61 x62 ∧ 0 ≤ x60.i ∧ x60.i ≤ 15 ∧ ownQ (bxI x0 x1 x2 x3 x4 x5) (lstX deI x6) x7 x8 x40.i x61 x6.i ∧ levQ (bxI x0 x1 x2 x3 x4 x5) (lstX deI x6) x7 x8 x40.i x60.i x61 x62 := p348
   refine And.intro ?_ ?_
   ·intro h350
    refine andI ?_ fun o351 => ?_
    ·exact ⟨H1, h350, b1, Int.le_refl _, H1.nn _, b2, que_first b3⟩
    intro x70 x71 x72 h352 r353 p354
    obtain ⟨H2, d0, d1, d2, d3, d4, d5⟩ : ComQ (bxI x0 x1 x2 x3 x4 x5) (lstX deI x6) x7 x8 x40.i x71 x72 ∧ 0 < x60.i ∧ x60.i ≤ 15 ∧ 0 ≤ x70.i ∧ x70.i ≤ qlen x72 x60.i ∧ ownQ (bxI x0 x1 x2 x3 x4 x5) (lstX deI x6) x7 x8 x40.i x71 x6.i ∧ queQ (bxI x0 x1 x2 x3 x4 x5) (lstX deI x6) x7 x8 x40.i x60.i x70.i x71 x72 := p354
    have l2 := H2.len
    have f2 := H2.left (lev := x60.i) hv ht c0 c1
    refine And.intro ?_ ?_
    ·intro h356
     obtain ⟨⟨t0, t1⟩, t2⟩ := H2.ent x60.i x70.i (by omega) d1 d2 h356
     refine andI ?_ fun o357 => ?_
     ·exact h356
     refine andI ?_ fun o358 => ?_
     ·exact t0
     refine andI ?_ fun o359 => ?_
     ·show qel x72 x60.i x70.i < x71.i
      omega
     refine And.intro ?_ ?_
     ·intro h361
      have hne : ¬ lvX x71 (qel x72 x60.i x70.i) x40.i = x60.i := by rw [h318]; exact h361
      refine andI ?_ fun o362 => ?_
      ·refine ⟨H2, d0, d1, by show 0 ≤ x70.i + 1; omega, ?_, d4, que_skip d5 hne⟩
       have : x70.i < qlen x72 x60.i := h356
       show x70.i + 1 ≤ qlen x72 x60.i
       omega
      refine andI ?_ fun o363 => ?_
      ·show leftQ (lstX deI x6) x40.i x60.i x71 x72 - (x70.i + 1) + 1 < leftQ (lstX deI x6) x40.i x60.i x71 x72 - x70.i + 1
       omega
      show 0 < leftQ (lstX deI x6) x40.i x60.i x71 x72 - x70.i + 1
      omega
     intro h364
     have hi : lvX x71 (qel x72 x60.i x70.i) x40.i = x60.i := by rw [h318]; exact h364
     refine andI ?_ fun o365 => ?_
     ·exact ⟨H2, ⟨d0, d1⟩, ⟨d2, h356⟩, ⟨⟨t0, by show qel x72 x60.i x70.i < x6.i; omega⟩, t2, hi⟩, ⟨Int.le_refl _, by decide⟩, d4, nea_first d5, fun e e0 e1 => absurd e1 (by show ¬ e < 0; omega), Int.le_refl _⟩
     intro x80 x81 x82 h366 r367 p368
     obtain ⟨H3, _, ⟨_, f3⟩, ⟨⟨_, f4⟩, _, f5⟩, ⟨f6, _⟩, f7, f8, f9, f10⟩ : ComQ (bxI x0 x1 x2 x3 x4 x5) (lstX deI x6) x7 x8 x40.i x81 x82 ∧ (0 < x60.i ∧ x60.i ≤ 15) ∧ (0 ≤ x70.i ∧ x70.i < qlen x82 x60.i) ∧ ((0 ≤ qel x72 x60.i x70.i ∧ qel x72 x60.i x70.i < x6.i) ∧ knwX x8 (qel x72 x60.i x70.i) = true ∧ lvX x81 (qel x72 x60.i x70.i) x40.i = x60.i) ∧ (0 ≤ x80.i ∧ x80.i ≤ 6) ∧ ownQ (bxI x0 x1 x2 x3 x4 x5) (lstX deI x6) x7 x8 x40.i x81 x6.i ∧ neaQ (bxI x0 x1 x2 x3 x4 x5) (lstX deI x6) x7 x8 x40.i x60.i x70.i (qel x72 x60.i x70.i) x81 x82 ∧ cloD (bxI x0 x1 x2 x3 x4 x5) (lstX deI x6) x7 x8 x40.i x81 (qel x72 x60.i x70.i) x80.i ∧ leftQ (lstX deI x6) x40.i x60.i x81 x82 ≤ leftQ (lstX deI x6) x40.i x60.i x71 x72 := p368
     have l3 := H3.len
     rw [← el] at f7
     refine And.intro ?_ ?_
     ·intro h370 v371 v372 v373 v374
      refine And.intro ?_ ?_
      ·intro h376
       have hn : ¬ ngbB (bxI x0 x1 x2 x3 x4 x5) x8 ((bxI x0 x1 x2 x3 x4 x5).at (qel x72 x60.i x70.i)) x80.i = true := fun hn => h376 (ngb_ix hv hn).2.1
       refine andI ?_ fun o377 => ?_
       ·exact ⟨H3, ⟨d0, d1⟩, ⟨d2, f3⟩, ⟨⟨t0, f4⟩, t2, f5⟩, ⟨by show 0 ≤ x80.i + 1; omega, by show x80.i + 1 ≤ 6; omega⟩, by rw [← el]; exact f7, f8, clo_next f9 fun hc => absurd hc hn, f10⟩
       refine andI ?_ fun o378 => ?_
       ·show 7 - (x80.i + 1) < 7 - x80.i
        omega
       show 0 < 7 - x80.i
       omega
      intro h379 v380
      have hh : (bxI x0 x1 x2 x3 x4 x5).has (stpP ((bxI x0 x1 x2 x3 x4 x5).at (qel x72 x60.i x70.i)) x80.i) = true := h379
      have e92 : v380.i = (bxI x0 x1 x2 x3 x4 x5).idx (stpP ((bxI x0 x1 x2 x3 x4 x5).at (qel x72 x60.i x70.i)) x80.i) := rfl
      have hj := idx_ok hh
      rw [← e92] at hj
      have j1 : v380.i < x6.i := by omega
      refine andI ?_ fun o381 => ?_
      ·exact ⟨hj.1, a8 _ j1⟩
      intro v382
      refine And.intro ?_ ?_
      ·intro h384
       have hn : ngbB (bxI x0 x1 x2 x3 x4 x5) x8 ((bxI x0 x1 x2 x3 x4 x5).at (qel x72 x60.i x70.i)) x80.i = true := by
        show ((bxI x0 x1 x2 x3 x4 x5).has (stpP ((bxI x0 x1 x2 x3 x4 x5).at (qel x72 x60.i x70.i)) x80.i) && knwX x8 ((bxI x0 x1 x2 x3 x4 x5).idx (stpP ((bxI x0 x1 x2 x3 x4 x5).at (qel x72 x60.i x70.i)) x80.i))) = true
        rw [hh, Bool.true_and]
        exact h384
       refine andI ?_ fun o385 => ?_
       ·exact ⟨hj.1, a31 _ j1, a32 _ j1⟩
       refine andI ?_ fun o386 => ?_
       ·exact hj.1
       refine andI ?_ fun o387 => ?_
       ·omega
       intro v388
       have ev : v388.i = pssB (fadX x7 ((lstX deI x6).getD v380.i.toNat 0)) x40.i (if x80.i = 4 then 5 else 0) x60.i := by
        obtain ⟨s0, _⟩ := hs v380.i hj.1 j1
        rw [hcs _ hj.1 j1, ← s0, h318]
        rfl
       have v15 : v388.i ≤ x60.i := by rw [ev]; exact pss_self (fad_rng ht).1
       refine And.intro ?_ ?_
       ·intro h390
        have hlt : lvX x81 v380.i x40.i < v388.i := by rw [h318]; exact h390
        have vp := (H3.up v380.i hj.1 (by omega)).1
        refine andI ?_ fun o391 => ?_
        ·exact hj.1
        refine andI ?_ fun o392 => ?_
        ·omega
        refine andI ?_ fun o393 => ?_
        ·omega
        refine andI ?_ fun o394 => ?_
        ·have hq : qlen x82 v388.i ≤ 15 * (lstX deI x6).length := H3.qle hv ht c0 c1 (by omega) (by omega)
         show qlen x82 v388.i < 100000000
         omega
        refine andI ?_ fun o395 => ?_
        ·omega
        refine andI ?_ fun o396 => ?_
        ·obtain ⟨z0, z1, z2, z3, z4, z5, z6⟩ := put_nea (q := 3) (J := v380.i) (x := v380) (e := v388) h318 H3 hv ht c0 c1 d0 d1 d2 f3 t0 (by omega) t2 f5 f6 h370 f7 f8 f9 hn e92 rfl ev hlt
         rw [el] at z3
         exact ⟨z0, ⟨d0, d1⟩, ⟨d2, z1⟩, ⟨⟨t0, f4⟩, t2, z2⟩, ⟨by show 0 ≤ x80.i + 1; omega, by show x80.i + 1 ≤ 6; omega⟩, z3, z4, z5, Int.le_trans z6 f10⟩
        refine andI ?_ fun o397 => ?_
        ·show 7 - (x80.i + 1) < 7 - x80.i
         omega
        show 0 < 7 - x80.i
        omega
       intro h398
       refine andI ?_ fun o399 => ?_
       ·refine ⟨H3, ⟨d0, d1⟩, ⟨d2, f3⟩, ⟨⟨t0, f4⟩, t2, f5⟩, ⟨by show 0 ≤ x80.i + 1; omega, by show x80.i + 1 ≤ 6; omega⟩, by rw [← el]; exact f7, f8, clo_next f9 fun _ => ?_, f10⟩
        show pssB (fadX x7 ((lstX deI x6).getD ((bxI x0 x1 x2 x3 x4 x5).idx (stpP ((bxI x0 x1 x2 x3 x4 x5).at (qel x72 x60.i x70.i)) x80.i)).toNat 0)) x40.i (if x80.i = 4 then 5 else 0) (lvX x81 (qel x72 x60.i x70.i) x40.i) ≤ lvX x81 ((bxI x0 x1 x2 x3 x4 x5).idx (stpP ((bxI x0 x1 x2 x3 x4 x5).at (qel x72 x60.i x70.i)) x80.i)) x40.i
        rw [f5, ← e92, ← ev, h318]
        exact Int.not_lt.1 h398
       refine andI ?_ fun o400 => ?_
       ·show 7 - (x80.i + 1) < 7 - x80.i
        omega
       show 0 < 7 - x80.i
       omega
      intro h401
      have hn : ¬ ngbB (bxI x0 x1 x2 x3 x4 x5) x8 ((bxI x0 x1 x2 x3 x4 x5).at (qel x72 x60.i x70.i)) x80.i = true := fun hn => h401 (ngb_ix hv hn).2.2
      refine andI ?_ fun o402 => ?_
      ·exact ⟨H3, ⟨d0, d1⟩, ⟨d2, f3⟩, ⟨⟨t0, f4⟩, t2, f5⟩, ⟨by show 0 ≤ x80.i + 1; omega, by show x80.i + 1 ≤ 6; omega⟩, by rw [← el]; exact f7, f8, clo_next f9 fun hc => absurd hc hn, f10⟩
      refine andI ?_ fun o403 => ?_
      ·show 7 - (x80.i + 1) < 7 - x80.i
       omega
      show 0 < 7 - x80.i
      omega
     intro h404
     rw [show x80.i = 6 by omega] at f9
     refine andI ?_ fun o405 => ?_
     ·exact ⟨H3, d0, d1, by show 0 ≤ x70.i + 1; omega, by show x70.i + 1 ≤ qlen x82 x60.i; omega, by rw [← el]; exact f7, nea_last f8 f9⟩
     refine andI ?_ fun o406 => ?_
     ·show leftQ (lstX deI x6) x40.i x60.i x81 x82 - (x70.i + 1) + 1 < leftQ (lstX deI x6) x40.i x60.i x71 x72 - x70.i + 1
      omega
     show 0 < leftQ (lstX deI x6) x40.i x60.i x71 x72 - x70.i + 1
     omega
    intro h407
    refine andI ?_ fun o408 => ?_
    ·exact ⟨H2, by show 0 ≤ x60.i - 1; omega, by show x60.i - 1 ≤ 15; omega, d4, que_last d5 h407⟩
    refine andI ?_ fun o409 => ?_
    ·show x60.i - 1 + 1 < x60.i + 1
     omega
    show 0 < x60.i + 1
    omega
   intro h410
   refine andI ?_ fun o411 => ?_
   ·rw [show x60.i = 0 by omega] at b3
    have l1 := H1.len
    have hd := lev_done H1 hv ht c0 c1 (by rw [el]; exact b2) b3
    refine ⟨by decide, by decide, by show x61.i = x6.i; omega, fun j q a d e f => ?_⟩
    have hlo := H1.lo j q a (by omega) e f
    have hdj := hd j a (by omega)
    rw [h318] at hlo hdj
    refine ⟨fun hh => ?_, fun hh => hlo.2 (by have hh : 4 ≤ q := hh; omega)⟩
    have hh : q < 4 := hh
    by_cases hq : q = 3
    ·rw [hq]; exact hdj
    ·exact hlo.1 (by omega)
   refine andI ?_ fun o412 => ?_
   ·show 5 - 4 < 5 - x40.i
    omega
   show 0 < 5 - x40.i
   omega
  trivial
 intro h413
 rw [e1]
 have hq : ∀ j c : Int, 0 ≤ j → j < x6.i → 0 ≤ c → c < 4 → lvX x41 j c = fulF (bxI x0 x1 x2 x3 x4 x5) (lstX deI x6) x7 x8 j c := fun j c a d e f => (c3 j c a d e f).1 (by omega)
 refine ⟨⟨rowEq_lv c2 g6.1 hm fun j hj => rowQ_of fun c h0 h1 => hq j c (by omega) hj h0 h1, fun j hj => ?_⟩, rngI e2 (by decide), trivial⟩
 have hF := ful_lv (k := x8) hv ht
 exact ⟨hF j 0 (by omega) (by omega) (by decide) (by decide), hF j 1 (by omega) (by omega) (by decide) (by decide), hF j 2 (by omega) (by omega) (by decide) (by decide), hF j 3 (by omega) (by omega) (by decide) (by decide), trivial⟩
theorem kFulA : RCtrOk Tryd.prog ρ0 cFulA := by
 refine rctr_ofN (cf := cfZ spFul none [cIn, cIndex, cAt] [cFade, cEmit, cIs, cPass, cOwn, cChL] lpFul sm33) (cfZ_ok (((keep0.cons kAt nAt).cons kIndex nIndex).cons kIn nIn) ((((((keepR0.cons kChL nChL).cons kOwn nOwn).cons kPass nPass).cons kIs nIs).cons kEmit nEmit).cons kFade nFade) noF) Tryd.func11 rfl 600 rfl (sh := shFu) (by kernel_rfl) fu_rsh fun ds hr hp => ?_
 have hr := rshX_flat hr
 match ds, hr, hp with
 | [d0, d1, d2, d3, d4, d5, d6, d7, d8], hr, hp =>
  obtain ⟨⟨e0, l0, u0⟩, ⟨e1, l1, u1⟩, ⟨e2, l2, u2⟩, ⟨e3, l3, u3⟩, ⟨e4, l4, u4⟩, ⟨e5, l5, u5⟩, l6, l7, l8, _⟩ := hr
  generalize d0.i = x0, d1.i = x1, d2.i = x2, d3.i = x3, d4.i = x4, d5.i = x5, d6 = x6, d7 = x7, d8 = x8 at *
  subst e0 e1 e2 e3 e4 e5
  exact Eq.mpr (FulAL x0 x1 x2 x3 x4 x5 x6 x7 x8) (FulAO x0 x1 x2 x3 x4 x5 x6 x7 x8 ⟨l0, u0⟩ ⟨l1, u1⟩ ⟨l2, u2⟩ ⟨l3, u3⟩ ⟨l4, u4⟩ ⟨l5, u5⟩ l6 l7 l8 hp)
theorem nFulA : Hs cFulA.f := ⟨_, Tryd.func11, by kernel_rfl, by kernel_rfl⟩
def FulBP (x0 x1 x2 x3 x4 x5 : Int) (x6 : X) (x7 : X) (x8 : X) : Prop :=
 let A := [xI x0, xI x1, xI x2, xI x3, xI x4, xI x5, x6, x7, x8]; (let v0 := Ff 1202 A; (((¬ (v0.i = 0)) →
(((Ff 1201 A).i = 0 ∧ 0 ≤ (2097152 : Int)) ∧ ((rI v0.i (Ff 1202 A).i 0 1) ∧ True))) ∧
((v0.i = 0) →
 False)))
theorem FulBL (x0 x1 x2 x3 x4 x5 : Int) (x6 : X) (x7 : X) (x8 : X) : (ctrR (fun j => Ff j [xI x0, xI x1, xI x2, xI x3, xI x4, xI x5, x6, x7, x8]) cFulB.fs cFulB.res { ρ0 with x := fun j => [xI x0, xI x1, xI x2, xI x3, xI x4, xI x5, x6, x7, x8].getD j (xI 0) } (walkR Tryd.prog (cfG none [] [cChL] lpNo sm33) Tryd.f11 600 cFulB.args)) = FulBP x0 x1 x2 x3 x4 x5 x6 x7 x8 := by kernel_rfl
set_option maxHeartbeats 4000000 in
theorem FulBO (x0 x1 x2 x3 x4 x5 : Int) (x6 : X) (x7 : X) (x8 : X) (g0 : -9223372036854775808 ≤ x0 ∧ x0 ≤ 9223372036854775807) (g1 : -9223372036854775808 ≤ x1 ∧ x1 ≤ 9223372036854775807) (g2 : -9223372036854775808 ≤ x2 ∧ x2 ≤ 9223372036854775807) (g3 : -9223372036854775808 ≤ x3 ∧ x3 ≤ 9223372036854775807) (g4 : -9223372036854775808 ≤ x4 ∧ x4 ≤ 9223372036854775807) (g5 : -9223372036854775808 ≤ x5 ∧ x5 ≤ 9223372036854775807) (g6 : 0 ≤ x6.i ∧ x6.i ≤ 9223372036854775807 ∧ RowOk SQu x6.r x6.i.toNat) (g7 : 0 ≤ x7.i ∧ x7.i ≤ 9223372036854775807 ∧ RowOk SMt x7.r x7.i.toNat) (g8 : 0 ≤ x8.i ∧ x8.i ≤ 9223372036854775807 ∧ RowOk [.bool] x8.r x8.i.toNat) (gp : Px cFulB.pre.get! [xI x0, xI x1, xI x2, xI x3, xI x4, xI x5, x6, x7, x8]) : FulBP x0 x1 x2 x3 x4 x5 x6 x7 x8 := by
 unfold FulBP
 intro A
 have ok : ¬ okC (grX (xI x0) (xI x1) (xI x2) (xI x3) (xI x4) (xI x5) x6) x7 x8 = true := by
  have : okC (grX (xI x0) (xI x1) (xI x2) (xI x3) (xI x4) (xI x5) x6) x7 x8 = false := gp
  rw [this]
  exact Bool.false_ne_true
 have e2 : (Ff 1202 [xI x0, xI x1, xI x2, xI x3, xI x4, xI x5, x6, x7, x8]).i = 1 := if_neg ok
 have e1 : (Ff 1201 [xI x0, xI x1, xI x2, xI x3, xI x4, xI x5, x6, x7, x8]).i = 0 := congrArg X.i (if_neg ok)
 intro v0
 refine And.intro ?_ ?_
 ·intro h2
  exact ⟨⟨e1, by decide⟩, ⟨rfl, by rw [e2]; decide⟩, trivial⟩
 intro h3
 have : (1 : Int) = 0 := e2.symm.trans h3
 omega
theorem kFulB : RCtrOk Tryd.prog ρ0 cFulB := by
 refine rctr_ofP (cf := cfG none [] [cChL] lpNo sm33) (cfG_ok keep0 (keepR0.cons kChL nChL) noF) Tryd.func11 rfl 600 rfl fun ds hr hp => ?_
 have hr := rshX_flat hr
 match ds, hr, hp with
 | [d0, d1, d2, d3, d4, d5, d6, d7, d8], hr, hp =>
  obtain ⟨⟨e0, l0, u0⟩, ⟨e1, l1, u1⟩, ⟨e2, l2, u2⟩, ⟨e3, l3, u3⟩, ⟨e4, l4, u4⟩, ⟨e5, l5, u5⟩, l6, l7, l8, _⟩ := hr
  generalize d0.i = x0, d1.i = x1, d2.i = x2, d3.i = x3, d4.i = x4, d5.i = x5, d6 = x6, d7 = x7, d8 = x8 at *
  subst e0 e1 e2 e3 e4 e5
  exact Eq.mpr (FulBL x0 x1 x2 x3 x4 x5 x6 x7 x8) (FulBO x0 x1 x2 x3 x4 x5 x6 x7 x8 ⟨l0, u0⟩ ⟨l1, u1⟩ ⟨l2, u2⟩ ⟨l3, u3⟩ ⟨l4, u4⟩ ⟨l5, u5⟩ l6 l7 l8 hp)
theorem nFulB : Hs cFulB.f := ⟨_, Tryd.func11, by kernel_rfl, by kernel_rfl⟩
end Vc
end Go.Proofs.YtelbilnnmmbmdaaDoor
