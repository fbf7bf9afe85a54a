/- Proved: LightMirrors: the statement 'LightMirrorsCardSaid' of this seat, for every input that it names; no condition besides. -/
import Derived.Test.YtelbilnnmmbmdaaDoorC33Tk
import Derived.Test.YtelbilnnmmbmdaaDoorRows
import Derived.Test.YtelbilnnmmbmdaaDoorCards
import Derived.Test.YtelbilnnmmbmdaaDoorTie
import Derived.SevenTiedAt
import Derived.ProofKit
import Derived.LaidMore
import Derived.Stop.Joined
namespace Go.Proofs.YtelbilnnmmbmdaaDoor.lightMirrors
open Go Go.ChangeShapes Go.WideShapes Go.ChangeAt Go.RowKit Vc
set_option linter.unusedVariables false
def lawP (x0 x1 x2 x3 x4 x5 : Int) (x6 : X) (x7 : X) (x8 : Bool) : Prop :=
(let v0 := Ff 1222 [x7]; let v1 := Ff 1202 [xI x0, xI x1, xI x2, xI x3, xI x4, xI x5, x6, x7, (mkX (rwTab 1 []) 0)]; ((((¬ ((v0.b = true) ∧ (x6.i ≤ 1000))) ∨ (¬ (v1.i = 0))) →
(true = true)) ∧
((¬ ((¬ ((v0.b = true) ∧ (x6.i ≤ 1000))) ∨ (¬ (v1.i = 0)))) →
((((Px 1269 [xI x0, xI x1, xI x2, xI x3, xI x4, xI x5, x6, x7, (xB x8), xI 0, (mkX (rwTab 1 []) 0), x6] ∧
(∀ x30 : X, (∀ x31 : X, (∀ x32 : X, (((0 ≤ x30.i) ∧ (x30.i ≤ 2097152)) →
((0 ≤ x31.i ∧ x31.i ≤ 1000 ∧ RowOk [.int .i64 (-9223372036854775808) (9223372036854775807)] x31.r (x31.i).toNat) →
((0 ≤ x32.i ∧ x32.i ≤ 1000 ∧ RowOk [.int .i64 (-9223372036854775808) (9223372036854775807)] x32.r (x32.i).toNat) →
(Px 1269 [xI x0, xI x1, xI x2, xI x3, xI x4, xI x5, x6, x7, (xB x8), x30, x31, x32] →
(((x30.i < x6.i) →
(((-1048575) ≤ x0) ∧
((x0 ≤ 1048575) ∧
(((-1048575) ≤ x1) ∧
((x1 ≤ 1048575) ∧
(((-1048575) ≤ x2) ∧
((x2 ≤ 1048575) ∧
(((-1048575) ≤ x3) ∧
((x3 ≤ 1048575) ∧
(((-1048575) ≤ x4) ∧
((x4 ≤ 1048575) ∧
(((-1048575) ≤ x5) ∧
((x5 ≤ 1048575) ∧
(((x8 = true) →
(((-1048575) ≤ x0) ∧
((x0 ≤ 1048575) ∧
(((-1048575) ≤ x1) ∧
((x1 ≤ 1048575) ∧
(((-1048575) ≤ x2) ∧
((x2 ≤ 1048575) ∧
(((-1048575) ≤ x3) ∧
((x3 ≤ 1048575) ∧
(((-1048575) ≤ x4) ∧
((x4 ≤ 1048575) ∧
(((-1048575) ≤ x5) ∧
((x5 ≤ 1048575) ∧
(let v41 := Ff 270 [xI x0, xI x1, xI x2, xI x3, xI x4, xI x5, xI x30.i]; (((-1048576) ≤ (IntKind.wrap Go.IntKind.i64 ((IntKind.wrap Go.IntKind.i64 ((IntKind.wrap Go.IntKind.i64 (x0 + x3)) - 1)) - v41.i))) ∧
(((IntKind.wrap Go.IntKind.i64 ((IntKind.wrap Go.IntKind.i64 ((IntKind.wrap Go.IntKind.i64 (x0 + x3)) - 1)) - v41.i)) ≤ 1048576) ∧
(let v44 := Ff 271 [xI x0, xI x1, xI x2, xI x3, xI x4, xI x5, xI x30.i]; let v45 := Ff 272 [xI x0, xI x1, xI x2, xI x3, xI x4, xI x5, xI x30.i]; let v46 := Ff 260 [xI x0, xI x1, xI x2, xI x3, xI x4, xI x5, (xI (IntKind.wrap Go.IntKind.i64 ((IntKind.wrap Go.IntKind.i64 ((IntKind.wrap Go.IntKind.i64 (x0 + x3)) - 1)) - v41.i))), xI v44.i, xI v45.i]; ((0 ≤ ((rwCat x31.r x31.i (rwTab 1 [v46])) x30.i 0).i) ∧
((((rwCat x31.r x31.i (rwTab 1 [v46])) x30.i 0).i < x32.i) ∧
(Px 710 [xI x0, xI x1, xI x2, xI x3, xI x4, xI x5, x6, xI v41.i, xI v44.i, xI v45.i] ∧
((x30.i < (x31.i + 1)) ∧
(((x8 == true) = true) ∧
(((x31.i + 1) ≤ 1000) ∧
(let v53 := Ff 838 [xI x0, xI x1, xI x2, xI x3, xI x4, xI x5, x6, xI v41.i, xI v44.i, xI v45.i]; (Px 1269 [xI x0, xI x1, xI x2, xI x3, xI x4, xI x5, x6, x7, (xB x8), (xI (x30.i + 1)), (mkX (rwCat x31.r x31.i (rwTab 1 [v46])) (x31.i + 1)), (mkX (rwSet x32.r ((rwCat x31.r x31.i (rwTab 1 [v46])) x30.i 0).i 0 v53) x32.i)] ∧
(let v55 := Ff 1269 [xI x0, xI x1, xI x2, xI x3, xI x4, xI x5, x6, x7, (xB x8), (xI (x30.i + 1)), (mkX (rwCat x31.r x31.i (rwTab 1 [v46])) (x31.i + 1)), (mkX (rwSet x32.r ((rwCat x31.r x31.i (rwTab 1 [v46])) x30.i 0).i 0 v53) x32.i)]; let v56 := Ff 1269 [xI x0, xI x1, xI x2, xI x3, xI x4, xI x5, x6, x7, (xB x8), x30, x31, x32]; ((v55.i < v56.i) ∧
(0 < v56.i)))))))))))))))))))))))))))) ∧
((¬ (x8 = true)) →
(((-1048575) ≤ x0) ∧
((x0 ≤ 1048575) ∧
(((-1048575) ≤ x1) ∧
((x1 ≤ 1048575) ∧
(((-1048575) ≤ x2) ∧
((x2 ≤ 1048575) ∧
(((-1048575) ≤ x3) ∧
((x3 ≤ 1048575) ∧
(((-1048575) ≤ x4) ∧
((x4 ≤ 1048575) ∧
(((-1048575) ≤ x5) ∧
((x5 ≤ 1048575) ∧
(let v71 := Ff 271 [xI x0, xI x1, xI x2, xI x3, xI x4, xI x5, xI x30.i]; (((-1048576) ≤ (IntKind.wrap Go.IntKind.i64 ((IntKind.wrap Go.IntKind.i64 ((IntKind.wrap Go.IntKind.i64 (x1 + x4)) - 1)) - v71.i))) ∧
(((IntKind.wrap Go.IntKind.i64 ((IntKind.wrap Go.IntKind.i64 ((IntKind.wrap Go.IntKind.i64 (x1 + x4)) - 1)) - v71.i)) ≤ 1048576) ∧
(let v74 := Ff 270 [xI x0, xI x1, xI x2, xI x3, xI x4, xI x5, xI x30.i]; let v75 := Ff 272 [xI x0, xI x1, xI x2, xI x3, xI x4, xI x5, xI x30.i]; let v76 := Ff 260 [xI x0, xI x1, xI x2, xI x3, xI x4, xI x5, xI v74.i, (xI (IntKind.wrap Go.IntKind.i64 ((IntKind.wrap Go.IntKind.i64 ((IntKind.wrap Go.IntKind.i64 (x1 + x4)) - 1)) - v71.i))), xI v75.i]; ((0 ≤ ((rwCat x31.r x31.i (rwTab 1 [v76])) x30.i 0).i) ∧
((((rwCat x31.r x31.i (rwTab 1 [v76])) x30.i 0).i < x32.i) ∧
(Px 710 [xI x0, xI x1, xI x2, xI x3, xI x4, xI x5, x6, xI v74.i, xI v71.i, xI v75.i] ∧
((x30.i < (x31.i + 1)) ∧
(((x8 == false) = true) ∧
(((x31.i + 1) ≤ 1000) ∧
(let v83 := Ff 838 [xI x0, xI x1, xI x2, xI x3, xI x4, xI x5, x6, xI v74.i, xI v71.i, xI v75.i]; (Px 1269 [xI x0, xI x1, xI x2, xI x3, xI x4, xI x5, x6, x7, (xB x8), (xI (x30.i + 1)), (mkX (rwCat x31.r x31.i (rwTab 1 [v76])) (x31.i + 1)), (mkX (rwSet x32.r ((rwCat x31.r x31.i (rwTab 1 [v76])) x30.i 0).i 0 v83) x32.i)] ∧
(let v85 := Ff 1269 [xI x0, xI x1, xI x2, xI x3, xI x4, xI x5, x6, x7, (xB x8), (xI (x30.i + 1)), (mkX (rwCat x31.r x31.i (rwTab 1 [v76])) (x31.i + 1)), (mkX (rwSet x32.r ((rwCat x31.r x31.i (rwTab 1 [v76])) x30.i 0).i 0 v83) x32.i)]; let v86 := Ff 1269 [xI x0, xI x1, xI x2, xI x3, xI x4, xI x5, x6, x7, (xB x8), x30, x31, x32]; ((v85.i < v86.i) ∧
(0 < v86.i)))))))))))))))))))))))))))))))))))))))))) ∧
((¬ (x30.i < x6.i)) →
(let v89 := Ff 1202 [xI x0, xI x1, xI x2, xI x3, xI x4, xI x5, x32, x7, (mkX (rwTab 1 []) 0)]; let v90 := Ff 1201 [xI x0, xI x1, xI x2, xI x3, xI x4, xI x5, x6, x7, (mkX (rwTab 1 []) 0)]; let v91 := Ff 1201 [xI x0, xI x1, xI x2, xI x3, xI x4, xI x5, x32, x7, (mkX (rwTab 1 []) 0)]; ((((((¬ (v1.i = 0)) ∨ (¬ (v89.i = 0))) ∨ (¬ (v90.i = x31.i))) ∨ (¬ (v91.i = x31.i))) →
(false = true)) ∧
((¬ ((((¬ (v1.i = 0)) ∨ (¬ (v89.i = 0))) ∨ (¬ (v90.i = x31.i))) ∨ (¬ (v91.i = x31.i)))) →
(Px 1270 [xI x0, xI x1, xI x2, xI x3, xI x4, xI x5, x6, x7, (xB x8), xI 0] ∧
(∀ x40 : X, (((0 ≤ x40.i) ∧ (x40.i ≤ 2097152)) →
(Px 1270 [xI x0, xI x1, xI x2, xI x3, xI x4, xI x5, x6, x7, (xB x8), x40] →
(((x40.i < x31.i) →
((0 ≤ (x31.r x40.i 0).i) ∧
(((x31.r x40.i 0).i < v91.i) ∧
((x40.i < x31.i) ∧
((x40.i < v90.i) ∧
(((¬ (((v90.r x40.i 0).i = (v91.r (x31.r x40.i 0).i 0).i) ∧ (((v90.r x40.i 1).i = (v91.r (x31.r x40.i 0).i 1).i) ∧ (((v90.r x40.i 2).i = (v91.r (x31.r x40.i 0).i 2).i) ∧ ((v90.r x40.i 3).i = (v91.r (x31.r x40.i 0).i 3).i))))) →
(false = true)) ∧
((((v90.r x40.i 0).i = (v91.r (x31.r x40.i 0).i 0).i) ∧ (((v90.r x40.i 1).i = (v91.r (x31.r x40.i 0).i 1).i) ∧ (((v90.r x40.i 2).i = (v91.r (x31.r x40.i 0).i 2).i) ∧ ((v90.r x40.i 3).i = (v91.r (x31.r x40.i 0).i 3).i)))) →
(Px 1270 [xI x0, xI x1, xI x2, xI x3, xI x4, xI x5, x6, x7, (xB x8), (xI (x40.i + 1))] ∧
(let v108 := Ff 1270 [xI x0, xI x1, xI x2, xI x3, xI x4, xI x5, x6, x7, (xB x8), (xI (x40.i + 1))]; let v109 := Ff 1270 [xI x0, xI x1, xI x2, xI x3, xI x4, xI x5, x6, x7, (xB x8), x40]; ((v108.i < v109.i) ∧
(0 < v109.i))))))))))) ∧
((¬ (x40.i < x31.i)) →
(true = true)))))))))))))))))))) ∧
(Px 1269 [xI x0, xI x1, xI x2, xI x3, xI x4, xI x5, x6, x7, (xB x8), xI 0, (mkX (rwTab 1 []) 0), x6] ∧
(∀ x30 : X, (∀ x31 : X, (∀ x32 : X, (((0 ≤ x30.i) ∧ (x30.i ≤ 2097152)) →
((0 ≤ x31.i ∧ x31.i ≤ 1000 ∧ RowOk [.int .i64 (-9223372036854775808) (9223372036854775807)] x31.r (x31.i).toNat) →
((0 ≤ x32.i ∧ x32.i ≤ 1000 ∧ RowOk [.int .i64 (-9223372036854775808) (9223372036854775807)] x32.r (x32.i).toNat) →
(Px 1269 [xI x0, xI x1, xI x2, xI x3, xI x4, xI x5, x6, x7, (xB x8), x30, x31, x32] →
(((x30.i < x6.i) →
(((-1048575) ≤ x0) ∧
((x0 ≤ 1048575) ∧
(((-1048575) ≤ x1) ∧
((x1 ≤ 1048575) ∧
(((-1048575) ≤ x2) ∧
((x2 ≤ 1048575) ∧
(((-1048575) ≤ x3) ∧
((x3 ≤ 1048575) ∧
(((-1048575) ≤ x4) ∧
((x4 ≤ 1048575) ∧
(((-1048575) ≤ x5) ∧
((x5 ≤ 1048575) ∧
(((x8 = true) →
(((-1048575) ≤ x0) ∧
((x0 ≤ 1048575) ∧
(((-1048575) ≤ x1) ∧
((x1 ≤ 1048575) ∧
(((-1048575) ≤ x2) ∧
((x2 ≤ 1048575) ∧
(((-1048575) ≤ x3) ∧
((x3 ≤ 1048575) ∧
(((-1048575) ≤ x4) ∧
((x4 ≤ 1048575) ∧
(((-1048575) ≤ x5) ∧
((x5 ≤ 1048575) ∧
(let v145 := Ff 270 [xI x0, xI x1, xI x2, xI x3, xI x4, xI x5, xI x30.i]; (((-1048576) ≤ (IntKind.wrap Go.IntKind.i64 ((IntKind.wrap Go.IntKind.i64 ((IntKind.wrap Go.IntKind.i64 (x0 + x3)) - 1)) - v145.i))) ∧
(((IntKind.wrap Go.IntKind.i64 ((IntKind.wrap Go.IntKind.i64 ((IntKind.wrap Go.IntKind.i64 (x0 + x3)) - 1)) - v145.i)) ≤ 1048576) ∧
(let v148 := Ff 271 [xI x0, xI x1, xI x2, xI x3, xI x4, xI x5, xI x30.i]; let v149 := Ff 272 [xI x0, xI x1, xI x2, xI x3, xI x4, xI x5, xI x30.i]; let v150 := Ff 260 [xI x0, xI x1, xI x2, xI x3, xI x4, xI x5, (xI (IntKind.wrap Go.IntKind.i64 ((IntKind.wrap Go.IntKind.i64 ((IntKind.wrap Go.IntKind.i64 (x0 + x3)) - 1)) - v145.i))), xI v148.i, xI v149.i]; ((0 ≤ ((rwCat x31.r x31.i (rwTab 1 [v150])) x30.i 0).i) ∧
((((rwCat x31.r x31.i (rwTab 1 [v150])) x30.i 0).i < x32.i) ∧
(Px 710 [xI x0, xI x1, xI x2, xI x3, xI x4, xI x5, x6, xI v145.i, xI v148.i, xI v149.i] ∧
((x30.i < (x31.i + 1)) ∧
(((x8 == true) = true) ∧
(((x31.i + 1) ≤ 1000) ∧
(let v157 := Ff 838 [xI x0, xI x1, xI x2, xI x3, xI x4, xI x5, x6, xI v145.i, xI v148.i, xI v149.i]; (Px 1269 [xI x0, xI x1, xI x2, xI x3, xI x4, xI x5, x6, x7, (xB x8), (xI (x30.i + 1)), (mkX (rwCat x31.r x31.i (rwTab 1 [v150])) (x31.i + 1)), (mkX (rwSet x32.r ((rwCat x31.r x31.i (rwTab 1 [v150])) x30.i 0).i 0 v157) x32.i)] ∧
(let v159 := Ff 1269 [xI x0, xI x1, xI x2, xI x3, xI x4, xI x5, x6, x7, (xB x8), (xI (x30.i + 1)), (mkX (rwCat x31.r x31.i (rwTab 1 [v150])) (x31.i + 1)), (mkX (rwSet x32.r ((rwCat x31.r x31.i (rwTab 1 [v150])) x30.i 0).i 0 v157) x32.i)]; let v160 := Ff 1269 [xI x0, xI x1, xI x2, xI x3, xI x4, xI x5, x6, x7, (xB x8), x30, x31, x32]; ((v159.i < v160.i) ∧
(0 < v160.i)))))))))))))))))))))))))))) ∧
((¬ (x8 = true)) →
(((-1048575) ≤ x0) ∧
((x0 ≤ 1048575) ∧
(((-1048575) ≤ x1) ∧
((x1 ≤ 1048575) ∧
(((-1048575) ≤ x2) ∧
((x2 ≤ 1048575) ∧
(((-1048575) ≤ x3) ∧
((x3 ≤ 1048575) ∧
(((-1048575) ≤ x4) ∧
((x4 ≤ 1048575) ∧
(((-1048575) ≤ x5) ∧
((x5 ≤ 1048575) ∧
(let v175 := Ff 271 [xI x0, xI x1, xI x2, xI x3, xI x4, xI x5, xI x30.i]; (((-1048576) ≤ (IntKind.wrap Go.IntKind.i64 ((IntKind.wrap Go.IntKind.i64 ((IntKind.wrap Go.IntKind.i64 (x1 + x4)) - 1)) - v175.i))) ∧
(((IntKind.wrap Go.IntKind.i64 ((IntKind.wrap Go.IntKind.i64 ((IntKind.wrap Go.IntKind.i64 (x1 + x4)) - 1)) - v175.i)) ≤ 1048576) ∧
(let v178 := Ff 270 [xI x0, xI x1, xI x2, xI x3, xI x4, xI x5, xI x30.i]; let v179 := Ff 272 [xI x0, xI x1, xI x2, xI x3, xI x4, xI x5, xI x30.i]; let v180 := Ff 260 [xI x0, xI x1, xI x2, xI x3, xI x4, xI x5, xI v178.i, (xI (IntKind.wrap Go.IntKind.i64 ((IntKind.wrap Go.IntKind.i64 ((IntKind.wrap Go.IntKind.i64 (x1 + x4)) - 1)) - v175.i))), xI v179.i]; ((0 ≤ ((rwCat x31.r x31.i (rwTab 1 [v180])) x30.i 0).i) ∧
((((rwCat x31.r x31.i (rwTab 1 [v180])) x30.i 0).i < x32.i) ∧
(Px 710 [xI x0, xI x1, xI x2, xI x3, xI x4, xI x5, x6, xI v178.i, xI v175.i, xI v179.i] ∧
((x30.i < (x31.i + 1)) ∧
(((x8 == false) = true) ∧
(((x31.i + 1) ≤ 1000) ∧
(let v187 := Ff 838 [xI x0, xI x1, xI x2, xI x3, xI x4, xI x5, x6, xI v178.i, xI v175.i, xI v179.i]; (Px 1269 [xI x0, xI x1, xI x2, xI x3, xI x4, xI x5, x6, x7, (xB x8), (xI (x30.i + 1)), (mkX (rwCat x31.r x31.i (rwTab 1 [v180])) (x31.i + 1)), (mkX (rwSet x32.r ((rwCat x31.r x31.i (rwTab 1 [v180])) x30.i 0).i 0 v187) x32.i)] ∧
(let v189 := Ff 1269 [xI x0, xI x1, xI x2, xI x3, xI x4, xI x5, x6, x7, (xB x8), (xI (x30.i + 1)), (mkX (rwCat x31.r x31.i (rwTab 1 [v180])) (x31.i + 1)), (mkX (rwSet x32.r ((rwCat x31.r x31.i (rwTab 1 [v180])) x30.i 0).i 0 v187) x32.i)]; let v190 := Ff 1269 [xI x0, xI x1, xI x2, xI x3, xI x4, xI x5, x6, x7, (xB x8), x30, x31, x32]; ((v189.i < v190.i) ∧
(0 < v190.i)))))))))))))))))))))))))))))))))))))))))) ∧
((¬ (x30.i < x6.i)) →
(let v193 := Ff 1202 [xI x0, xI x1, xI x2, xI x3, xI x4, xI x5, x32, x7, (mkX (rwTab 1 []) 0)]; let v194 := Ff 1201 [xI x0, xI x1, xI x2, xI x3, xI x4, xI x5, x6, x7, (mkX (rwTab 1 []) 0)]; let v195 := Ff 1201 [xI x0, xI x1, xI x2, xI x3, xI x4, xI x5, x32, x7, (mkX (rwTab 1 []) 0)]; ((((((¬ (v1.i = 0)) ∨ (¬ (v193.i = 0))) ∨ (¬ (v194.i = x31.i))) ∨ (¬ (v195.i = x31.i))) →
(false = true)) ∧
((¬ ((((¬ (v1.i = 0)) ∨ (¬ (v193.i = 0))) ∨ (¬ (v194.i = x31.i))) ∨ (¬ (v195.i = x31.i)))) →
(Px 1270 [xI x0, xI x1, xI x2, xI x3, xI x4, xI x5, x6, x7, (xB x8), xI 0] ∧
(∀ x40 : X, (((0 ≤ x40.i) ∧ (x40.i ≤ 2097152)) →
(Px 1270 [xI x0, xI x1, xI x2, xI x3, xI x4, xI x5, x6, x7, (xB x8), x40] →
(((x40.i < x31.i) →
((0 ≤ (x31.r x40.i 0).i) ∧
(((x31.r x40.i 0).i < v195.i) ∧
((x40.i < x31.i) ∧
((x40.i < v194.i) ∧
(((¬ (((v194.r x40.i 0).i = (v195.r (x31.r x40.i 0).i 0).i) ∧ (((v194.r x40.i 1).i = (v195.r (x31.r x40.i 0).i 1).i) ∧ (((v194.r x40.i 2).i = (v195.r (x31.r x40.i 0).i 2).i) ∧ ((v194.r x40.i 3).i = (v195.r (x31.r x40.i 0).i 3).i))))) →
(false = true)) ∧
((((v194.r x40.i 0).i = (v195.r (x31.r x40.i 0).i 0).i) ∧ (((v194.r x40.i 1).i = (v195.r (x31.r x40.i 0).i 1).i) ∧ (((v194.r x40.i 2).i = (v195.r (x31.r x40.i 0).i 2).i) ∧ ((v194.r x40.i 3).i = (v195.r (x31.r x40.i 0).i 3).i)))) →
(Px 1270 [xI x0, xI x1, xI x2, xI x3, xI x4, xI x5, x6, x7, (xB x8), (xI (x40.i + 1))] ∧
(let v212 := Ff 1270 [xI x0, xI x1, xI x2, xI x3, xI x4, xI x5, x6, x7, (xB x8), (xI (x40.i + 1))]; let v213 := Ff 1270 [xI x0, xI x1, xI x2, xI x3, xI x4, xI x5, x6, x7, (xB x8), x40]; ((v212.i < v213.i) ∧
(0 < v213.i))))))))))) ∧
((¬ (x40.i < x31.i)) →
(true = true))))))))))))))))))))) ∧
(Px 1269 [xI x0, xI x1, xI x2, xI x3, xI x4, xI x5, x6, x7, (xB x8), xI 0, (mkX (rwTab 1 []) 0), x6] ∧
(∀ x30 : X, (∀ x31 : X, (∀ x32 : X, (((0 ≤ x30.i) ∧ (x30.i ≤ 2097152)) →
((0 ≤ x31.i ∧ x31.i ≤ 1000 ∧ RowOk [.int .i64 (-9223372036854775808) (9223372036854775807)] x31.r (x31.i).toNat) →
((0 ≤ x32.i ∧ x32.i ≤ 1000 ∧ RowOk [.int .i64 (-9223372036854775808) (9223372036854775807)] x32.r (x32.i).toNat) →
(Px 1269 [xI x0, xI x1, xI x2, xI x3, xI x4, xI x5, x6, x7, (xB x8), x30, x31, x32] →
(((x30.i < x6.i) →
(((-1048575) ≤ x0) ∧
((x0 ≤ 1048575) ∧
(((-1048575) ≤ x1) ∧
((x1 ≤ 1048575) ∧
(((-1048575) ≤ x2) ∧
((x2 ≤ 1048575) ∧
(((-1048575) ≤ x3) ∧
((x3 ≤ 1048575) ∧
(((-1048575) ≤ x4) ∧
((x4 ≤ 1048575) ∧
(((-1048575) ≤ x5) ∧
((x5 ≤ 1048575) ∧
(((x8 = true) →
(((-1048575) ≤ x0) ∧
((x0 ≤ 1048575) ∧
(((-1048575) ≤ x1) ∧
((x1 ≤ 1048575) ∧
(((-1048575) ≤ x2) ∧
((x2 ≤ 1048575) ∧
(((-1048575) ≤ x3) ∧
((x3 ≤ 1048575) ∧
(((-1048575) ≤ x4) ∧
((x4 ≤ 1048575) ∧
(((-1048575) ≤ x5) ∧
((x5 ≤ 1048575) ∧
(let v249 := Ff 270 [xI x0, xI x1, xI x2, xI x3, xI x4, xI x5, xI x30.i]; (((-1048576) ≤ (IntKind.wrap Go.IntKind.i64 ((IntKind.wrap Go.IntKind.i64 ((IntKind.wrap Go.IntKind.i64 (x0 + x3)) - 1)) - v249.i))) ∧
(((IntKind.wrap Go.IntKind.i64 ((IntKind.wrap Go.IntKind.i64 ((IntKind.wrap Go.IntKind.i64 (x0 + x3)) - 1)) - v249.i)) ≤ 1048576) ∧
(let v252 := Ff 271 [xI x0, xI x1, xI x2, xI x3, xI x4, xI x5, xI x30.i]; let v253 := Ff 272 [xI x0, xI x1, xI x2, xI x3, xI x4, xI x5, xI x30.i]; let v254 := Ff 260 [xI x0, xI x1, xI x2, xI x3, xI x4, xI x5, (xI (IntKind.wrap Go.IntKind.i64 ((IntKind.wrap Go.IntKind.i64 ((IntKind.wrap Go.IntKind.i64 (x0 + x3)) - 1)) - v249.i))), xI v252.i, xI v253.i]; ((0 ≤ ((rwCat x31.r x31.i (rwTab 1 [v254])) x30.i 0).i) ∧
((((rwCat x31.r x31.i (rwTab 1 [v254])) x30.i 0).i < x32.i) ∧
(Px 710 [xI x0, xI x1, xI x2, xI x3, xI x4, xI x5, x6, xI v249.i, xI v252.i, xI v253.i] ∧
((x30.i < (x31.i + 1)) ∧
(((x8 == true) = true) ∧
(((x31.i + 1) ≤ 1000) ∧
(let v261 := Ff 838 [xI x0, xI x1, xI x2, xI x3, xI x4, xI x5, x6, xI v249.i, xI v252.i, xI v253.i]; (Px 1269 [xI x0, xI x1, xI x2, xI x3, xI x4, xI x5, x6, x7, (xB x8), (xI (x30.i + 1)), (mkX (rwCat x31.r x31.i (rwTab 1 [v254])) (x31.i + 1)), (mkX (rwSet x32.r ((rwCat x31.r x31.i (rwTab 1 [v254])) x30.i 0).i 0 v261) x32.i)] ∧
(let v263 := Ff 1269 [xI x0, xI x1, xI x2, xI x3, xI x4, xI x5, x6, x7, (xB x8), (xI (x30.i + 1)), (mkX (rwCat x31.r x31.i (rwTab 1 [v254])) (x31.i + 1)), (mkX (rwSet x32.r ((rwCat x31.r x31.i (rwTab 1 [v254])) x30.i 0).i 0 v261) x32.i)]; let v264 := Ff 1269 [xI x0, xI x1, xI x2, xI x3, xI x4, xI x5, x6, x7, (xB x8), x30, x31, x32]; ((v263.i < v264.i) ∧
(0 < v264.i)))))))))))))))))))))))))))) ∧
((¬ (x8 = true)) →
(((-1048575) ≤ x0) ∧
((x0 ≤ 1048575) ∧
(((-1048575) ≤ x1) ∧
((x1 ≤ 1048575) ∧
(((-1048575) ≤ x2) ∧
((x2 ≤ 1048575) ∧
(((-1048575) ≤ x3) ∧
((x3 ≤ 1048575) ∧
(((-1048575) ≤ x4) ∧
((x4 ≤ 1048575) ∧
(((-1048575) ≤ x5) ∧
((x5 ≤ 1048575) ∧
(let v279 := Ff 271 [xI x0, xI x1, xI x2, xI x3, xI x4, xI x5, xI x30.i]; (((-1048576) ≤ (IntKind.wrap Go.IntKind.i64 ((IntKind.wrap Go.IntKind.i64 ((IntKind.wrap Go.IntKind.i64 (x1 + x4)) - 1)) - v279.i))) ∧
(((IntKind.wrap Go.IntKind.i64 ((IntKind.wrap Go.IntKind.i64 ((IntKind.wrap Go.IntKind.i64 (x1 + x4)) - 1)) - v279.i)) ≤ 1048576) ∧
(let v282 := Ff 270 [xI x0, xI x1, xI x2, xI x3, xI x4, xI x5, xI x30.i]; let v283 := Ff 272 [xI x0, xI x1, xI x2, xI x3, xI x4, xI x5, xI x30.i]; let v284 := Ff 260 [xI x0, xI x1, xI x2, xI x3, xI x4, xI x5, xI v282.i, (xI (IntKind.wrap Go.IntKind.i64 ((IntKind.wrap Go.IntKind.i64 ((IntKind.wrap Go.IntKind.i64 (x1 + x4)) - 1)) - v279.i))), xI v283.i]; ((0 ≤ ((rwCat x31.r x31.i (rwTab 1 [v284])) x30.i 0).i) ∧
((((rwCat x31.r x31.i (rwTab 1 [v284])) x30.i 0).i < x32.i) ∧
(Px 710 [xI x0, xI x1, xI x2, xI x3, xI x4, xI x5, x6, xI v282.i, xI v279.i, xI v283.i] ∧
((x30.i < (x31.i + 1)) ∧
(((x8 == false) = true) ∧
(((x31.i + 1) ≤ 1000) ∧
(let v291 := Ff 838 [xI x0, xI x1, xI x2, xI x3, xI x4, xI x5, x6, xI v282.i, xI v279.i, xI v283.i]; (Px 1269 [xI x0, xI x1, xI x2, xI x3, xI x4, xI x5, x6, x7, (xB x8), (xI (x30.i + 1)), (mkX (rwCat x31.r x31.i (rwTab 1 [v284])) (x31.i + 1)), (mkX (rwSet x32.r ((rwCat x31.r x31.i (rwTab 1 [v284])) x30.i 0).i 0 v291) x32.i)] ∧
(let v293 := Ff 1269 [xI x0, xI x1, xI x2, xI x3, xI x4, xI x5, x6, x7, (xB x8), (xI (x30.i + 1)), (mkX (rwCat x31.r x31.i (rwTab 1 [v284])) (x31.i + 1)), (mkX (rwSet x32.r ((rwCat x31.r x31.i (rwTab 1 [v284])) x30.i 0).i 0 v291) x32.i)]; let v294 := Ff 1269 [xI x0, xI x1, xI x2, xI x3, xI x4, xI x5, x6, x7, (xB x8), x30, x31, x32]; ((v293.i < v294.i) ∧
(0 < v294.i)))))))))))))))))))))))))))))))))))))))))) ∧
((¬ (x30.i < x6.i)) →
(let v297 := Ff 1202 [xI x0, xI x1, xI x2, xI x3, xI x4, xI x5, x32, x7, (mkX (rwTab 1 []) 0)]; let v298 := Ff 1201 [xI x0, xI x1, xI x2, xI x3, xI x4, xI x5, x6, x7, (mkX (rwTab 1 []) 0)]; let v299 := Ff 1201 [xI x0, xI x1, xI x2, xI x3, xI x4, xI x5, x32, x7, (mkX (rwTab 1 []) 0)]; ((((((¬ (v1.i = 0)) ∨ (¬ (v297.i = 0))) ∨ (¬ (v298.i = x31.i))) ∨ (¬ (v299.i = x31.i))) →
(false = true)) ∧
((¬ ((((¬ (v1.i = 0)) ∨ (¬ (v297.i = 0))) ∨ (¬ (v298.i = x31.i))) ∨ (¬ (v299.i = x31.i)))) →
(Px 1270 [xI x0, xI x1, xI x2, xI x3, xI x4, xI x5, x6, x7, (xB x8), xI 0] ∧
(∀ x40 : X, (((0 ≤ x40.i) ∧ (x40.i ≤ 2097152)) →
(Px 1270 [xI x0, xI x1, xI x2, xI x3, xI x4, xI x5, x6, x7, (xB x8), x40] →
(((x40.i < x31.i) →
((0 ≤ (x31.r x40.i 0).i) ∧
(((x31.r x40.i 0).i < v299.i) ∧
((x40.i < x31.i) ∧
((x40.i < v298.i) ∧
(((¬ (((v298.r x40.i 0).i = (v299.r (x31.r x40.i 0).i 0).i) ∧ (((v298.r x40.i 1).i = (v299.r (x31.r x40.i 0).i 1).i) ∧ (((v298.r x40.i 2).i = (v299.r (x31.r x40.i 0).i 2).i) ∧ ((v298.r x40.i 3).i = (v299.r (x31.r x40.i 0).i 3).i))))) →
(false = true)) ∧
((((v298.r x40.i 0).i = (v299.r (x31.r x40.i 0).i 0).i) ∧ (((v298.r x40.i 1).i = (v299.r (x31.r x40.i 0).i 1).i) ∧ (((v298.r x40.i 2).i = (v299.r (x31.r x40.i 0).i 2).i) ∧ ((v298.r x40.i 3).i = (v299.r (x31.r x40.i 0).i 3).i)))) →
(Px 1270 [xI x0, xI x1, xI x2, xI x3, xI x4, xI x5, x6, x7, (xB x8), (xI (x40.i + 1))] ∧
(let v316 := Ff 1270 [xI x0, xI x1, xI x2, xI x3, xI x4, xI x5, x6, x7, (xB x8), (xI (x40.i + 1))]; let v317 := Ff 1270 [xI x0, xI x1, xI x2, xI x3, xI x4, xI x5, x6, x7, (xB x8), x40]; ((v316.i < v317.i) ∧
(0 < v317.i))))))))))) ∧
((¬ (x40.i < x31.i)) →
(true = true))))))))))))))))))))) ∧
(Px 1269 [xI x0, xI x1, xI x2, xI x3, xI x4, xI x5, x6, x7, (xB x8), xI 0, (mkX (rwTab 1 []) 0), x6] ∧
(∀ x30 : X, (∀ x31 : X, (∀ x32 : X, (((0 ≤ x30.i) ∧ (x30.i ≤ 2097152)) →
((0 ≤ x31.i ∧ x31.i ≤ 1000 ∧ RowOk [.int .i64 (-9223372036854775808) (9223372036854775807)] x31.r (x31.i).toNat) →
((0 ≤ x32.i ∧ x32.i ≤ 1000 ∧ RowOk [.int .i64 (-9223372036854775808) (9223372036854775807)] x32.r (x32.i).toNat) →
(Px 1269 [xI x0, xI x1, xI x2, xI x3, xI x4, xI x5, x6, x7, (xB x8), x30, x31, x32] →
(((x30.i < x6.i) →
(((-1048575) ≤ x0) ∧
((x0 ≤ 1048575) ∧
(((-1048575) ≤ x1) ∧
((x1 ≤ 1048575) ∧
(((-1048575) ≤ x2) ∧
((x2 ≤ 1048575) ∧
(((-1048575) ≤ x3) ∧
((x3 ≤ 1048575) ∧
(((-1048575) ≤ x4) ∧
((x4 ≤ 1048575) ∧
(((-1048575) ≤ x5) ∧
((x5 ≤ 1048575) ∧
(((x8 = true) →
(((-1048575) ≤ x0) ∧
((x0 ≤ 1048575) ∧
(((-1048575) ≤ x1) ∧
((x1 ≤ 1048575) ∧
(((-1048575) ≤ x2) ∧
((x2 ≤ 1048575) ∧
(((-1048575) ≤ x3) ∧
((x3 ≤ 1048575) ∧
(((-1048575) ≤ x4) ∧
((x4 ≤ 1048575) ∧
(((-1048575) ≤ x5) ∧
((x5 ≤ 1048575) ∧
(let v353 := Ff 270 [xI x0, xI x1, xI x2, xI x3, xI x4, xI x5, xI x30.i]; (((-1048576) ≤ (IntKind.wrap Go.IntKind.i64 ((IntKind.wrap Go.IntKind.i64 ((IntKind.wrap Go.IntKind.i64 (x0 + x3)) - 1)) - v353.i))) ∧
(((IntKind.wrap Go.IntKind.i64 ((IntKind.wrap Go.IntKind.i64 ((IntKind.wrap Go.IntKind.i64 (x0 + x3)) - 1)) - v353.i)) ≤ 1048576) ∧
(let v356 := Ff 271 [xI x0, xI x1, xI x2, xI x3, xI x4, xI x5, xI x30.i]; let v357 := Ff 272 [xI x0, xI x1, xI x2, xI x3, xI x4, xI x5, xI x30.i]; let v358 := Ff 260 [xI x0, xI x1, xI x2, xI x3, xI x4, xI x5, (xI (IntKind.wrap Go.IntKind.i64 ((IntKind.wrap Go.IntKind.i64 ((IntKind.wrap Go.IntKind.i64 (x0 + x3)) - 1)) - v353.i))), xI v356.i, xI v357.i]; ((0 ≤ ((rwCat x31.r x31.i (rwTab 1 [v358])) x30.i 0).i) ∧
((((rwCat x31.r x31.i (rwTab 1 [v358])) x30.i 0).i < x32.i) ∧
(Px 710 [xI x0, xI x1, xI x2, xI x3, xI x4, xI x5, x6, xI v353.i, xI v356.i, xI v357.i] ∧
((x30.i < (x31.i + 1)) ∧
(((x8 == true) = true) ∧
(((x31.i + 1) ≤ 1000) ∧
(let v365 := Ff 838 [xI x0, xI x1, xI x2, xI x3, xI x4, xI x5, x6, xI v353.i, xI v356.i, xI v357.i]; (Px 1269 [xI x0, xI x1, xI x2, xI x3, xI x4, xI x5, x6, x7, (xB x8), (xI (x30.i + 1)), (mkX (rwCat x31.r x31.i (rwTab 1 [v358])) (x31.i + 1)), (mkX (rwSet x32.r ((rwCat x31.r x31.i (rwTab 1 [v358])) x30.i 0).i 0 v365) x32.i)] ∧
(let v367 := Ff 1269 [xI x0, xI x1, xI x2, xI x3, xI x4, xI x5, x6, x7, (xB x8), (xI (x30.i + 1)), (mkX (rwCat x31.r x31.i (rwTab 1 [v358])) (x31.i + 1)), (mkX (rwSet x32.r ((rwCat x31.r x31.i (rwTab 1 [v358])) x30.i 0).i 0 v365) x32.i)]; let v368 := Ff 1269 [xI x0, xI x1, xI x2, xI x3, xI x4, xI x5, x6, x7, (xB x8), x30, x31, x32]; ((v367.i < v368.i) ∧
(0 < v368.i)))))))))))))))))))))))))))) ∧
((¬ (x8 = true)) →
(((-1048575) ≤ x0) ∧
((x0 ≤ 1048575) ∧
(((-1048575) ≤ x1) ∧
((x1 ≤ 1048575) ∧
(((-1048575) ≤ x2) ∧
((x2 ≤ 1048575) ∧
(((-1048575) ≤ x3) ∧
((x3 ≤ 1048575) ∧
(((-1048575) ≤ x4) ∧
((x4 ≤ 1048575) ∧
(((-1048575) ≤ x5) ∧
((x5 ≤ 1048575) ∧
(let v383 := Ff 271 [xI x0, xI x1, xI x2, xI x3, xI x4, xI x5, xI x30.i]; (((-1048576) ≤ (IntKind.wrap Go.IntKind.i64 ((IntKind.wrap Go.IntKind.i64 ((IntKind.wrap Go.IntKind.i64 (x1 + x4)) - 1)) - v383.i))) ∧
(((IntKind.wrap Go.IntKind.i64 ((IntKind.wrap Go.IntKind.i64 ((IntKind.wrap Go.IntKind.i64 (x1 + x4)) - 1)) - v383.i)) ≤ 1048576) ∧
(let v386 := Ff 270 [xI x0, xI x1, xI x2, xI x3, xI x4, xI x5, xI x30.i]; let v387 := Ff 272 [xI x0, xI x1, xI x2, xI x3, xI x4, xI x5, xI x30.i]; let v388 := Ff 260 [xI x0, xI x1, xI x2, xI x3, xI x4, xI x5, xI v386.i, (xI (IntKind.wrap Go.IntKind.i64 ((IntKind.wrap Go.IntKind.i64 ((IntKind.wrap Go.IntKind.i64 (x1 + x4)) - 1)) - v383.i))), xI v387.i]; ((0 ≤ ((rwCat x31.r x31.i (rwTab 1 [v388])) x30.i 0).i) ∧
((((rwCat x31.r x31.i (rwTab 1 [v388])) x30.i 0).i < x32.i) ∧
(Px 710 [xI x0, xI x1, xI x2, xI x3, xI x4, xI x5, x6, xI v386.i, xI v383.i, xI v387.i] ∧
((x30.i < (x31.i + 1)) ∧
(((x8 == false) = true) ∧
(((x31.i + 1) ≤ 1000) ∧
(let v395 := Ff 838 [xI x0, xI x1, xI x2, xI x3, xI x4, xI x5, x6, xI v386.i, xI v383.i, xI v387.i]; (Px 1269 [xI x0, xI x1, xI x2, xI x3, xI x4, xI x5, x6, x7, (xB x8), (xI (x30.i + 1)), (mkX (rwCat x31.r x31.i (rwTab 1 [v388])) (x31.i + 1)), (mkX (rwSet x32.r ((rwCat x31.r x31.i (rwTab 1 [v388])) x30.i 0).i 0 v395) x32.i)] ∧
(let v397 := Ff 1269 [xI x0, xI x1, xI x2, xI x3, xI x4, xI x5, x6, x7, (xB x8), (xI (x30.i + 1)), (mkX (rwCat x31.r x31.i (rwTab 1 [v388])) (x31.i + 1)), (mkX (rwSet x32.r ((rwCat x31.r x31.i (rwTab 1 [v388])) x30.i 0).i 0 v395) x32.i)]; let v398 := Ff 1269 [xI x0, xI x1, xI x2, xI x3, xI x4, xI x5, x6, x7, (xB x8), x30, x31, x32]; ((v397.i < v398.i) ∧
(0 < v398.i)))))))))))))))))))))))))))))))))))))))))) ∧
((¬ (x30.i < x6.i)) →
(let v401 := Ff 1202 [xI x0, xI x1, xI x2, xI x3, xI x4, xI x5, x32, x7, (mkX (rwTab 1 []) 0)]; let v402 := Ff 1201 [xI x0, xI x1, xI x2, xI x3, xI x4, xI x5, x6, x7, (mkX (rwTab 1 []) 0)]; let v403 := Ff 1201 [xI x0, xI x1, xI x2, xI x3, xI x4, xI x5, x32, x7, (mkX (rwTab 1 []) 0)]; ((((((¬ (v1.i = 0)) ∨ (¬ (v401.i = 0))) ∨ (¬ (v402.i = x31.i))) ∨ (¬ (v403.i = x31.i))) →
(false = true)) ∧
((¬ ((((¬ (v1.i = 0)) ∨ (¬ (v401.i = 0))) ∨ (¬ (v402.i = x31.i))) ∨ (¬ (v403.i = x31.i)))) →
(Px 1270 [xI x0, xI x1, xI x2, xI x3, xI x4, xI x5, x6, x7, (xB x8), xI 0] ∧
(∀ x40 : X, (((0 ≤ x40.i) ∧ (x40.i ≤ 2097152)) →
(Px 1270 [xI x0, xI x1, xI x2, xI x3, xI x4, xI x5, x6, x7, (xB x8), x40] →
(((x40.i < x31.i) →
((0 ≤ (x31.r x40.i 0).i) ∧
(((x31.r x40.i 0).i < v403.i) ∧
((x40.i < x31.i) ∧
((x40.i < v402.i) ∧
(((¬ (((v402.r x40.i 0).i = (v403.r (x31.r x40.i 0).i 0).i) ∧ (((v402.r x40.i 1).i = (v403.r (x31.r x40.i 0).i 1).i) ∧ (((v402.r x40.i 2).i = (v403.r (x31.r x40.i 0).i 2).i) ∧ ((v402.r x40.i 3).i = (v403.r (x31.r x40.i 0).i 3).i))))) →
(false = true)) ∧
((((v402.r x40.i 0).i = (v403.r (x31.r x40.i 0).i 0).i) ∧ (((v402.r x40.i 1).i = (v403.r (x31.r x40.i 0).i 1).i) ∧ (((v402.r x40.i 2).i = (v403.r (x31.r x40.i 0).i 2).i) ∧ ((v402.r x40.i 3).i = (v403.r (x31.r x40.i 0).i 3).i)))) →
(Px 1270 [xI x0, xI x1, xI x2, xI x3, xI x4, xI x5, x6, x7, (xB x8), (xI (x40.i + 1))] ∧
(let v420 := Ff 1270 [xI x0, xI x1, xI x2, xI x3, xI x4, xI x5, x6, x7, (xB x8), (xI (x40.i + 1))]; let v421 := Ff 1270 [xI x0, xI x1, xI x2, xI x3, xI x4, xI x5, x6, x7, (xB x8), x40]; ((v420.i < v421.i) ∧
(0 < v421.i))))))))))) ∧
((¬ (x40.i < x31.i)) →
(true = true))))))))))))))))))))))))
noncomputable def sh : List RSh := (shTs Tryd.prog [28, 29, 4]).getD []
attribute [irreducible] sh
theorem link (x0 x1 x2 x3 x4 x5 : Int) (x6 : X) (x7 : X) (x8 : Bool) : (walkR Tryd.prog (cfG none L33 R33k lpMir sm33) Tryd.f8 600 sh).law { ρ0 with x := fun j => [xI x0, xI x1, xI x2, xI x3, xI x4, xI x5, x6, x7, xB x8].getD j (xI 0) } = lawP x0 x1 x2 x3 x4 x5 x6 x7 x8 := by kernel_rfl
set_option maxHeartbeats 4000000 in
theorem lawP_ok (x0 x1 x2 x3 x4 x5 : Int) (x6 : X) (x7 : X) (x8 : Bool) (g0 : -9223372036854775808 ≤ x0 ∧ x0 ≤ 9223372036854775807) (g1 : -9223372036854775808 ≤ x1 ∧ x1 ≤ 9223372036854775807) (g2 : -9223372036854775808 ≤ x2 ∧ x2 ≤ 9223372036854775807) (g3 : -9223372036854775808 ≤ x3 ∧ x3 ≤ 9223372036854775807) (g4 : -9223372036854775808 ≤ x4 ∧ x4 ≤ 9223372036854775807) (g5 : -9223372036854775808 ≤ x5 ∧ x5 ≤ 9223372036854775807) (g6 : 0 ≤ x6.i ∧ x6.i ≤ 9223372036854775807 ∧ RowOk [.int .i64 (-9223372036854775808) (9223372036854775807)] x6.r x6.i.toNat) (g7 : 0 ≤ x7.i ∧ x7.i ≤ 9223372036854775807 ∧ RowOk [.str (9223372036854775807), .bool, .bool, .bool, .int .i64 (-9223372036854775808) (9223372036854775807), .int .i64 (-9223372036854775808) (9223372036854775807), .int .i64 (-9223372036854775808) (9223372036854775807), .int .i64 (-9223372036854775808) (9223372036854775807)] x7.r x7.i.toNat) : lawP x0 x1 x2 x3 x4 x5 x6 x7 x8 := by
 unfold lawP
 intro v0 v1
 refine And.intro ?_ ?_
 ·intro h3
  exact rfl
 intro h4
 have ok : okC (grX (xI x0) (xI x1) (xI x2) (xI x3) (xI x4) (xI x5) x6) x7 (mkX (rwTab 1 []) 0) = true := by
  refine Decidable.byContradiction fun hc => h4 (.inr fun h1 => ?_)
  have e : v1.i = 1 := if_neg hc
  omega
 obtain ⟨gv, ht, hkk, el, hv, hm⟩ := grok g6.1 ok
 obtain ⟨k0, k1, k2, k3, k4⟩ := (v700 g6.1).1 gv
 have k3 : (bxI x0 x1 x2 x3 x4 x5).vol = x6.i := k3
 have e0 : v1.i = 0 := if_pos ok
 have h1000 : x6.i ≤ 1000 := by omega
 have e1 : Ff 1201 [xI x0, xI x1, xI x2, xI x3, xI x4, xI x5, x6, x7, mkX (rwTab 1 []) 0] = rowF x6.i (fulF (bxI x0 x1 x2 x3 x4 x5) (lstX deI x6) x7 (mkX (rwTab 1 []) 0)) := if_pos ok
 refine And.intro ?_ ?_
 ·refine And.intro ?_ ?_
  ·refine And.intro ?_ ?_
   ·refine andI ?_ fun o8 => ?_
    ·exact ⟨Int.le_refl _, g6.1, rfl, rfl, fun j hj => absurd hj (by show ¬ (j : Int) < 0; omega)⟩
    intro x30 x31 x32 h9 r10 r11 p12
    obtain ⟨q0, q1, q2, q3, q4⟩ : 0 ≤ x30.i ∧ x30.i ≤ x6.i ∧ x31.i = x30.i ∧ x32.i = x6.i ∧ ∀ j : Nat, (j : Int) < x30.i → (x31.r j 0).i = mirI (bxI x0 x1 x2 x3 x4 x5) x8 j ∧ (x32.r (mirI (bxI x0 x1 x2 x3 x4 x5) x8 j) 0).i = (x6.r j 0).i := p12
    refine And.intro ?_ ?_
    ·intro h14
     have hat := has_def.1 (at_has (b := (bxI x0 x1 x2 x3 x4 x5)) q0 (by omega))
     obtain ⟨ax, ay, az⟩ : (x0 ≤ ((bxI x0 x1 x2 x3 x4 x5).at x30.i).1 ∧ ((bxI x0 x1 x2 x3 x4 x5).at x30.i).1 < x3) ∧ (x1 ≤ ((bxI x0 x1 x2 x3 x4 x5).at x30.i).2.1 ∧ ((bxI x0 x1 x2 x3 x4 x5).at x30.i).2.1 < x4) ∧ (x2 ≤ ((bxI x0 x1 x2 x3 x4 x5).at x30.i).2.2 ∧ ((bxI x0 x1 x2 x3 x4 x5).at x30.i).2.2 < x5) := hat
     obtain ⟨m0, m1, m2⟩ := mir_ok (b := (bxI x0 x1 x2 x3 x4 x5)) (al := x8) q0 (by omega)
     have hsel : (getL (bxI x0 x1 x2 x3 x4 x5) (lstX deI x6) ((bxI x0 x1 x2 x3 x4 x5).at x30.i)) = (x6.r x30.i 0).i := by
      rw [getL_in (at_has q0 (by omega)) k3, idx_at q0 (by omega)]
     refine andI ?_ fun o15 => ?_
     ·omega
     refine andI ?_ fun o16 => ?_
     ·omega
     refine andI ?_ fun o17 => ?_
     ·omega
     refine andI ?_ fun o18 => ?_
     ·omega
     refine andI ?_ fun o19 => ?_
     ·omega
     refine andI ?_ fun o20 => ?_
     ·omega
     refine andI ?_ fun o21 => ?_
     ·omega
     refine andI ?_ fun o22 => ?_
     ·omega
     refine andI ?_ fun o23 => ?_
     ·omega
     refine andI ?_ fun o24 => ?_
     ·omega
     refine andI ?_ fun o25 => ?_
     ·omega
     refine andI ?_ fun o26 => ?_
     ·omega
     refine And.intro ?_ ?_
     ·intro h28
      refine andI ?_ fun o29 => ?_
      ·omega
      refine andI ?_ fun o30 => ?_
      ·omega
      refine andI ?_ fun o31 => ?_
      ·omega
      refine andI ?_ fun o32 => ?_
      ·omega
      refine andI ?_ fun o33 => ?_
      ·omega
      refine andI ?_ fun o34 => ?_
      ·omega
      refine andI ?_ fun o35 => ?_
      ·omega
      refine andI ?_ fun o36 => ?_
      ·omega
      refine andI ?_ fun o37 => ?_
      ·omega
      refine andI ?_ fun o38 => ?_
      ·omega
      refine andI ?_ fun o39 => ?_
      ·omega
      refine andI ?_ fun o40 => ?_
      ·omega
      intro v41
      have e41 : v41.i = ((bxI x0 x1 x2 x3 x4 x5).at x30.i).1 := rfl
      have ew : IntKind.wrap Go.IntKind.i64 ((IntKind.wrap Go.IntKind.i64 ((IntKind.wrap Go.IntKind.i64 (x0 + x3)) - 1)) - v41.i) = x0 + x3 - 1 - ((bxI x0 x1 x2 x3 x4 x5).at x30.i).1 := by
       rw [e41, wr64 (n := x0 + x3) (by omega), wr64 (n := x0 + x3 - 1) (by omega), wr64 (by omega)]
      refine andI ?_ fun o42 => ?_
      ·rw [ew]
       omega
      refine andI ?_ fun o43 => ?_
      ·rw [ew]
       omega
      intro v44 v45 v46
      have e46 : v46.i = mirI (bxI x0 x1 x2 x3 x4 x5) x8 x30.i := by
       show (bxI x0 x1 x2 x3 x4 x5).idx (IntKind.wrap Go.IntKind.i64 ((IntKind.wrap Go.IntKind.i64 ((IntKind.wrap Go.IntKind.i64 (x0 + x3)) - 1)) - v41.i), ((bxI x0 x1 x2 x3 x4 x5).at x30.i).2.1, ((bxI x0 x1 x2 x3 x4 x5).at x30.i).2.2) = _
       rw [ew]
       unfold mirI mirP
       rw [if_pos h28]
       rfl
      have er : ((rwCat x31.r x31.i (rwTab 1 [v46])) x30.i 0).i = mirI (bxI x0 x1 x2 x3 x4 x5) x8 x30.i := by
       rw [← e46]
       unfold rwCat
       rw [if_neg (by omega), q2, Int.sub_self]
       rfl
      have hlt : ∀ j : Nat, (j : Int) < x30.i → ((rwCat x31.r x31.i (rwTab 1 [v46])) j 0).i = (x31.r j 0).i := fun j hj => by
       unfold rwCat
       rw [if_pos (by omega)]
      refine andI ?_ fun o47 => ?_
      ·rw [er]
       exact m0.1
      refine andI ?_ fun o48 => ?_
      ·rw [er]
       omega
      refine andI ?_ fun o49 => ?_
      ·exact gv
      refine andI ?_ fun o50 => ?_
      ·omega
      refine andI ?_ fun o51 => ?_
      ·rw [h28]
       rfl
      refine andI ?_ fun o52 => ?_
      ·omega
      intro v53
      refine andI ?_ fun o54 => ?_
      ·refine ⟨by show 0 ≤ x30.i + 1; omega, by show x30.i + 1 ≤ x6.i; omega, by show x31.i + 1 = x30.i + 1; omega, q3, fun j hj => ?_⟩
       have hj : (j : Int) < x30.i + 1 := hj
       show ((rwCat x31.r x31.i (rwTab 1 [v46])) j 0).i = mirI (bxI x0 x1 x2 x3 x4 x5) x8 j ∧ (if mirI (bxI x0 x1 x2 x3 x4 x5) x8 j = ((rwCat x31.r x31.i (rwTab 1 [v46])) x30.i 0).i ∧ (0 : Int) = 0 then v53.y else x32.r (mirI (bxI x0 x1 x2 x3 x4 x5) x8 j) 0).i = (x6.r j 0).i
       rw [er]
       by_cases he : (j : Int) = x30.i
       ·rw [he, er, if_pos ⟨rfl, rfl⟩]
        exact ⟨rfl, hsel⟩
       ·obtain ⟨a, d⟩ := q4 j (by omega)
        obtain ⟨n0, n1, n2⟩ := mir_ok (b := (bxI x0 x1 x2 x3 x4 x5)) (al := x8) (i := j) (by omega) (by omega)
        rw [hlt j (by omega), if_neg fun hc => he (by rw [← n1, hc.1, m1])]
        exact ⟨a, d⟩
      intro v55 v56
      refine andI ?_ fun o57 => ?_
      ·show x6.i + 1 - (x30.i + 1) < x6.i + 1 - x30.i
       omega
      show 0 < x6.i + 1 - x30.i
      omega
     intro h58
     refine andI ?_ fun o59 => ?_
     ·omega
     refine andI ?_ fun o60 => ?_
     ·omega
     refine andI ?_ fun o61 => ?_
     ·omega
     refine andI ?_ fun o62 => ?_
     ·omega
     refine andI ?_ fun o63 => ?_
     ·omega
     refine andI ?_ fun o64 => ?_
     ·omega
     refine andI ?_ fun o65 => ?_
     ·omega
     refine andI ?_ fun o66 => ?_
     ·omega
     refine andI ?_ fun o67 => ?_
     ·omega
     refine andI ?_ fun o68 => ?_
     ·omega
     refine andI ?_ fun o69 => ?_
     ·omega
     refine andI ?_ fun o70 => ?_
     ·omega
     intro v71
     have e71 : v71.i = ((bxI x0 x1 x2 x3 x4 x5).at x30.i).2.1 := rfl
     have ew : IntKind.wrap Go.IntKind.i64 ((IntKind.wrap Go.IntKind.i64 ((IntKind.wrap Go.IntKind.i64 (x1 + x4)) - 1)) - v71.i) = x1 + x4 - 1 - ((bxI x0 x1 x2 x3 x4 x5).at x30.i).2.1 := by
      rw [e71, wr64 (n := x1 + x4) (by omega), wr64 (n := x1 + x4 - 1) (by omega), wr64 (by omega)]
     refine andI ?_ fun o72 => ?_
     ·rw [ew]
      omega
     refine andI ?_ fun o73 => ?_
     ·rw [ew]
      omega
     intro v74 v75 v76
     have e76 : v76.i = mirI (bxI x0 x1 x2 x3 x4 x5) x8 x30.i := by
      show (bxI x0 x1 x2 x3 x4 x5).idx (((bxI x0 x1 x2 x3 x4 x5).at x30.i).1, IntKind.wrap Go.IntKind.i64 ((IntKind.wrap Go.IntKind.i64 ((IntKind.wrap Go.IntKind.i64 (x1 + x4)) - 1)) - v71.i), ((bxI x0 x1 x2 x3 x4 x5).at x30.i).2.2) = _
      rw [ew]
      unfold mirI mirP
      rw [if_neg h58]
      rfl
     have er : ((rwCat x31.r x31.i (rwTab 1 [v76])) x30.i 0).i = mirI (bxI x0 x1 x2 x3 x4 x5) x8 x30.i := by
      rw [← e76]
      unfold rwCat
      rw [if_neg (by omega), q2, Int.sub_self]
      rfl
     have hlt : ∀ j : Nat, (j : Int) < x30.i → ((rwCat x31.r x31.i (rwTab 1 [v76])) j 0).i = (x31.r j 0).i := fun j hj => by
      unfold rwCat
      rw [if_pos (by omega)]
     refine andI ?_ fun o77 => ?_
     ·rw [er]
      exact m0.1
     refine andI ?_ fun o78 => ?_
     ·rw [er]
      omega
     refine andI ?_ fun o79 => ?_
     ·exact gv
     refine andI ?_ fun o80 => ?_
     ·omega
     refine andI ?_ fun o81 => ?_
     ·rw [Bool.not_eq_true] at h58
      rw [h58]
      rfl
     refine andI ?_ fun o82 => ?_
     ·omega
     intro v83
     refine andI ?_ fun o84 => ?_
     ·refine ⟨by show 0 ≤ x30.i + 1; omega, by show x30.i + 1 ≤ x6.i; omega, by show x31.i + 1 = x30.i + 1; omega, q3, fun j hj => ?_⟩
      have hj : (j : Int) < x30.i + 1 := hj
      show ((rwCat x31.r x31.i (rwTab 1 [v76])) j 0).i = mirI (bxI x0 x1 x2 x3 x4 x5) x8 j ∧ (if mirI (bxI x0 x1 x2 x3 x4 x5) x8 j = ((rwCat x31.r x31.i (rwTab 1 [v76])) x30.i 0).i ∧ (0 : Int) = 0 then v83.y else x32.r (mirI (bxI x0 x1 x2 x3 x4 x5) x8 j) 0).i = (x6.r j 0).i
      rw [er]
      by_cases he : (j : Int) = x30.i
      ·rw [he, er, if_pos ⟨rfl, rfl⟩]
       exact ⟨rfl, hsel⟩
      ·obtain ⟨a, d⟩ := q4 j (by omega)
       obtain ⟨n0, n1, n2⟩ := mir_ok (b := (bxI x0 x1 x2 x3 x4 x5)) (al := x8) (i := j) (by omega) (by omega)
       rw [hlt j (by omega), if_neg fun hc => he (by rw [← n1, hc.1, m1])]
       exact ⟨a, d⟩
     intro v85 v86
     refine andI ?_ fun o87 => ?_
     ·show x6.i + 1 - (x30.i + 1) < x6.i + 1 - x30.i
      omega
     show 0 < x6.i + 1 - x30.i
     omega
    intro h88
    have q5 : ∀ j : Int, 0 ≤ j → j < x6.i → (x31.r j 0).i = mirI (bxI x0 x1 x2 x3 x4 x5) x8 j ∧ (x32.r (mirI (bxI x0 x1 x2 x3 x4 x5) x8 j) 0).i = (x6.r j 0).i := fun j a d => by
     have := q4 j.toNat (by omega)
     rwa [Int.toNat_of_nonneg a] at this
    have el2 : ((lstX deI x32).length : Int) = x32.i := by rw [lstX_len]; omega
    have hc : ∀ j : Int, 0 ≤ j → j < (lstX deI x6).length → (lstX deI x32).getD (mirI (bxI x0 x1 x2 x3 x4 x5) x8 j).toNat 0 = (lstX deI x6).getD j.toNat 0 := fun j a d => by
     obtain ⟨n0, n1, n2⟩ := mir_ok (b := (bxI x0 x1 x2 x3 x4 x5)) (al := x8) (i := j) a (by omega)
     rw [lxI_at n0.1 (by omega), lxI_at a (by omega)]
     exact (q5 j a (by omega)).2
    have ok2 : okC (grX (xI x0) (xI x1) (xI x2) (xI x3) (xI x4) (xI x5) x32) x7 (mkX (rwTab 1 []) 0) = true := by
     refine okC_iff.2 ⟨(v700 (l := x32) (by omega)).2 ⟨k0, k1, k2, by rw [q3]; exact k3, ?_⟩, ht, .inl rfl⟩
     rw [List.all_eq_true]
     intro y hy
     obtain ⟨i, hi, rfl⟩ := List.mem_iff_getElem.1 hy
     obtain ⟨n0, n1, n2⟩ := mir_ok (b := (bxI x0 x1 x2 x3 x4 x5)) (al := x8) (i := i) (by omega) (by omega)
     have h1 := hc (mirI (bxI x0 x1 x2 x3 x4 x5) x8 i) n0.1 (by omega)
     rw [n1, lxI_at (o := x6) n0.1 (by omega)] at h1
     have h2 : (lstX deI x32)[i] = (x6.r (mirI (bxI x0 x1 x2 x3 x4 x5) x8 i) 0).i := by
      rw [← h1, List.getD_eq_getElem?_getD, Int.toNat_natCast, List.getElem?_eq_getElem hi]
      rfl
     rw [h2]
     exact lxI_allA n0.1 (by omega) k4
    have e2 : Ff 1201 [xI x0, xI x1, xI x2, xI x3, xI x4, xI x5, x32, x7, mkX (rwTab 1 []) 0] = rowF x32.i (fulF (bxI x0 x1 x2 x3 x4 x5) (lstX deI x32) x7 (mkX (rwTab 1 []) 0)) := if_pos ok2
    have e20 : (Ff 1202 [xI x0, xI x1, xI x2, xI x3, xI x4, xI x5, x32, x7, mkX (rwTab 1 []) 0]).i = 0 := if_pos ok2
    have hF : ∀ i c : Int, 0 ≤ i → i < x6.i → 0 ≤ c → c < 4 → fulF (bxI x0 x1 x2 x3 x4 x5) (lstX deI x6) x7 (mkX (rwTab 1 []) 0) i c = fulF (bxI x0 x1 x2 x3 x4 x5) (lstX deI x32) x7 (mkX (rwTab 1 []) 0) (mirI (bxI x0 x1 x2 x3 x4 x5) x8 i) c := fun i c a d e f => ful_mir hv (by omega) ht rfl hc a (by omega) e f
    intro v89 v90
    have e90 : v90 = rowF x6.i (fulF (bxI x0 x1 x2 x3 x4 x5) (lstX deI x6) x7 (mkX (rwTab 1 []) 0)) := e1
    intro v91
    have e91 : v91 = rowF x32.i (fulF (bxI x0 x1 x2 x3 x4 x5) (lstX deI x32) x7 (mkX (rwTab 1 []) 0)) := e2
    have l90 : v90.i = x6.i := by rw [e90]; rfl
    have l91 : v91.i = x32.i := by rw [e91]; rfl
    refine And.intro ?_ ?_
    ·intro h93
     refine absurd h93 fun hc => ?_
     rcases hc with ((hc | hc) | hc) | hc
     ·exact hc e0
     ·exact hc e20
     ·omega
     ·omega
    intro h94
    refine andI ?_ fun o95 => ?_
    ·exact Int.le_refl _
    intro x40 h96 p97
    have p0 : 0 ≤ x40.i := p97
    refine And.intro ?_ ?_
    ·intro h99
     have i1 : x40.i < x6.i := by omega
     obtain ⟨n0, n1, n2⟩ := mir_ok (b := (bxI x0 x1 x2 x3 x4 x5)) (al := x8) (i := x40.i) p0 (by omega)
     have et := (q5 x40.i p0 i1).1
     refine andI ?_ fun o100 => ?_
     ·rw [et]
      exact n0.1
     refine andI ?_ fun o101 => ?_
     ·rw [et]
      omega
     refine andI ?_ fun o102 => ?_
     ·omega
     refine andI ?_ fun o103 => ?_
     ·omega
     refine And.intro ?_ ?_
     ·intro h105
      refine absurd ?_ h105
      rw [et, e90, e91]
      exact ⟨hF x40.i 0 p0 i1 (by decide) (by decide), hF x40.i 1 p0 i1 (by decide) (by decide), hF x40.i 2 p0 i1 (by decide) (by decide), hF x40.i 3 p0 i1 (by decide) (by decide)⟩
     intro h106
     refine andI ?_ fun o107 => ?_
     ·show 0 ≤ x40.i + 1
      omega
     intro v108 v109
     refine andI ?_ fun o110 => ?_
     ·show x6.i + 1 - (x40.i + 1) < x6.i + 1 - x40.i
      omega
     show 0 < x6.i + 1 - x40.i
     omega
    intro h111
    exact rfl
   refine andI ?_ fun o112 => ?_
   ·exact ⟨Int.le_refl _, g6.1, rfl, rfl, fun j hj => absurd hj (by show ¬ (j : Int) < 0; omega)⟩
   intro x30 x31 x32 h113 r114 r115 p116
   obtain ⟨q0, q1, q2, q3, q4⟩ : 0 ≤ x30.i ∧ x30.i ≤ x6.i ∧ x31.i = x30.i ∧ x32.i = x6.i ∧ ∀ j : Nat, (j : Int) < x30.i → (x31.r j 0).i = mirI (bxI x0 x1 x2 x3 x4 x5) x8 j ∧ (x32.r (mirI (bxI x0 x1 x2 x3 x4 x5) x8 j) 0).i = (x6.r j 0).i := p116
   refine And.intro ?_ ?_
   ·intro h118
    have hat := has_def.1 (at_has (b := (bxI x0 x1 x2 x3 x4 x5)) q0 (by omega))
    obtain ⟨ax, ay, az⟩ : (x0 ≤ ((bxI x0 x1 x2 x3 x4 x5).at x30.i).1 ∧ ((bxI x0 x1 x2 x3 x4 x5).at x30.i).1 < x3) ∧ (x1 ≤ ((bxI x0 x1 x2 x3 x4 x5).at x30.i).2.1 ∧ ((bxI x0 x1 x2 x3 x4 x5).at x30.i).2.1 < x4) ∧ (x2 ≤ ((bxI x0 x1 x2 x3 x4 x5).at x30.i).2.2 ∧ ((bxI x0 x1 x2 x3 x4 x5).at x30.i).2.2 < x5) := hat
    obtain ⟨m0, m1, m2⟩ := mir_ok (b := (bxI x0 x1 x2 x3 x4 x5)) (al := x8) q0 (by omega)
    have hsel : (getL (bxI x0 x1 x2 x3 x4 x5) (lstX deI x6) ((bxI x0 x1 x2 x3 x4 x5).at x30.i)) = (x6.r x30.i 0).i := by
     rw [getL_in (at_has q0 (by omega)) k3, idx_at q0 (by omega)]
    refine andI ?_ fun o119 => ?_
    ·omega
    refine andI ?_ fun o120 => ?_
    ·omega
    refine andI ?_ fun o121 => ?_
    ·omega
    refine andI ?_ fun o122 => ?_
    ·omega
    refine andI ?_ fun o123 => ?_
    ·omega
    refine andI ?_ fun o124 => ?_
    ·omega
    refine andI ?_ fun o125 => ?_
    ·omega
    refine andI ?_ fun o126 => ?_
    ·omega
    refine andI ?_ fun o127 => ?_
    ·omega
    refine andI ?_ fun o128 => ?_
    ·omega
    refine andI ?_ fun o129 => ?_
    ·omega
    refine andI ?_ fun o130 => ?_
    ·omega
    refine And.intro ?_ ?_
    ·intro h132
     refine andI ?_ fun o133 => ?_
     ·omega
     refine andI ?_ fun o134 => ?_
     ·omega
     refine andI ?_ fun o135 => ?_
     ·omega
     refine andI ?_ fun o136 => ?_
     ·omega
     refine andI ?_ fun o137 => ?_
     ·omega
     refine andI ?_ fun o138 => ?_
     ·omega
     refine andI ?_ fun o139 => ?_
     ·omega
     refine andI ?_ fun o140 => ?_
     ·omega
     refine andI ?_ fun o141 => ?_
     ·omega
     refine andI ?_ fun o142 => ?_
     ·omega
     refine andI ?_ fun o143 => ?_
     ·omega
     refine andI ?_ fun o144 => ?_
     ·omega
     intro v145
     have e41 : v145.i = ((bxI x0 x1 x2 x3 x4 x5).at x30.i).1 := rfl
     have ew : IntKind.wrap Go.IntKind.i64 ((IntKind.wrap Go.IntKind.i64 ((IntKind.wrap Go.IntKind.i64 (x0 + x3)) - 1)) - v145.i) = x0 + x3 - 1 - ((bxI x0 x1 x2 x3 x4 x5).at x30.i).1 := by
      rw [e41, wr64 (n := x0 + x3) (by omega), wr64 (n := x0 + x3 - 1) (by omega), wr64 (by omega)]
     refine andI ?_ fun o146 => ?_
     ·rw [ew]
      omega
     refine andI ?_ fun o147 => ?_
     ·rw [ew]
      omega
     intro v148 v149 v150
     have e46 : v150.i = mirI (bxI x0 x1 x2 x3 x4 x5) x8 x30.i := by
      show (bxI x0 x1 x2 x3 x4 x5).idx (IntKind.wrap Go.IntKind.i64 ((IntKind.wrap Go.IntKind.i64 ((IntKind.wrap Go.IntKind.i64 (x0 + x3)) - 1)) - v145.i), ((bxI x0 x1 x2 x3 x4 x5).at x30.i).2.1, ((bxI x0 x1 x2 x3 x4 x5).at x30.i).2.2) = _
      rw [ew]
      unfold mirI mirP
      rw [if_pos h132]
      rfl
     have er : ((rwCat x31.r x31.i (rwTab 1 [v150])) x30.i 0).i = mirI (bxI x0 x1 x2 x3 x4 x5) x8 x30.i := by
      rw [← e46]
      unfold rwCat
      rw [if_neg (by omega), q2, Int.sub_self]
      rfl
     have hlt : ∀ j : Nat, (j : Int) < x30.i → ((rwCat x31.r x31.i (rwTab 1 [v150])) j 0).i = (x31.r j 0).i := fun j hj => by
      unfold rwCat
      rw [if_pos (by omega)]
     refine andI ?_ fun o151 => ?_
     ·rw [er]
      exact m0.1
     refine andI ?_ fun o152 => ?_
     ·rw [er]
      omega
     refine andI ?_ fun o153 => ?_
     ·exact gv
     refine andI ?_ fun o154 => ?_
     ·omega
     refine andI ?_ fun o155 => ?_
     ·rw [h132]
      rfl
     refine andI ?_ fun o156 => ?_
     ·omega
     intro v157
     refine andI ?_ fun o158 => ?_
     ·refine ⟨by show 0 ≤ x30.i + 1; omega, by show x30.i + 1 ≤ x6.i; omega, by show x31.i + 1 = x30.i + 1; omega, q3, fun j hj => ?_⟩
      have hj : (j : Int) < x30.i + 1 := hj
      show ((rwCat x31.r x31.i (rwTab 1 [v150])) j 0).i = mirI (bxI x0 x1 x2 x3 x4 x5) x8 j ∧ (if mirI (bxI x0 x1 x2 x3 x4 x5) x8 j = ((rwCat x31.r x31.i (rwTab 1 [v150])) x30.i 0).i ∧ (0 : Int) = 0 then v157.y else x32.r (mirI (bxI x0 x1 x2 x3 x4 x5) x8 j) 0).i = (x6.r j 0).i
      rw [er]
      by_cases he : (j : Int) = x30.i
      ·rw [he, er, if_pos ⟨rfl, rfl⟩]
       exact ⟨rfl, hsel⟩
      ·obtain ⟨a, d⟩ := q4 j (by omega)
       obtain ⟨n0, n1, n2⟩ := mir_ok (b := (bxI x0 x1 x2 x3 x4 x5)) (al := x8) (i := j) (by omega) (by omega)
       rw [hlt j (by omega), if_neg fun hc => he (by rw [← n1, hc.1, m1])]
       exact ⟨a, d⟩
     intro v159 v160
     refine andI ?_ fun o161 => ?_
     ·show x6.i + 1 - (x30.i + 1) < x6.i + 1 - x30.i
      omega
     show 0 < x6.i + 1 - x30.i
     omega
    intro h162
    refine andI ?_ fun o163 => ?_
    ·omega
    refine andI ?_ fun o164 => ?_
    ·omega
    refine andI ?_ fun o165 => ?_
    ·omega
    refine andI ?_ fun o166 => ?_
    ·omega
    refine andI ?_ fun o167 => ?_
    ·omega
    refine andI ?_ fun o168 => ?_
    ·omega
    refine andI ?_ fun o169 => ?_
    ·omega
    refine andI ?_ fun o170 => ?_
    ·omega
    refine andI ?_ fun o171 => ?_
    ·omega
    refine andI ?_ fun o172 => ?_
    ·omega
    refine andI ?_ fun o173 => ?_
    ·omega
    refine andI ?_ fun o174 => ?_
    ·omega
    intro v175
    have e71 : v175.i = ((bxI x0 x1 x2 x3 x4 x5).at x30.i).2.1 := rfl
    have ew : IntKind.wrap Go.IntKind.i64 ((IntKind.wrap Go.IntKind.i64 ((IntKind.wrap Go.IntKind.i64 (x1 + x4)) - 1)) - v175.i) = x1 + x4 - 1 - ((bxI x0 x1 x2 x3 x4 x5).at x30.i).2.1 := by
     rw [e71, wr64 (n := x1 + x4) (by omega), wr64 (n := x1 + x4 - 1) (by omega), wr64 (by omega)]
    refine andI ?_ fun o176 => ?_
    ·rw [ew]
     omega
    refine andI ?_ fun o177 => ?_
    ·rw [ew]
     omega
    intro v178 v179 v180
    have e76 : v180.i = mirI (bxI x0 x1 x2 x3 x4 x5) x8 x30.i := by
     show (bxI x0 x1 x2 x3 x4 x5).idx (((bxI x0 x1 x2 x3 x4 x5).at x30.i).1, IntKind.wrap Go.IntKind.i64 ((IntKind.wrap Go.IntKind.i64 ((IntKind.wrap Go.IntKind.i64 (x1 + x4)) - 1)) - v175.i), ((bxI x0 x1 x2 x3 x4 x5).at x30.i).2.2) = _
     rw [ew]
     unfold mirI mirP
     rw [if_neg h162]
     rfl
    have er : ((rwCat x31.r x31.i (rwTab 1 [v180])) x30.i 0).i = mirI (bxI x0 x1 x2 x3 x4 x5) x8 x30.i := by
     rw [← e76]
     unfold rwCat
     rw [if_neg (by omega), q2, Int.sub_self]
     rfl
    have hlt : ∀ j : Nat, (j : Int) < x30.i → ((rwCat x31.r x31.i (rwTab 1 [v180])) j 0).i = (x31.r j 0).i := fun j hj => by
     unfold rwCat
     rw [if_pos (by omega)]
    refine andI ?_ fun o181 => ?_
    ·rw [er]
     exact m0.1
    refine andI ?_ fun o182 => ?_
    ·rw [er]
     omega
    refine andI ?_ fun o183 => ?_
    ·exact gv
    refine andI ?_ fun o184 => ?_
    ·omega
    refine andI ?_ fun o185 => ?_
    ·rw [Bool.not_eq_true] at h162
     rw [h162]
     rfl
    refine andI ?_ fun o186 => ?_
    ·omega
    intro v187
    refine andI ?_ fun o188 => ?_
    ·refine ⟨by show 0 ≤ x30.i + 1; omega, by show x30.i + 1 ≤ x6.i; omega, by show x31.i + 1 = x30.i + 1; omega, q3, fun j hj => ?_⟩
     have hj : (j : Int) < x30.i + 1 := hj
     show ((rwCat x31.r x31.i (rwTab 1 [v180])) j 0).i = mirI (bxI x0 x1 x2 x3 x4 x5) x8 j ∧ (if mirI (bxI x0 x1 x2 x3 x4 x5) x8 j = ((rwCat x31.r x31.i (rwTab 1 [v180])) x30.i 0).i ∧ (0 : Int) = 0 then v187.y else x32.r (mirI (bxI x0 x1 x2 x3 x4 x5) x8 j) 0).i = (x6.r j 0).i
     rw [er]
     by_cases he : (j : Int) = x30.i
     ·rw [he, er, if_pos ⟨rfl, rfl⟩]
      exact ⟨rfl, hsel⟩
     ·obtain ⟨a, d⟩ := q4 j (by omega)
      obtain ⟨n0, n1, n2⟩ := mir_ok (b := (bxI x0 x1 x2 x3 x4 x5)) (al := x8) (i := j) (by omega) (by omega)
      rw [hlt j (by omega), if_neg fun hc => he (by rw [← n1, hc.1, m1])]
      exact ⟨a, d⟩
    intro v189 v190
    refine andI ?_ fun o191 => ?_
    ·show x6.i + 1 - (x30.i + 1) < x6.i + 1 - x30.i
     omega
    show 0 < x6.i + 1 - x30.i
    omega
   intro h192
   have q5 : ∀ j : Int, 0 ≤ j → j < x6.i → (x31.r j 0).i = mirI (bxI x0 x1 x2 x3 x4 x5) x8 j ∧ (x32.r (mirI (bxI x0 x1 x2 x3 x4 x5) x8 j) 0).i = (x6.r j 0).i := fun j a d => by
    have := q4 j.toNat (by omega)
    rwa [Int.toNat_of_nonneg a] at this
   have el2 : ((lstX deI x32).length : Int) = x32.i := by rw [lstX_len]; omega
   have hc : ∀ j : Int, 0 ≤ j → j < (lstX deI x6).length → (lstX deI x32).getD (mirI (bxI x0 x1 x2 x3 x4 x5) x8 j).toNat 0 = (lstX deI x6).getD j.toNat 0 := fun j a d => by
    obtain ⟨n0, n1, n2⟩ := mir_ok (b := (bxI x0 x1 x2 x3 x4 x5)) (al := x8) (i := j) a (by omega)
    rw [lxI_at n0.1 (by omega), lxI_at a (by omega)]
    exact (q5 j a (by omega)).2
   have ok2 : okC (grX (xI x0) (xI x1) (xI x2) (xI x3) (xI x4) (xI x5) x32) x7 (mkX (rwTab 1 []) 0) = true := by
    refine okC_iff.2 ⟨(v700 (l := x32) (by omega)).2 ⟨k0, k1, k2, by rw [q3]; exact k3, ?_⟩, ht, .inl rfl⟩
    rw [List.all_eq_true]
    intro y hy
    obtain ⟨i, hi, rfl⟩ := List.mem_iff_getElem.1 hy
    obtain ⟨n0, n1, n2⟩ := mir_ok (b := (bxI x0 x1 x2 x3 x4 x5)) (al := x8) (i := i) (by omega) (by omega)
    have h1 := hc (mirI (bxI x0 x1 x2 x3 x4 x5) x8 i) n0.1 (by omega)
    rw [n1, lxI_at (o := x6) n0.1 (by omega)] at h1
    have h2 : (lstX deI x32)[i] = (x6.r (mirI (bxI x0 x1 x2 x3 x4 x5) x8 i) 0).i := by
     rw [← h1, List.getD_eq_getElem?_getD, Int.toNat_natCast, List.getElem?_eq_getElem hi]
     rfl
    rw [h2]
    exact lxI_allA n0.1 (by omega) k4
   have e2 : Ff 1201 [xI x0, xI x1, xI x2, xI x3, xI x4, xI x5, x32, x7, mkX (rwTab 1 []) 0] = rowF x32.i (fulF (bxI x0 x1 x2 x3 x4 x5) (lstX deI x32) x7 (mkX (rwTab 1 []) 0)) := if_pos ok2
   have e20 : (Ff 1202 [xI x0, xI x1, xI x2, xI x3, xI x4, xI x5, x32, x7, mkX (rwTab 1 []) 0]).i = 0 := if_pos ok2
   have hF : ∀ i c : Int, 0 ≤ i → i < x6.i → 0 ≤ c → c < 4 → fulF (bxI x0 x1 x2 x3 x4 x5) (lstX deI x6) x7 (mkX (rwTab 1 []) 0) i c = fulF (bxI x0 x1 x2 x3 x4 x5) (lstX deI x32) x7 (mkX (rwTab 1 []) 0) (mirI (bxI x0 x1 x2 x3 x4 x5) x8 i) c := fun i c a d e f => ful_mir hv (by omega) ht rfl hc a (by omega) e f
   intro v193 v194
   have e90 : v194 = rowF x6.i (fulF (bxI x0 x1 x2 x3 x4 x5) (lstX deI x6) x7 (mkX (rwTab 1 []) 0)) := e1
   intro v195
   have e91 : v195 = rowF x32.i (fulF (bxI x0 x1 x2 x3 x4 x5) (lstX deI x32) x7 (mkX (rwTab 1 []) 0)) := e2
   have l90 : v194.i = x6.i := by rw [e90]; rfl
   have l91 : v195.i = x32.i := by rw [e91]; rfl
   refine And.intro ?_ ?_
   ·intro h197
    refine absurd h197 fun hc => ?_
    rcases hc with ((hc | hc) | hc) | hc
    ·exact hc e0
    ·exact hc e20
    ·omega
    ·omega
   intro h198
   refine andI ?_ fun o199 => ?_
   ·exact Int.le_refl _
   intro x40 h200 p201
   have p0 : 0 ≤ x40.i := p201
   refine And.intro ?_ ?_
   ·intro h203
    have i1 : x40.i < x6.i := by omega
    obtain ⟨n0, n1, n2⟩ := mir_ok (b := (bxI x0 x1 x2 x3 x4 x5)) (al := x8) (i := x40.i) p0 (by omega)
    have et := (q5 x40.i p0 i1).1
    refine andI ?_ fun o204 => ?_
    ·rw [et]
     exact n0.1
    refine andI ?_ fun o205 => ?_
    ·rw [et]
     omega
    refine andI ?_ fun o206 => ?_
    ·omega
    refine andI ?_ fun o207 => ?_
    ·omega
    refine And.intro ?_ ?_
    ·intro h209
     refine absurd ?_ h209
     rw [et, e90, e91]
     exact ⟨hF x40.i 0 p0 i1 (by decide) (by decide), hF x40.i 1 p0 i1 (by decide) (by decide), hF x40.i 2 p0 i1 (by decide) (by decide), hF x40.i 3 p0 i1 (by decide) (by decide)⟩
    intro h210
    refine andI ?_ fun o211 => ?_
    ·show 0 ≤ x40.i + 1
     omega
    intro v212 v213
    refine andI ?_ fun o214 => ?_
    ·show x6.i + 1 - (x40.i + 1) < x6.i + 1 - x40.i
     omega
    show 0 < x6.i + 1 - x40.i
    omega
   intro h215
   exact rfl
  refine andI ?_ fun o216 => ?_
  ·exact ⟨Int.le_refl _, g6.1, rfl, rfl, fun j hj => absurd hj (by show ¬ (j : Int) < 0; omega)⟩
  intro x30 x31 x32 h217 r218 r219 p220
  obtain ⟨q0, q1, q2, q3, q4⟩ : 0 ≤ x30.i ∧ x30.i ≤ x6.i ∧ x31.i = x30.i ∧ x32.i = x6.i ∧ ∀ j : Nat, (j : Int) < x30.i → (x31.r j 0).i = mirI (bxI x0 x1 x2 x3 x4 x5) x8 j ∧ (x32.r (mirI (bxI x0 x1 x2 x3 x4 x5) x8 j) 0).i = (x6.r j 0).i := p220
  refine And.intro ?_ ?_
  ·intro h222
   have hat := has_def.1 (at_has (b := (bxI x0 x1 x2 x3 x4 x5)) q0 (by omega))
   obtain ⟨ax, ay, az⟩ : (x0 ≤ ((bxI x0 x1 x2 x3 x4 x5).at x30.i).1 ∧ ((bxI x0 x1 x2 x3 x4 x5).at x30.i).1 < x3) ∧ (x1 ≤ ((bxI x0 x1 x2 x3 x4 x5).at x30.i).2.1 ∧ ((bxI x0 x1 x2 x3 x4 x5).at x30.i).2.1 < x4) ∧ (x2 ≤ ((bxI x0 x1 x2 x3 x4 x5).at x30.i).2.2 ∧ ((bxI x0 x1 x2 x3 x4 x5).at x30.i).2.2 < x5) := hat
   obtain ⟨m0, m1, m2⟩ := mir_ok (b := (bxI x0 x1 x2 x3 x4 x5)) (al := x8) q0 (by omega)
   have hsel : (getL (bxI x0 x1 x2 x3 x4 x5) (lstX deI x6) ((bxI x0 x1 x2 x3 x4 x5).at x30.i)) = (x6.r x30.i 0).i := by
    rw [getL_in (at_has q0 (by omega)) k3, idx_at q0 (by omega)]
   refine andI ?_ fun o223 => ?_
   ·omega
   refine andI ?_ fun o224 => ?_
   ·omega
   refine andI ?_ fun o225 => ?_
   ·omega
   refine andI ?_ fun o226 => ?_
   ·omega
   refine andI ?_ fun o227 => ?_
   ·omega
   refine andI ?_ fun o228 => ?_
   ·omega
   refine andI ?_ fun o229 => ?_
   ·omega
   refine andI ?_ fun o230 => ?_
   ·omega
   refine andI ?_ fun o231 => ?_
   ·omega
   refine andI ?_ fun o232 => ?_
   ·omega
   refine andI ?_ fun o233 => ?_
   ·omega
   refine andI ?_ fun o234 => ?_
   ·omega
   refine And.intro ?_ ?_
   ·intro h236
    refine andI ?_ fun o237 => ?_
    ·omega
    refine andI ?_ fun o238 => ?_
    ·omega
    refine andI ?_ fun o239 => ?_
    ·omega
    refine andI ?_ fun o240 => ?_
    ·omega
    refine andI ?_ fun o241 => ?_
    ·omega
    refine andI ?_ fun o242 => ?_
    ·omega
    refine andI ?_ fun o243 => ?_
    ·omega
    refine andI ?_ fun o244 => ?_
    ·omega
    refine andI ?_ fun o245 => ?_
    ·omega
    refine andI ?_ fun o246 => ?_
    ·omega
    refine andI ?_ fun o247 => ?_
    ·omega
    refine andI ?_ fun o248 => ?_
    ·omega
    intro v249
    have e41 : v249.i = ((bxI x0 x1 x2 x3 x4 x5).at x30.i).1 := rfl
    have ew : IntKind.wrap Go.IntKind.i64 ((IntKind.wrap Go.IntKind.i64 ((IntKind.wrap Go.IntKind.i64 (x0 + x3)) - 1)) - v249.i) = x0 + x3 - 1 - ((bxI x0 x1 x2 x3 x4 x5).at x30.i).1 := by
     rw [e41, wr64 (n := x0 + x3) (by omega), wr64 (n := x0 + x3 - 1) (by omega), wr64 (by omega)]
    refine andI ?_ fun o250 => ?_
    ·rw [ew]
     omega
    refine andI ?_ fun o251 => ?_
    ·rw [ew]
     omega
    intro v252 v253 v254
    have e46 : v254.i = mirI (bxI x0 x1 x2 x3 x4 x5) x8 x30.i := by
     show (bxI x0 x1 x2 x3 x4 x5).idx (IntKind.wrap Go.IntKind.i64 ((IntKind.wrap Go.IntKind.i64 ((IntKind.wrap Go.IntKind.i64 (x0 + x3)) - 1)) - v249.i), ((bxI x0 x1 x2 x3 x4 x5).at x30.i).2.1, ((bxI x0 x1 x2 x3 x4 x5).at x30.i).2.2) = _
     rw [ew]
     unfold mirI mirP
     rw [if_pos h236]
     rfl
    have er : ((rwCat x31.r x31.i (rwTab 1 [v254])) x30.i 0).i = mirI (bxI x0 x1 x2 x3 x4 x5) x8 x30.i := by
     rw [← e46]
     unfold rwCat
     rw [if_neg (by omega), q2, Int.sub_self]
     rfl
    have hlt : ∀ j : Nat, (j : Int) < x30.i → ((rwCat x31.r x31.i (rwTab 1 [v254])) j 0).i = (x31.r j 0).i := fun j hj => by
     unfold rwCat
     rw [if_pos (by omega)]
    refine andI ?_ fun o255 => ?_
    ·rw [er]
     exact m0.1
    refine andI ?_ fun o256 => ?_
    ·rw [er]
     omega
    refine andI ?_ fun o257 => ?_
    ·exact gv
    refine andI ?_ fun o258 => ?_
    ·omega
    refine andI ?_ fun o259 => ?_
    ·rw [h236]
     rfl
    refine andI ?_ fun o260 => ?_
    ·omega
    intro v261
    refine andI ?_ fun o262 => ?_
    ·refine ⟨by show 0 ≤ x30.i + 1; omega, by show x30.i + 1 ≤ x6.i; omega, by show x31.i + 1 = x30.i + 1; omega, q3, fun j hj => ?_⟩
     have hj : (j : Int) < x30.i + 1 := hj
     show ((rwCat x31.r x31.i (rwTab 1 [v254])) j 0).i = mirI (bxI x0 x1 x2 x3 x4 x5) x8 j ∧ (if mirI (bxI x0 x1 x2 x3 x4 x5) x8 j = ((rwCat x31.r x31.i (rwTab 1 [v254])) x30.i 0).i ∧ (0 : Int) = 0 then v261.y else x32.r (mirI (bxI x0 x1 x2 x3 x4 x5) x8 j) 0).i = (x6.r j 0).i
     rw [er]
     by_cases he : (j : Int) = x30.i
     ·rw [he, er, if_pos ⟨rfl, rfl⟩]
      exact ⟨rfl, hsel⟩
     ·obtain ⟨a, d⟩ := q4 j (by omega)
      obtain ⟨n0, n1, n2⟩ := mir_ok (b := (bxI x0 x1 x2 x3 x4 x5)) (al := x8) (i := j) (by omega) (by omega)
      rw [hlt j (by omega), if_neg fun hc => he (by rw [← n1, hc.1, m1])]
      exact ⟨a, d⟩
    intro v263 v264
    refine andI ?_ fun o265 => ?_
    ·show x6.i + 1 - (x30.i + 1) < x6.i + 1 - x30.i
     omega
    show 0 < x6.i + 1 - x30.i
    omega
   intro h266
   refine andI ?_ fun o267 => ?_
   ·omega
   refine andI ?_ fun o268 => ?_
   ·omega
   refine andI ?_ fun o269 => ?_
   ·omega
   refine andI ?_ fun o270 => ?_
   ·omega
   refine andI ?_ fun o271 => ?_
   ·omega
   refine andI ?_ fun o272 => ?_
   ·omega
   refine andI ?_ fun o273 => ?_
   ·omega
   refine andI ?_ fun o274 => ?_
   ·omega
   refine andI ?_ fun o275 => ?_
   ·omega
   refine andI ?_ fun o276 => ?_
   ·omega
   refine andI ?_ fun o277 => ?_
   ·omega
   refine andI ?_ fun o278 => ?_
   ·omega
   intro v279
   have e71 : v279.i = ((bxI x0 x1 x2 x3 x4 x5).at x30.i).2.1 := rfl
   have ew : IntKind.wrap Go.IntKind.i64 ((IntKind.wrap Go.IntKind.i64 ((IntKind.wrap Go.IntKind.i64 (x1 + x4)) - 1)) - v279.i) = x1 + x4 - 1 - ((bxI x0 x1 x2 x3 x4 x5).at x30.i).2.1 := by
    rw [e71, wr64 (n := x1 + x4) (by omega), wr64 (n := x1 + x4 - 1) (by omega), wr64 (by omega)]
   refine andI ?_ fun o280 => ?_
   ·rw [ew]
    omega
   refine andI ?_ fun o281 => ?_
   ·rw [ew]
    omega
   intro v282 v283 v284
   have e76 : v284.i = mirI (bxI x0 x1 x2 x3 x4 x5) x8 x30.i := by
    show (bxI x0 x1 x2 x3 x4 x5).idx (((bxI x0 x1 x2 x3 x4 x5).at x30.i).1, IntKind.wrap Go.IntKind.i64 ((IntKind.wrap Go.IntKind.i64 ((IntKind.wrap Go.IntKind.i64 (x1 + x4)) - 1)) - v279.i), ((bxI x0 x1 x2 x3 x4 x5).at x30.i).2.2) = _
    rw [ew]
    unfold mirI mirP
    rw [if_neg h266]
    rfl
   have er : ((rwCat x31.r x31.i (rwTab 1 [v284])) x30.i 0).i = mirI (bxI x0 x1 x2 x3 x4 x5) x8 x30.i := by
    rw [← e76]
    unfold rwCat
    rw [if_neg (by omega), q2, Int.sub_self]
    rfl
   have hlt : ∀ j : Nat, (j : Int) < x30.i → ((rwCat x31.r x31.i (rwTab 1 [v284])) j 0).i = (x31.r j 0).i := fun j hj => by
    unfold rwCat
    rw [if_pos (by omega)]
   refine andI ?_ fun o285 => ?_
   ·rw [er]
    exact m0.1
   refine andI ?_ fun o286 => ?_
   ·rw [er]
    omega
   refine andI ?_ fun o287 => ?_
   ·exact gv
   refine andI ?_ fun o288 => ?_
   ·omega
   refine andI ?_ fun o289 => ?_
   ·rw [Bool.not_eq_true] at h266
    rw [h266]
    rfl
   refine andI ?_ fun o290 => ?_
   ·omega
   intro v291
   refine andI ?_ fun o292 => ?_
   ·refine ⟨by show 0 ≤ x30.i + 1; omega, by show x30.i + 1 ≤ x6.i; omega, by show x31.i + 1 = x30.i + 1; omega, q3, fun j hj => ?_⟩
    have hj : (j : Int) < x30.i + 1 := hj
    show ((rwCat x31.r x31.i (rwTab 1 [v284])) j 0).i = mirI (bxI x0 x1 x2 x3 x4 x5) x8 j ∧ (if mirI (bxI x0 x1 x2 x3 x4 x5) x8 j = ((rwCat x31.r x31.i (rwTab 1 [v284])) x30.i 0).i ∧ (0 : Int) = 0 then v291.y else x32.r (mirI (bxI x0 x1 x2 x3 x4 x5) x8 j) 0).i = (x6.r j 0).i
    rw [er]
    by_cases he : (j : Int) = x30.i
    ·rw [he, er, if_pos ⟨rfl, rfl⟩]
     exact ⟨rfl, hsel⟩
    ·obtain ⟨a, d⟩ := q4 j (by omega)
     obtain ⟨n0, n1, n2⟩ := mir_ok (b := (bxI x0 x1 x2 x3 x4 x5)) (al := x8) (i := j) (by omega) (by omega)
     rw [hlt j (by omega), if_neg fun hc => he (by rw [← n1, hc.1, m1])]
     exact ⟨a, d⟩
   intro v293 v294
   refine andI ?_ fun o295 => ?_
   ·show x6.i + 1 - (x30.i + 1) < x6.i + 1 - x30.i
    omega
   show 0 < x6.i + 1 - x30.i
   omega
  intro h296
  have q5 : ∀ j : Int, 0 ≤ j → j < x6.i → (x31.r j 0).i = mirI (bxI x0 x1 x2 x3 x4 x5) x8 j ∧ (x32.r (mirI (bxI x0 x1 x2 x3 x4 x5) x8 j) 0).i = (x6.r j 0).i := fun j a d => by
   have := q4 j.toNat (by omega)
   rwa [Int.toNat_of_nonneg a] at this
  have el2 : ((lstX deI x32).length : Int) = x32.i := by rw [lstX_len]; omega
  have hc : ∀ j : Int, 0 ≤ j → j < (lstX deI x6).length → (lstX deI x32).getD (mirI (bxI x0 x1 x2 x3 x4 x5) x8 j).toNat 0 = (lstX deI x6).getD j.toNat 0 := fun j a d => by
   obtain ⟨n0, n1, n2⟩ := mir_ok (b := (bxI x0 x1 x2 x3 x4 x5)) (al := x8) (i := j) a (by omega)
   rw [lxI_at n0.1 (by omega), lxI_at a (by omega)]
   exact (q5 j a (by omega)).2
  have ok2 : okC (grX (xI x0) (xI x1) (xI x2) (xI x3) (xI x4) (xI x5) x32) x7 (mkX (rwTab 1 []) 0) = true := by
   refine okC_iff.2 ⟨(v700 (l := x32) (by omega)).2 ⟨k0, k1, k2, by rw [q3]; exact k3, ?_⟩, ht, .inl rfl⟩
   rw [List.all_eq_true]
   intro y hy
   obtain ⟨i, hi, rfl⟩ := List.mem_iff_getElem.1 hy
   obtain ⟨n0, n1, n2⟩ := mir_ok (b := (bxI x0 x1 x2 x3 x4 x5)) (al := x8) (i := i) (by omega) (by omega)
   have h1 := hc (mirI (bxI x0 x1 x2 x3 x4 x5) x8 i) n0.1 (by omega)
   rw [n1, lxI_at (o := x6) n0.1 (by omega)] at h1
   have h2 : (lstX deI x32)[i] = (x6.r (mirI (bxI x0 x1 x2 x3 x4 x5) x8 i) 0).i := by
    rw [← h1, List.getD_eq_getElem?_getD, Int.toNat_natCast, List.getElem?_eq_getElem hi]
    rfl
   rw [h2]
   exact lxI_allA n0.1 (by omega) k4
  have e2 : Ff 1201 [xI x0, xI x1, xI x2, xI x3, xI x4, xI x5, x32, x7, mkX (rwTab 1 []) 0] = rowF x32.i (fulF (bxI x0 x1 x2 x3 x4 x5) (lstX deI x32) x7 (mkX (rwTab 1 []) 0)) := if_pos ok2
  have e20 : (Ff 1202 [xI x0, xI x1, xI x2, xI x3, xI x4, xI x5, x32, x7, mkX (rwTab 1 []) 0]).i = 0 := if_pos ok2
  have hF : ∀ i c : Int, 0 ≤ i → i < x6.i → 0 ≤ c → c < 4 → fulF (bxI x0 x1 x2 x3 x4 x5) (lstX deI x6) x7 (mkX (rwTab 1 []) 0) i c = fulF (bxI x0 x1 x2 x3 x4 x5) (lstX deI x32) x7 (mkX (rwTab 1 []) 0) (mirI (bxI x0 x1 x2 x3 x4 x5) x8 i) c := fun i c a d e f => ful_mir hv (by omega) ht rfl hc a (by omega) e f
  intro v297 v298
  have e90 : v298 = rowF x6.i (fulF (bxI x0 x1 x2 x3 x4 x5) (lstX deI x6) x7 (mkX (rwTab 1 []) 0)) := e1
  intro v299
  have e91 : v299 = rowF x32.i (fulF (bxI x0 x1 x2 x3 x4 x5) (lstX deI x32) x7 (mkX (rwTab 1 []) 0)) := e2
  have l90 : v298.i = x6.i := by rw [e90]; rfl
  have l91 : v299.i = x32.i := by rw [e91]; rfl
  refine And.intro ?_ ?_
  ·intro h301
   refine absurd h301 fun hc => ?_
   rcases hc with ((hc | hc) | hc) | hc
   ·exact hc e0
   ·exact hc e20
   ·omega
   ·omega
  intro h302
  refine andI ?_ fun o303 => ?_
  ·exact Int.le_refl _
  intro x40 h304 p305
  have p0 : 0 ≤ x40.i := p305
  refine And.intro ?_ ?_
  ·intro h307
   have i1 : x40.i < x6.i := by omega
   obtain ⟨n0, n1, n2⟩ := mir_ok (b := (bxI x0 x1 x2 x3 x4 x5)) (al := x8) (i := x40.i) p0 (by omega)
   have et := (q5 x40.i p0 i1).1
   refine andI ?_ fun o308 => ?_
   ·rw [et]
    exact n0.1
   refine andI ?_ fun o309 => ?_
   ·rw [et]
    omega
   refine andI ?_ fun o310 => ?_
   ·omega
   refine andI ?_ fun o311 => ?_
   ·omega
   refine And.intro ?_ ?_
   ·intro h313
    refine absurd ?_ h313
    rw [et, e90, e91]
    exact ⟨hF x40.i 0 p0 i1 (by decide) (by decide), hF x40.i 1 p0 i1 (by decide) (by decide), hF x40.i 2 p0 i1 (by decide) (by decide), hF x40.i 3 p0 i1 (by decide) (by decide)⟩
   intro h314
   refine andI ?_ fun o315 => ?_
   ·show 0 ≤ x40.i + 1
    omega
   intro v316 v317
   refine andI ?_ fun o318 => ?_
   ·show x6.i + 1 - (x40.i + 1) < x6.i + 1 - x40.i
    omega
   show 0 < x6.i + 1 - x40.i
   omega
  intro h319
  exact rfl
 refine andI ?_ fun o320 => ?_
 ·exact ⟨Int.le_refl _, g6.1, rfl, rfl, fun j hj => absurd hj (by show ¬ (j : Int) < 0; omega)⟩
 intro x30 x31 x32 h321 r322 r323 p324
 obtain ⟨q0, q1, q2, q3, q4⟩ : 0 ≤ x30.i ∧ x30.i ≤ x6.i ∧ x31.i = x30.i ∧ x32.i = x6.i ∧ ∀ j : Nat, (j : Int) < x30.i → (x31.r j 0).i = mirI (bxI x0 x1 x2 x3 x4 x5) x8 j ∧ (x32.r (mirI (bxI x0 x1 x2 x3 x4 x5) x8 j) 0).i = (x6.r j 0).i := p324
 refine And.intro ?_ ?_
 ·intro h326
  have hat := has_def.1 (at_has (b := (bxI x0 x1 x2 x3 x4 x5)) q0 (by omega))
  obtain ⟨ax, ay, az⟩ : (x0 ≤ ((bxI x0 x1 x2 x3 x4 x5).at x30.i).1 ∧ ((bxI x0 x1 x2 x3 x4 x5).at x30.i).1 < x3) ∧ (x1 ≤ ((bxI x0 x1 x2 x3 x4 x5).at x30.i).2.1 ∧ ((bxI x0 x1 x2 x3 x4 x5).at x30.i).2.1 < x4) ∧ (x2 ≤ ((bxI x0 x1 x2 x3 x4 x5).at x30.i).2.2 ∧ ((bxI x0 x1 x2 x3 x4 x5).at x30.i).2.2 < x5) := hat
  obtain ⟨m0, m1, m2⟩ := mir_ok (b := (bxI x0 x1 x2 x3 x4 x5)) (al := x8) q0 (by omega)
  have hsel : (getL (bxI x0 x1 x2 x3 x4 x5) (lstX deI x6) ((bxI x0 x1 x2 x3 x4 x5).at x30.i)) = (x6.r x30.i 0).i := by
   rw [getL_in (at_has q0 (by omega)) k3, idx_at q0 (by omega)]
  refine andI ?_ fun o327 => ?_
  ·omega
  refine andI ?_ fun o328 => ?_
  ·omega
  refine andI ?_ fun o329 => ?_
  ·omega
  refine andI ?_ fun o330 => ?_
  ·omega
  refine andI ?_ fun o331 => ?_
  ·omega
  refine andI ?_ fun o332 => ?_
  ·omega
  refine andI ?_ fun o333 => ?_
  ·omega
  refine andI ?_ fun o334 => ?_
  ·omega
  refine andI ?_ fun o335 => ?_
  ·omega
  refine andI ?_ fun o336 => ?_
  ·omega
  refine andI ?_ fun o337 => ?_
  ·omega
  refine andI ?_ fun o338 => ?_
  ·omega
  refine And.intro ?_ ?_
  ·intro h340
   refine andI ?_ fun o341 => ?_
   ·omega
   refine andI ?_ fun o342 => ?_
   ·omega
   refine andI ?_ fun o343 => ?_
   ·omega
   refine andI ?_ fun o344 => ?_
   ·omega
   refine andI ?_ fun o345 => ?_
   ·omega
   refine andI ?_ fun o346 => ?_
   ·omega
   refine andI ?_ fun o347 => ?_
   ·omega
   refine andI ?_ fun o348 => ?_
   ·omega
   refine andI ?_ fun o349 => ?_
   ·omega
   refine andI ?_ fun o350 => ?_
   ·omega
   refine andI ?_ fun o351 => ?_
   ·omega
   refine andI ?_ fun o352 => ?_
   ·omega
   intro v353
   have e41 : v353.i = ((bxI x0 x1 x2 x3 x4 x5).at x30.i).1 := rfl
   have ew : IntKind.wrap Go.IntKind.i64 ((IntKind.wrap Go.IntKind.i64 ((IntKind.wrap Go.IntKind.i64 (x0 + x3)) - 1)) - v353.i) = x0 + x3 - 1 - ((bxI x0 x1 x2 x3 x4 x5).at x30.i).1 := by
    rw [e41, wr64 (n := x0 + x3) (by omega), wr64 (n := x0 + x3 - 1) (by omega), wr64 (by omega)]
   refine andI ?_ fun o354 => ?_
   ·rw [ew]
    omega
   refine andI ?_ fun o355 => ?_
   ·rw [ew]
    omega
   intro v356 v357 v358
   have e46 : v358.i = mirI (bxI x0 x1 x2 x3 x4 x5) x8 x30.i := by
    show (bxI x0 x1 x2 x3 x4 x5).idx (IntKind.wrap Go.IntKind.i64 ((IntKind.wrap Go.IntKind.i64 ((IntKind.wrap Go.IntKind.i64 (x0 + x3)) - 1)) - v353.i), ((bxI x0 x1 x2 x3 x4 x5).at x30.i).2.1, ((bxI x0 x1 x2 x3 x4 x5).at x30.i).2.2) = _
    rw [ew]
    unfold mirI mirP
    rw [if_pos h340]
    rfl
   have er : ((rwCat x31.r x31.i (rwTab 1 [v358])) x30.i 0).i = mirI (bxI x0 x1 x2 x3 x4 x5) x8 x30.i := by
    rw [← e46]
    unfold rwCat
    rw [if_neg (by omega), q2, Int.sub_self]
    rfl
   have hlt : ∀ j : Nat, (j : Int) < x30.i → ((rwCat x31.r x31.i (rwTab 1 [v358])) j 0).i = (x31.r j 0).i := fun j hj => by
    unfold rwCat
    rw [if_pos (by omega)]
   refine andI ?_ fun o359 => ?_
   ·rw [er]
    exact m0.1
   refine andI ?_ fun o360 => ?_
   ·rw [er]
    omega
   refine andI ?_ fun o361 => ?_
   ·exact gv
   refine andI ?_ fun o362 => ?_
   ·omega
   refine andI ?_ fun o363 => ?_
   ·rw [h340]
    rfl
   refine andI ?_ fun o364 => ?_
   ·omega
   intro v365
   refine andI ?_ fun o366 => ?_
   ·refine ⟨by show 0 ≤ x30.i + 1; omega, by show x30.i + 1 ≤ x6.i; omega, by show x31.i + 1 = x30.i + 1; omega, q3, fun j hj => ?_⟩
    have hj : (j : Int) < x30.i + 1 := hj
    show ((rwCat x31.r x31.i (rwTab 1 [v358])) j 0).i = mirI (bxI x0 x1 x2 x3 x4 x5) x8 j ∧ (if mirI (bxI x0 x1 x2 x3 x4 x5) x8 j = ((rwCat x31.r x31.i (rwTab 1 [v358])) x30.i 0).i ∧ (0 : Int) = 0 then v365.y else x32.r (mirI (bxI x0 x1 x2 x3 x4 x5) x8 j) 0).i = (x6.r j 0).i
    rw [er]
    by_cases he : (j : Int) = x30.i
    ·rw [he, er, if_pos ⟨rfl, rfl⟩]
     exact ⟨rfl, hsel⟩
    ·obtain ⟨a, d⟩ := q4 j (by omega)
     obtain ⟨n0, n1, n2⟩ := mir_ok (b := (bxI x0 x1 x2 x3 x4 x5)) (al := x8) (i := j) (by omega) (by omega)
     rw [hlt j (by omega), if_neg fun hc => he (by rw [← n1, hc.1, m1])]
     exact ⟨a, d⟩
   intro v367 v368
   refine andI ?_ fun o369 => ?_
   ·show x6.i + 1 - (x30.i + 1) < x6.i + 1 - x30.i
    omega
   show 0 < x6.i + 1 - x30.i
   omega
  intro h370
  refine andI ?_ fun o371 => ?_
  ·omega
  refine andI ?_ fun o372 => ?_
  ·omega
  refine andI ?_ fun o373 => ?_
  ·omega
  refine andI ?_ fun o374 => ?_
  ·omega
  refine andI ?_ fun o375 => ?_
  ·omega
  refine andI ?_ fun o376 => ?_
  ·omega
  refine andI ?_ fun o377 => ?_
  ·omega
  refine andI ?_ fun o378 => ?_
  ·omega
  refine andI ?_ fun o379 => ?_
  ·omega
  refine andI ?_ fun o380 => ?_
  ·omega
  refine andI ?_ fun o381 => ?_
  ·omega
  refine andI ?_ fun o382 => ?_
  ·omega
  intro v383
  have e71 : v383.i = ((bxI x0 x1 x2 x3 x4 x5).at x30.i).2.1 := rfl
  have ew : IntKind.wrap Go.IntKind.i64 ((IntKind.wrap Go.IntKind.i64 ((IntKind.wrap Go.IntKind.i64 (x1 + x4)) - 1)) - v383.i) = x1 + x4 - 1 - ((bxI x0 x1 x2 x3 x4 x5).at x30.i).2.1 := by
   rw [e71, wr64 (n := x1 + x4) (by omega), wr64 (n := x1 + x4 - 1) (by omega), wr64 (by omega)]
  refine andI ?_ fun o384 => ?_
  ·rw [ew]
   omega
  refine andI ?_ fun o385 => ?_
  ·rw [ew]
   omega
  intro v386 v387 v388
  have e76 : v388.i = mirI (bxI x0 x1 x2 x3 x4 x5) x8 x30.i := by
   show (bxI x0 x1 x2 x3 x4 x5).idx (((bxI x0 x1 x2 x3 x4 x5).at x30.i).1, IntKind.wrap Go.IntKind.i64 ((IntKind.wrap Go.IntKind.i64 ((IntKind.wrap Go.IntKind.i64 (x1 + x4)) - 1)) - v383.i), ((bxI x0 x1 x2 x3 x4 x5).at x30.i).2.2) = _
   rw [ew]
   unfold mirI mirP
   rw [if_neg h370]
   rfl
  have er : ((rwCat x31.r x31.i (rwTab 1 [v388])) x30.i 0).i = mirI (bxI x0 x1 x2 x3 x4 x5) x8 x30.i := by
   rw [← e76]
   unfold rwCat
   rw [if_neg (by omega), q2, Int.sub_self]
   rfl
  have hlt : ∀ j : Nat, (j : Int) < x30.i → ((rwCat x31.r x31.i (rwTab 1 [v388])) j 0).i = (x31.r j 0).i := fun j hj => by
   unfold rwCat
   rw [if_pos (by omega)]
  refine andI ?_ fun o389 => ?_
  ·rw [er]
   exact m0.1
  refine andI ?_ fun o390 => ?_
  ·rw [er]
   omega
  refine andI ?_ fun o391 => ?_
  ·exact gv
  refine andI ?_ fun o392 => ?_
  ·omega
  refine andI ?_ fun o393 => ?_
  ·rw [Bool.not_eq_true] at h370
   rw [h370]
   rfl
  refine andI ?_ fun o394 => ?_
  ·omega
  intro v395
  refine andI ?_ fun o396 => ?_
  ·refine ⟨by show 0 ≤ x30.i + 1; omega, by show x30.i + 1 ≤ x6.i; omega, by show x31.i + 1 = x30.i + 1; omega, q3, fun j hj => ?_⟩
   have hj : (j : Int) < x30.i + 1 := hj
   show ((rwCat x31.r x31.i (rwTab 1 [v388])) j 0).i = mirI (bxI x0 x1 x2 x3 x4 x5) x8 j ∧ (if mirI (bxI x0 x1 x2 x3 x4 x5) x8 j = ((rwCat x31.r x31.i (rwTab 1 [v388])) x30.i 0).i ∧ (0 : Int) = 0 then v395.y else x32.r (mirI (bxI x0 x1 x2 x3 x4 x5) x8 j) 0).i = (x6.r j 0).i
   rw [er]
   by_cases he : (j : Int) = x30.i
   ·rw [he, er, if_pos ⟨rfl, rfl⟩]
    exact ⟨rfl, hsel⟩
   ·obtain ⟨a, d⟩ := q4 j (by omega)
    obtain ⟨n0, n1, n2⟩ := mir_ok (b := (bxI x0 x1 x2 x3 x4 x5)) (al := x8) (i := j) (by omega) (by omega)
    rw [hlt j (by omega), if_neg fun hc => he (by rw [← n1, hc.1, m1])]
    exact ⟨a, d⟩
  intro v397 v398
  refine andI ?_ fun o399 => ?_
  ·show x6.i + 1 - (x30.i + 1) < x6.i + 1 - x30.i
   omega
  show 0 < x6.i + 1 - x30.i
  omega
 intro h400
 have q5 : ∀ j : Int, 0 ≤ j → j < x6.i → (x31.r j 0).i = mirI (bxI x0 x1 x2 x3 x4 x5) x8 j ∧ (x32.r (mirI (bxI x0 x1 x2 x3 x4 x5) x8 j) 0).i = (x6.r j 0).i := fun j a d => by
  have := q4 j.toNat (by omega)
  rwa [Int.toNat_of_nonneg a] at this
 have el2 : ((lstX deI x32).length : Int) = x32.i := by rw [lstX_len]; omega
 have hc : ∀ j : Int, 0 ≤ j → j < (lstX deI x6).length → (lstX deI x32).getD (mirI (bxI x0 x1 x2 x3 x4 x5) x8 j).toNat 0 = (lstX deI x6).getD j.toNat 0 := fun j a d => by
  obtain ⟨n0, n1, n2⟩ := mir_ok (b := (bxI x0 x1 x2 x3 x4 x5)) (al := x8) (i := j) a (by omega)
  rw [lxI_at n0.1 (by omega), lxI_at a (by omega)]
  exact (q5 j a (by omega)).2
 have ok2 : okC (grX (xI x0) (xI x1) (xI x2) (xI x3) (xI x4) (xI x5) x32) x7 (mkX (rwTab 1 []) 0) = true := by
  refine okC_iff.2 ⟨(v700 (l := x32) (by omega)).2 ⟨k0, k1, k2, by rw [q3]; exact k3, ?_⟩, ht, .inl rfl⟩
  rw [List.all_eq_true]
  intro y hy
  obtain ⟨i, hi, rfl⟩ := List.mem_iff_getElem.1 hy
  obtain ⟨n0, n1, n2⟩ := mir_ok (b := (bxI x0 x1 x2 x3 x4 x5)) (al := x8) (i := i) (by omega) (by omega)
  have h1 := hc (mirI (bxI x0 x1 x2 x3 x4 x5) x8 i) n0.1 (by omega)
  rw [n1, lxI_at (o := x6) n0.1 (by omega)] at h1
  have h2 : (lstX deI x32)[i] = (x6.r (mirI (bxI x0 x1 x2 x3 x4 x5) x8 i) 0).i := by
   rw [← h1, List.getD_eq_getElem?_getD, Int.toNat_natCast, List.getElem?_eq_getElem hi]
   rfl
  rw [h2]
  exact lxI_allA n0.1 (by omega) k4
 have e2 : Ff 1201 [xI x0, xI x1, xI x2, xI x3, xI x4, xI x5, x32, x7, mkX (rwTab 1 []) 0] = rowF x32.i (fulF (bxI x0 x1 x2 x3 x4 x5) (lstX deI x32) x7 (mkX (rwTab 1 []) 0)) := if_pos ok2
 have e20 : (Ff 1202 [xI x0, xI x1, xI x2, xI x3, xI x4, xI x5, x32, x7, mkX (rwTab 1 []) 0]).i = 0 := if_pos ok2
 have hF : ∀ i c : Int, 0 ≤ i → i < x6.i → 0 ≤ c → c < 4 → fulF (bxI x0 x1 x2 x3 x4 x5) (lstX deI x6) x7 (mkX (rwTab 1 []) 0) i c = fulF (bxI x0 x1 x2 x3 x4 x5) (lstX deI x32) x7 (mkX (rwTab 1 []) 0) (mirI (bxI x0 x1 x2 x3 x4 x5) x8 i) c := fun i c a d e f => ful_mir hv (by omega) ht rfl hc a (by omega) e f
 intro v401 v402
 have e90 : v402 = rowF x6.i (fulF (bxI x0 x1 x2 x3 x4 x5) (lstX deI x6) x7 (mkX (rwTab 1 []) 0)) := e1
 intro v403
 have e91 : v403 = rowF x32.i (fulF (bxI x0 x1 x2 x3 x4 x5) (lstX deI x32) x7 (mkX (rwTab 1 []) 0)) := e2
 have l90 : v402.i = x6.i := by rw [e90]; rfl
 have l91 : v403.i = x32.i := by rw [e91]; rfl
 refine And.intro ?_ ?_
 ·intro h405
  refine absurd h405 fun hc => ?_
  rcases hc with ((hc | hc) | hc) | hc
  ·exact hc e0
  ·exact hc e20
  ·omega
  ·omega
 intro h406
 refine andI ?_ fun o407 => ?_
 ·exact Int.le_refl _
 intro x40 h408 p409
 have p0 : 0 ≤ x40.i := p409
 refine And.intro ?_ ?_
 ·intro h411
  have i1 : x40.i < x6.i := by omega
  obtain ⟨n0, n1, n2⟩ := mir_ok (b := (bxI x0 x1 x2 x3 x4 x5)) (al := x8) (i := x40.i) p0 (by omega)
  have et := (q5 x40.i p0 i1).1
  refine andI ?_ fun o412 => ?_
  ·rw [et]
   exact n0.1
  refine andI ?_ fun o413 => ?_
  ·rw [et]
   omega
  refine andI ?_ fun o414 => ?_
  ·omega
  refine andI ?_ fun o415 => ?_
  ·omega
  refine And.intro ?_ ?_
  ·intro h417
   refine absurd ?_ h417
   rw [et, e90, e91]
   exact ⟨hF x40.i 0 p0 i1 (by decide) (by decide), hF x40.i 1 p0 i1 (by decide) (by decide), hF x40.i 2 p0 i1 (by decide) (by decide), hF x40.i 3 p0 i1 (by decide) (by decide)⟩
  intro h418
  refine andI ?_ fun o419 => ?_
  ·show 0 ≤ x40.i + 1
   omega
  intro v420 v421
  refine andI ?_ fun o422 => ?_
  ·show x6.i + 1 - (x40.i + 1) < x6.i + 1 - x40.i
   omega
  show 0 < x6.i + 1 - x40.i
  omega
 intro h423
 exact rfl
theorem shape_flat : flatR sh = [.int .i64 (-9223372036854775808) 9223372036854775807, .int .i64 (-9223372036854775808) 9223372036854775807, .int .i64 (-9223372036854775808) 9223372036854775807, .int .i64 (-9223372036854775808) 9223372036854775807, .int .i64 (-9223372036854775808) 9223372036854775807, .int .i64 (-9223372036854775808) 9223372036854775807, .row [.int .i64 (-9223372036854775808) (9223372036854775807)] 9223372036854775807, .row [.str (9223372036854775807), .bool, .bool, .bool, .int .i64 (-9223372036854775808) (9223372036854775807), .int .i64 (-9223372036854775808) (9223372036854775807), .int .i64 (-9223372036854775808) (9223372036854775807), .int .i64 (-9223372036854775808) (9223372036854775807)] 9223372036854775807, .bool] := by kernel_rfl
theorem lawful (ds : Ds) (hr : rshX sh ds) : (walkR Tryd.prog (cfG none L33 R33k lpMir sm33) Tryd.f8 600 sh).law { ρ0 with x := fun j => ds.getD j (xI 0) } := by
 have hr := rshX_flat hr
 rw [shape_flat] at hr
 match ds, hr with
 | [d0, d1, d2, d3, d4, d5, d6, d7, d8], hr =>
  obtain ⟨⟨e0, l0, u0⟩, ⟨e1, l1, u1⟩, ⟨e2, l2, u2⟩, ⟨e3, l3, u3⟩, ⟨e4, l4, u4⟩, ⟨e5, l5, u5⟩, l6, l7, e8, _⟩ := hr
  generalize d0.i = x0, d1.i = x1, d2.i = x2, d3.i = x3, d4.i = x4, d5.i = x5, d6 = x6, d7 = x7 at *
  obtain ⟨x8, rfl⟩ : ∃ x, d8 = xB x := ⟨_, e8⟩
  subst e0 e1 e2 e3 e4 e5
  exact Eq.mpr (link x0 x1 x2 x3 x4 x5 x6 x7 x8) (lawP_ok x0 x1 x2 x3 x4 x5 x6 x7 x8 ⟨l0, u0⟩ ⟨l1, u1⟩ ⟨l2, u2⟩ ⟨l3, u3⟩ ⟨l4, u4⟩ ⟨l5, u5⟩ l6 l7)
theorem shape {H : Type} {ds : List (DataW H)} (h : ds.length = 3) : Rows.lightMirrorsSpec.fn H ds = { results := [.lit (.bool true)], args := ds } := by
 match ds, h with
 | [d1, d2, d3], _ => rfl
set_option maxRecDepth 100000 in
theorem calls {H : Type} {enc : TypeId × Value → H} (W : World) (base : Nat) (args : Array Value) (ds : List (DataW H)) (p : List MemPlace) (hval : ∀ (j : Nat) t v, Tryd.f8.params[j]? = some t → args[j]? = some v → Value.okWide Tryd.prog W .any base t v)
 (hA : DataW.TrodAll enc Tryd.prog W 0 (fun _ => true) true Tryd.f8.params.toList args.toList ds p) (hg : GlobOk ρ0.g W.heap.size W) : Calls Tryd.prog 8 args W fun e w' => e = .returned (.bool true) ∧ Below W.heap.size W w' := by
 rw [Tryd.params8] at hA hval
 have hs : shTs Tryd.prog [28, 29, 4] = some sh := by
  have : (shTs Tryd.prog [28, 29, 4]).isSome = true := by kernel_rfl
  obtain ⟨s, h⟩ := Option.isSome_iff_exists.1 this
  unfold sh
  rw [h]; rfl
 obtain ⟨ds', hr⟩ := args_rel hA (fun i t v ht hv => hval i t v (by simpa using ht) (by simpa using hv)) hs
 have := law_callsR (L33k_ok) Tryd.func8 rfl 600 hg hr lawful
 simpa using this
set_option maxRecDepth 100000 in
theorem lifted (os : Os) (started : os.Started) (H : Type) (enc : TypeId × Value → H) :
 ReturnsInHanded {} Tryd.checked os 8 .any (fun w args => (Rows.lightMirrorsSpec.pre enc Tryd.prog Tryd.f8 [] false w args ∧ laidMetH Tryd.prog [("voxel/material.kinds", Rows.laid_voxel_material_kinds), ("voxel/light.steps", Rows.laid_voxel_light_steps)] w) ∧ sizedMet enc Tryd.prog Tryd.f8 (OpenSpec.ofChange Rows.lightMirrorsSpec) false w args)
  (Rows.lightMirrorsSpec.post enc Tryd.prog Tryd.f8 false true false false) := by
 refine returnsInHanded_of_change_and (C := Tryd.checked) (X := fun w _ => laidMetH Tryd.prog [("voxel/material.kinds", Rows.laid_voxel_material_kinds), ("voxel/light.steps", Rows.laid_voxel_light_steps)] w) (fun _ _ _ hh h => h.of_heap hh) own started (by kernel_rfl) Tryd.func8
  (ChangeSpec.witness_shaped (enc := enc) (C := Tryd.checked) (os := os) (X := fun w _ => laidMetH Tryd.prog [("voxel/material.kinds", Rows.laid_voxel_material_kinds), ("voxel/light.steps", Rows.laid_voxel_light_steps)] w) false (World.doorLaid Tryd.prog 400 os) #[((Tryd.prog.info? 28).bind (·.zero)).getD undef, ((Tryd.prog.info? 29).bind (·.zero)).getD undef, ((Tryd.prog.info? 4).bind (·.zero)).getD undef] 8 rfl (World.shaped_of_RefB (by kernel_rfl) (by kernel_rfl)) (by kernel_rfl) (by kernel_rfl) (by kernel_rfl) (door_met os _)) ?_
 intro W base args ds gs before hval hW _ _ hL _
 have hW0 := hW
 obtain ⟨p, q, hA, hV, _⟩ := hW0
 have hlen : ds.length = 3 := (trodAll_len hA).trans (by kernel_rfl)
 refine (calls W base args ds p hval hA (glob_ok hL)).mono fun e W' ⟨he, hb⟩ => ?_
 subst he
 exact ⟨_, rfl, law_post kids slices (by rw [Tryd.params8]; decide +kernel) rfl rfl Tryd.underlying4 (shape hlen) hW hb⟩
theorem over : Rows.LightMirrorsSaid :=
 OpenClaim.holds_of_wide 8 Tryd.f8 rfl rfl rfl rfl rfl rfl rfl ⟨rfl, rfl, rfl, rfl, rfl⟩ rfl rfl rfl rfl rfl (by kernel_rfl) Tryd.func8 (by kernel_rfl)
  (of_decide_eq_true (by kernel_rfl)) (by unfold Func.isWrapper; first | (rw [if_pos (by decide +kernel)]; kernel_rfl) | (rw [if_neg (by decide +kernel)]; exact ⟨rfl, rfl⟩))
  (fun os started H enc _ => lifted os started H enc)
theorem proved : Rows.LightMirrorsCardSaid :=
 Claim7.holds_tied_plain_at .later [] [.widerDeep, .data] true (true, "d519c5fa85da6a69a89afb756553c9a3747c4cf694668013adbe34bf2ce43f55") false
  over (fun _ h => by cases h) (by kernel_rfl) (fun _ h => by cases h) lightMirrors_row_tie rfl ⟨rfl, rfl⟩ (by kernel_rfl) rfl
  (fun f fn hf hfn => by
    obtain rfl : f = 8 := Option.some.inj ((show Tryd.prog.funcNamed "voxel/voxellaw33.LightMirrors" = some 8 by kernel_rfl).symm.trans hf) |>.symm
    obtain rfl : fn = Tryd.f8 := (Option.some.inj (Tryd.func8.symm.trans hfn)).symm
    exact ⟨by kernel_rfl, fun j t ht => by
     rw [Tryd.params8] at ht
     have hm : t ∈ [28, 29, 4] := by simpa using Array.mem_of_getElem? ht
     have hall : ([28, 29, 4].all fun u => !Tryd.prog.wantsStandIn u) = true := by kernel_rfl
     exact (show Tryd.prog.wantsStandIn t = false by simpa using List.all_eq_true.1 hall t hm)⟩)
  (by kernel_rfl)
#print axioms proved
end Go.Proofs.YtelbilnnmmbmdaaDoor.lightMirrors
