/- Contracts of functions, each out of one walk. -/
import Derived.Test.YtleapeclbkclaaaGreatDoorC07Q
import Derived.Test.YtleapeclbkclaaaGreatDoorC07N
import Derived.Test.YtleapeclbkclaaaGreatDoorC04D
import Derived.Test.YtleapeclbkclaaaGreatDoorC04E
namespace Go.Proofs.YtleapeclbkclaaaGreatDoor
namespace Vc
open Go Go.RowKit
set_option linter.unusedVariables false

/-- What is left of the contract of grid.Paste. -/
def PasteP (x0 : Int) (x1 : Int) (x2 : Int) (x3 : Int) (x4 : Int) (x5 : Int) (x6 : X) (x7 : Int) (x8 : Int) (x9 : Int) (x10 : Int) (x11 : Int) (x12 : Int) (x13 : X) : Prop :=
(((x6.i = 0) →
(let v2 : X := Ff 222 [(xI x0), (xI x1), (xI x2), (xI x3), (xI x4), (xI x5), (xI x7), (xI x8), (xI x9), (xI x10), (xI x11), (xI x12)]; (Px 732 [(xI x0), (xI x1), (xI x2), (xI x3), (xI x4), (xI x5), x6, (xI x7), (xI x8), (xI x9), (xI x10), (xI x11), (xI x12), x13, (xI v2.i)] ∧
(∀ x20 : X, ((((-1048575) ≤ x20.i) ∧ (x20.i ≤ 1048575)) →
(Px 732 [(xI x0), (xI x1), (xI x2), (xI x3), (xI x4), (xI x5), x6, (xI x7), (xI x8), (xI x9), (xI x10), (xI x11), (xI x12), x13, x20] →
(let v6 : X := Ff 225 [(xI x0), (xI x1), (xI x2), (xI x3), (xI x4), (xI x5), (xI x7), (xI x8), (xI x9), (xI x10), (xI x11), (xI x12)]; (((x20.i < v6.i) →
(let v9 : X := Ff 221 [(xI x0), (xI x1), (xI x2), (xI x3), (xI x4), (xI x5), (xI x7), (xI x8), (xI x9), (xI x10), (xI x11), (xI x12)]; (Px 733 [(xI x0), (xI x1), (xI x2), (xI x3), (xI x4), (xI x5), x6, (xI x7), (xI x8), (xI x9), (xI x10), (xI x11), (xI x12), x13, (xI x20.i), (xI v9.i)] ∧
(∀ x30 : X, ((((-1048575) ≤ x30.i) ∧ (x30.i ≤ 1048575)) →
(Px 733 [(xI x0), (xI x1), (xI x2), (xI x3), (xI x4), (xI x5), x6, (xI x7), (xI x8), (xI x9), (xI x10), (xI x11), (xI x12), x13, (xI x20.i), x30] →
(let v13 : X := Ff 224 [(xI x0), (xI x1), (xI x2), (xI x3), (xI x4), (xI x5), (xI x7), (xI x8), (xI x9), (xI x10), (xI x11), (xI x12)]; (((x30.i < v13.i) →
 False) ∧
((¬ (x30.i < v13.i)) →
(Px 732 [(xI x0), (xI x1), (xI x2), (xI x3), (xI x4), (xI x5), x6, (xI x7), (xI x8), (xI x9), (xI x10), (xI x11), (xI x12), x13, (xI (x20.i + 1))] ∧
(((Ff 762 [(xI x0), (xI x1), (xI x2), (xI x3), (xI x4), (xI x5), x6, (xI x7), (xI x8), (xI x9), (xI x10), (xI x11), (xI x12), x13, (xI (x20.i + 1))]).i < (Ff 762 [(xI x0), (xI x1), (xI x2), (xI x3), (xI x4), (xI x5), x6, (xI x7), (xI x8), (xI x9), (xI x10), (xI x11), (xI x12), x13, x20]).i) ∧
(0 < (Ff 762 [(xI x0), (xI x1), (xI x2), (xI x3), (xI x4), (xI x5), x6, (xI x7), (xI x8), (xI x9), (xI x10), (xI x11), (xI x12), x13, x20]).i)))))))))))) ∧
((¬ (x20.i < v6.i)) →
((x0 = (Ff 701 [xI x0, xI x1, xI x2, xI x3, xI x4, xI x5, x6, xI x7, xI x8, xI x9, xI x10, xI x11, xI x12, x13]).i ∧ -1048575 ≤ (Ff 701 [xI x0, xI x1, xI x2, xI x3, xI x4, xI x5, x6, xI x7, xI x8, xI x9, xI x10, xI x11, xI x12, x13]).i ∧ (Ff 701 [xI x0, xI x1, xI x2, xI x3, xI x4, xI x5, x6, xI x7, xI x8, xI x9, xI x10, xI x11, xI x12, x13]).i ≤ 1048575) ∧ ((x1 = (Ff 702 [xI x0, xI x1, xI x2, xI x3, xI x4, xI x5, x6, xI x7, xI x8, xI x9, xI x10, xI x11, xI x12, x13]).i ∧ -1048575 ≤ (Ff 702 [xI x0, xI x1, xI x2, xI x3, xI x4, xI x5, x6, xI x7, xI x8, xI x9, xI x10, xI x11, xI x12, x13]).i ∧ (Ff 702 [xI x0, xI x1, xI x2, xI x3, xI x4, xI x5, x6, xI x7, xI x8, xI x9, xI x10, xI x11, xI x12, x13]).i ≤ 1048575) ∧ ((x2 = (Ff 703 [xI x0, xI x1, xI x2, xI x3, xI x4, xI x5, x6, xI x7, xI x8, xI x9, xI x10, xI x11, xI x12, x13]).i ∧ -1048575 ≤ (Ff 703 [xI x0, xI x1, xI x2, xI x3, xI x4, xI x5, x6, xI x7, xI x8, xI x9, xI x10, xI x11, xI x12, x13]).i ∧ (Ff 703 [xI x0, xI x1, xI x2, xI x3, xI x4, xI x5, x6, xI x7, xI x8, xI x9, xI x10, xI x11, xI x12, x13]).i ≤ 1048575) ∧ ((x3 = (Ff 704 [xI x0, xI x1, xI x2, xI x3, xI x4, xI x5, x6, xI x7, xI x8, xI x9, xI x10, xI x11, xI x12, x13]).i ∧ -1048575 ≤ (Ff 704 [xI x0, xI x1, xI x2, xI x3, xI x4, xI x5, x6, xI x7, xI x8, xI x9, xI x10, xI x11, xI x12, x13]).i ∧ (Ff 704 [xI x0, xI x1, xI x2, xI x3, xI x4, xI x5, x6, xI x7, xI x8, xI x9, xI x10, xI x11, xI x12, x13]).i ≤ 1048575) ∧ ((x4 = (Ff 705 [xI x0, xI x1, xI x2, xI x3, xI x4, xI x5, x6, xI x7, xI x8, xI x9, xI x10, xI x11, xI x12, x13]).i ∧ -1048575 ≤ (Ff 705 [xI x0, xI x1, xI x2, xI x3, xI x4, xI x5, x6, xI x7, xI x8, xI x9, xI x10, xI x11, xI x12, x13]).i ∧ (Ff 705 [xI x0, xI x1, xI x2, xI x3, xI x4, xI x5, x6, xI x7, xI x8, xI x9, xI x10, xI x11, xI x12, x13]).i ≤ 1048575) ∧ ((x5 = (Ff 706 [xI x0, xI x1, xI x2, xI x3, xI x4, xI x5, x6, xI x7, xI x8, xI x9, xI x10, xI x11, xI x12, x13]).i ∧ -1048575 ≤ (Ff 706 [xI x0, xI x1, xI x2, xI x3, xI x4, xI x5, x6, xI x7, xI x8, xI x9, xI x10, xI x11, xI x12, x13]).i ∧ (Ff 706 [xI x0, xI x1, xI x2, xI x3, xI x4, xI x5, x6, xI x7, xI x8, xI x9, xI x10, xI x11, xI x12, x13]).i ≤ 1048575) ∧ ((Ff 707 [xI x0, xI x1, xI x2, xI x3, xI x4, xI x5, x6, xI x7, xI x8, xI x9, xI x10, xI x11, xI x12, x13]).i = 0 ∧ 0 ≤ (2097152 : Int))))))))))))))))) ∧
(let v20 : X := Ff 222 [(xI x0), (xI x1), (xI x2), (xI x3), (xI x4), (xI x5), (xI x7), (xI x8), (xI x9), (xI x10), (xI x11), (xI x12)]; (Px 730 [(xI x0), (xI x1), (xI x2), (xI x3), (xI x4), (xI x5), x6, (xI x7), (xI x8), (xI x9), (xI x10), (xI x11), (xI x12), x13, (xI v20.i), x6] ∧
(∀ x20 : X, (∀ x21 : X, ((((-1048575) ≤ x20.i) ∧ (x20.i ≤ 1048575)) →
((0 ≤ x21.i ∧ x21.i ≤ 2097152 ∧ RowOk SMat x21.r (x21.i).toNat) →
(Px 730 [(xI x0), (xI x1), (xI x2), (xI x3), (xI x4), (xI x5), x6, (xI x7), (xI x8), (xI x9), (xI x10), (xI x11), (xI x12), x13, x20, x21] →
(let v25 : X := Ff 225 [(xI x0), (xI x1), (xI x2), (xI x3), (xI x4), (xI x5), (xI x7), (xI x8), (xI x9), (xI x10), (xI x11), (xI x12)]; (((x20.i < v25.i) →
(let v28 : X := Ff 221 [(xI x0), (xI x1), (xI x2), (xI x3), (xI x4), (xI x5), (xI x7), (xI x8), (xI x9), (xI x10), (xI x11), (xI x12)]; (Px 731 [(xI x0), (xI x1), (xI x2), (xI x3), (xI x4), (xI x5), x6, (xI x7), (xI x8), (xI x9), (xI x10), (xI x11), (xI x12), x13, (xI x20.i), (xI v28.i), x21] ∧
(∀ x30 : X, (∀ x31 : X, ((((-1048575) ≤ x30.i) ∧ (x30.i ≤ 1048575)) →
((0 ≤ x31.i ∧ x31.i ≤ 2097152 ∧ RowOk SMat x31.r (x31.i).toNat) →
(Px 731 [(xI x0), (xI x1), (xI x2), (xI x3), (xI x4), (xI x5), x6, (xI x7), (xI x8), (xI x9), (xI x10), (xI x11), (xI x12), x13, (xI x20.i), x30, x31] →
(let v33 : X := Ff 224 [(xI x0), (xI x1), (xI x2), (xI x3), (xI x4), (xI x5), (xI x7), (xI x8), (xI x9), (xI x10), (xI x11), (xI x12)]; (((x30.i < v33.i) →
(let v36 : X := Ff 220 [(xI x0), (xI x1), (xI x2), (xI x3), (xI x4), (xI x5), (xI x7), (xI x8), (xI x9), (xI x10), (xI x11), (xI x12)]; let v37 : X := Ff 260 [(xI x7), (xI x8), (xI x9), (xI x10), (xI x11), (xI x12), (xI v36.i), (xI x30.i), (xI x20.i)]; ((0 ≤ v37.i) ∧
(let v39 : X := Ff 223 [(xI x0), (xI x1), (xI x2), (xI x3), (xI x4), (xI x5), (xI x7), (xI x8), (xI x9), (xI x10), (xI x11), (xI x12)]; ((v37.i ≤ (v37.i + (v39.i - v36.i))) ∧
(((v37.i + (v39.i - v36.i)) ≤ x13.i) ∧
(let v42 : X := Ff 260 [(xI x0), (xI x1), (xI x2), (xI x3), (xI x4), (xI x5), (xI v36.i), (xI x30.i), (xI x20.i)]; ((0 ≤ v42.i) ∧
((v42.i ≤ (v42.i + (v39.i - v36.i))) ∧
(((v42.i + (v39.i - v36.i)) ≤ x31.i) ∧
(Px 731 [(xI x0), (xI x1), (xI x2), (xI x3), (xI x4), (xI x5), x6, (xI x7), (xI x8), (xI x9), (xI x10), (xI x11), (xI x12), x13, (xI x20.i), (xI (x30.i + 1)), (mkX (rwCpy x31.r v42.i (min ((v42.i + (v39.i - v36.i)) - v42.i) ((v37.i + (v39.i - v36.i)) - v37.i)) (rwSh x13.r v37.i) 0) x31.i)] ∧
(((Ff 761 [(xI x0), (xI x1), (xI x2), (xI x3), (xI x4), (xI x5), x6, (xI x7), (xI x8), (xI x9), (xI x10), (xI x11), (xI x12), x13, (xI x20.i), (xI (x30.i + 1)), (mkX (rwCpy x31.r v42.i (min ((v42.i + (v39.i - v36.i)) - v42.i) ((v37.i + (v39.i - v36.i)) - v37.i)) (rwSh x13.r v37.i) 0) x31.i)]).i < (Ff 761 [(xI x0), (xI x1), (xI x2), (xI x3), (xI x4), (xI x5), x6, (xI x7), (xI x8), (xI x9), (xI x10), (xI x11), (xI x12), x13, (xI x20.i), x30, x31]).i) ∧
(0 < (Ff 761 [(xI x0), (xI x1), (xI x2), (xI x3), (xI x4), (xI x5), x6, (xI x7), (xI x8), (xI x9), (xI x10), (xI x11), (xI x12), x13, (xI x20.i), x30, x31]).i))))))))))))) ∧
((¬ (x30.i < v33.i)) →
(Px 730 [(xI x0), (xI x1), (xI x2), (xI x3), (xI x4), (xI x5), x6, (xI x7), (xI x8), (xI x9), (xI x10), (xI x11), (xI x12), x13, (xI (x20.i + 1)), x31] ∧
(((Ff 760 [(xI x0), (xI x1), (xI x2), (xI x3), (xI x4), (xI x5), x6, (xI x7), (xI x8), (xI x9), (xI x10), (xI x11), (xI x12), x13, (xI (x20.i + 1)), x31]).i < (Ff 760 [(xI x0), (xI x1), (xI x2), (xI x3), (xI x4), (xI x5), x6, (xI x7), (xI x8), (xI x9), (xI x10), (xI x11), (xI x12), x13, x20, x21]).i) ∧
(0 < (Ff 760 [(xI x0), (xI x1), (xI x2), (xI x3), (xI x4), (xI x5), x6, (xI x7), (xI x8), (xI x9), (xI x10), (xI x11), (xI x12), x13, x20, x21]).i)))))))))))))) ∧
((¬ (x20.i < v25.i)) →
((x0 = (Ff 701 [xI x0, xI x1, xI x2, xI x3, xI x4, xI x5, x6, xI x7, xI x8, xI x9, xI x10, xI x11, xI x12, x13]).i ∧ -1048575 ≤ (Ff 701 [xI x0, xI x1, xI x2, xI x3, xI x4, xI x5, x6, xI x7, xI x8, xI x9, xI x10, xI x11, xI x12, x13]).i ∧ (Ff 701 [xI x0, xI x1, xI x2, xI x3, xI x4, xI x5, x6, xI x7, xI x8, xI x9, xI x10, xI x11, xI x12, x13]).i ≤ 1048575) ∧ ((x1 = (Ff 702 [xI x0, xI x1, xI x2, xI x3, xI x4, xI x5, x6, xI x7, xI x8, xI x9, xI x10, xI x11, xI x12, x13]).i ∧ -1048575 ≤ (Ff 702 [xI x0, xI x1, xI x2, xI x3, xI x4, xI x5, x6, xI x7, xI x8, xI x9, xI x10, xI x11, xI x12, x13]).i ∧ (Ff 702 [xI x0, xI x1, xI x2, xI x3, xI x4, xI x5, x6, xI x7, xI x8, xI x9, xI x10, xI x11, xI x12, x13]).i ≤ 1048575) ∧ ((x2 = (Ff 703 [xI x0, xI x1, xI x2, xI x3, xI x4, xI x5, x6, xI x7, xI x8, xI x9, xI x10, xI x11, xI x12, x13]).i ∧ -1048575 ≤ (Ff 703 [xI x0, xI x1, xI x2, xI x3, xI x4, xI x5, x6, xI x7, xI x8, xI x9, xI x10, xI x11, xI x12, x13]).i ∧ (Ff 703 [xI x0, xI x1, xI x2, xI x3, xI x4, xI x5, x6, xI x7, xI x8, xI x9, xI x10, xI x11, xI x12, x13]).i ≤ 1048575) ∧ ((x3 = (Ff 704 [xI x0, xI x1, xI x2, xI x3, xI x4, xI x5, x6, xI x7, xI x8, xI x9, xI x10, xI x11, xI x12, x13]).i ∧ -1048575 ≤ (Ff 704 [xI x0, xI x1, xI x2, xI x3, xI x4, xI x5, x6, xI x7, xI x8, xI x9, xI x10, xI x11, xI x12, x13]).i ∧ (Ff 704 [xI x0, xI x1, xI x2, xI x3, xI x4, xI x5, x6, xI x7, xI x8, xI x9, xI x10, xI x11, xI x12, x13]).i ≤ 1048575) ∧ ((x4 = (Ff 705 [xI x0, xI x1, xI x2, xI x3, xI x4, xI x5, x6, xI x7, xI x8, xI x9, xI x10, xI x11, xI x12, x13]).i ∧ -1048575 ≤ (Ff 705 [xI x0, xI x1, xI x2, xI x3, xI x4, xI x5, x6, xI x7, xI x8, xI x9, xI x10, xI x11, xI x12, x13]).i ∧ (Ff 705 [xI x0, xI x1, xI x2, xI x3, xI x4, xI x5, x6, xI x7, xI x8, xI x9, xI x10, xI x11, xI x12, x13]).i ≤ 1048575) ∧ ((x5 = (Ff 706 [xI x0, xI x1, xI x2, xI x3, xI x4, xI x5, x6, xI x7, xI x8, xI x9, xI x10, xI x11, xI x12, x13]).i ∧ -1048575 ≤ (Ff 706 [xI x0, xI x1, xI x2, xI x3, xI x4, xI x5, x6, xI x7, xI x8, xI x9, xI x10, xI x11, xI x12, x13]).i ∧ (Ff 706 [xI x0, xI x1, xI x2, xI x3, xI x4, xI x5, x6, xI x7, xI x8, xI x9, xI x10, xI x11, xI x12, x13]).i ≤ 1048575) ∧ (rowEq SMat (Ff 707 [xI x0, xI x1, xI x2, xI x3, xI x4, xI x5, x6, xI x7, xI x8, xI x9, xI x10, xI x11, xI x12, x13]) x21.r x21.i 2097152))))))))))))))))))
theorem PasteL (x0 : Int) (x1 : Int) (x2 : Int) (x3 : Int) (x4 : Int) (x5 : Int) (x6 : X) (x7 : Int) (x8 : Int) (x9 : Int) (x10 : Int) (x11 : Int) (x12 : Int) (x13 : X) : (ctrR (fun j => Ff j [xI x0, xI x1, xI x2, xI x3, xI x4, xI x5, x6, xI x7, xI x8, xI x9, xI x10, xI x11, xI x12, x13]) cPaste.fs cPaste.res { ρ0 with x := fun j => [xI x0, xI x1, xI x2, xI x3, xI x4, xI x5, x6, xI x7, xI x8, xI x9, xI x10, xI x11, xI x12, x13].getD j (xI 0) } (walkR Tryz.prog (cfG none [cInter, cIndex] [] lpPaste sumL) Tryz.f17 500 shPaste)) = PasteP x0 x1 x2 x3 x4 x5 x6 x7 x8 x9 x10 x11 x12 x13 := by kernel_rfl
set_option maxHeartbeats 4000000 in
theorem PasteO (x0 : Int) (x1 : Int) (x2 : Int) (x3 : Int) (x4 : Int) (x5 : Int) (x6 : X) (x7 : Int) (x8 : Int) (x9 : Int) (x10 : Int) (x11 : Int) (x12 : Int) (x13 : X) (g0 : -1048575 ≤ x0 ∧ x0 ≤ 1048575) (g1 : -1048575 ≤ x1 ∧ x1 ≤ 1048575) (g2 : -1048575 ≤ x2 ∧ x2 ≤ 1048575) (g3 : -1048575 ≤ x3 ∧ x3 ≤ 1048575) (g4 : -1048575 ≤ x4 ∧ x4 ≤ 1048575) (g5 : -1048575 ≤ x5 ∧ x5 ≤ 1048575) (g6 : 0 ≤ x6.i ∧ x6.i ≤ 2097152 ∧ RowOk SMat x6.r x6.i.toNat) (g7 : -1048575 ≤ x7 ∧ x7 ≤ 1048575) (g8 : -1048575 ≤ x8 ∧ x8 ≤ 1048575) (g9 : -1048575 ≤ x9 ∧ x9 ≤ 1048575) (g10 : -1048575 ≤ x10 ∧ x10 ≤ 1048575) (g11 : -1048575 ≤ x11 ∧ x11 ≤ 1048575) (g12 : -1048575 ≤ x12 ∧ x12 ≤ 1048575) (g13 : 0 ≤ x13.i ∧ x13.i ≤ 2097152 ∧ RowOk SMat x13.r x13.i.toNat) (gp : Px cPaste.pre.get! [xI x0, xI x1, xI x2, xI x3, xI x4, xI x5, x6, xI x7, xI x8, xI x9, xI x10, xI x11, xI x12, x13]) : PasteP x0 x1 x2 x3 x4 x5 x6 x7 x8 x9 x10 x11 x12 x13 := by
  unfold PasteP
  obtain ⟨q1, q2⟩ := gp
  obtain ⟨k0, k1, k2, k3, k4⟩ := (v700 g6.1).1 q1
  obtain ⟨j0, j1, j2, j3, j4⟩ := (v700 g13.1).1 q2
  have hV : (bxI x0 x1 x2 x3 x4 x5).vol = x6.i := k3
  have hV' : (bxI x7 x8 x9 x10 x11 x12).vol = x13.i := j3
  have hd := fun p => has_def (b := (bxI x0 x1 x2 x3 x4 x5).int (bxI x7 x8 x9 x10 x11 x12)) (p := p)
  clear k4 j4 q1 q2
  refine And.intro ?_ ?_
  · intro h1
    have hz := int_nil (b := bxI x0 x1 x2 x3 x4 x5) (b' := bxI x7 x8 x9 x10 x11 x12) (by show ¬ (x0 < x3 ∧ x1 < x4 ∧ x2 < x5); omega)
    intro v2
    refine andI ?_ fun o3 => ?_
    · exact Int.le_of_eq hz.1.symm -- #0
    intro x20
    intro h4
    intro p5
    have p5 : 0 ≤ x20.i := p5
    intro v6
    have e6 : v6.i = 0 := hz.2
    refine And.intro ?_ ?_
    · intro h8
      intro v9
      refine andI ?_ fun o10 => ?_
      · exact trivial -- #1
      intro x30
      intro h11
      intro p12
      intro v13
      refine And.intro ?_ ?_
      · intro h15
        omega -- #2
      intro h16
      refine andI ?_ fun o17 => ?_
      · skip -- #3
        show 0 ≤ x20.i + 1
        omega
      refine andI ?_ fun o18 => ?_
      · skip -- #4
        show 1048576 - (x20.i + 1) < 1048576 - x20.i
        omega
      skip -- #5
      show 0 < 1048576 - x20.i
      omega
    intro h19
    skip -- #6
    refine ⟨⟨rfl, g0⟩, ⟨rfl, g1⟩, ⟨rfl, g2⟩, ⟨rfl, g3⟩, ⟨rfl, g4⟩, ⟨rfl, g5⟩, ?_, by decide⟩
    show ((pasL (bxI x0 x1 x2 x3 x4 x5) (lstX deI x6) (bxI x7 x8 x9 x10 x11 x12) (lstX deI x13)).length : Int) = 0
    unfold pasL
    rw [List.length_map, List.length_range, lstX_len]
    omega
  intro v20
  refine andI ?_ fun o21 => ?_
  · skip -- #7
    refine ⟨pas_congr hV (pas_none rfl) fun p hp => ?_, Int.le_refl _⟩
    have := (hd p).1 hp
    exact (decide_eq_false (by show ¬ p.2.2 < ((bxI x0 x1 x2 x3 x4 x5).int (bxI x7 x8 x9 x10 x11 x12)).c; omega)).symm
  intro x20
  intro x21
  intro h22
  intro r23
  intro p24
  have p24 : pasI (bxI x0 x1 x2 x3 x4 x5) x6 (bxI x7 x8 x9 x10 x11 x12) x13 (fun p => decide (p.2.2 < x20.i)) x21 ∧ ((bxI x0 x1 x2 x3 x4 x5).int (bxI x7 x8 x9 x10 x11 x12)).c ≤ x20.i := p24
  intro v25
  refine And.intro ?_ ?_
  · intro h27
    intro v28
    refine andI ?_ fun o29 => ?_
    · skip -- #8
      refine ⟨pas_congr hV p24.1 fun p hp => ?_, Int.le_refl _⟩
      have := (hd p).1 hp
      rw [Bool.eq_iff_iff]
      simp only [Bool.or_eq_true, Bool.and_eq_true, decide_eq_true_eq]
      show p.2.2 < x20.i ↔ p.2.2 < x20.i ∨ (p.2.2 = x20.i ∧ p.2.1 < ((bxI x0 x1 x2 x3 x4 x5).int (bxI x7 x8 x9 x10 x11 x12)).b)
      omega
    intro x30
    intro x31
    intro h30
    intro r31
    intro p32
    have p32 : pasI (bxI x0 x1 x2 x3 x4 x5) x6 (bxI x7 x8 x9 x10 x11 x12) x13 (fun p => decide (p.2.2 < x20.i) || (decide (p.2.2 = x20.i) && decide (p.2.1 < x30.i))) x31 ∧ ((bxI x0 x1 x2 x3 x4 x5).int (bxI x7 x8 x9 x10 x11 x12)).b ≤ x30.i := p32
    have e32 := p32.1.1
    intro v33
    refine And.intro ?_ ?_
    · intro h35
      obtain ⟨s1, s2⟩ := pas_step hV hV' ⟨p24.2, h27⟩ ⟨p32.2, h35⟩ rfl p32.1
      intro v36
      intro v37
      refine andI ?_ fun o38 => ?_
      · exact s1.1 -- #9
      intro v39
      refine andI ?_ fun o40 => ?_
      · skip -- #10
        have : 0 < v39.i - v36.i := s1.2.2.2.2
        omega
      refine andI ?_ fun o41 => ?_
      · exact s1.2.1 -- #11
      intro v42
      have t1 : 0 ≤ v37.i ∧ v37.i + (v39.i - v36.i) ≤ x13.i ∧ 0 ≤ v42.i ∧ v42.i + (v39.i - v36.i) ≤ x6.i ∧ 0 < v39.i - v36.i := s1
      refine andI ?_ fun o43 => ?_
      · exact s1.2.2.1 -- #12
      refine andI ?_ fun o44 => ?_
      · omega -- #13
      refine andI ?_ fun o45 => ?_
      · omega -- #14
      refine andI ?_ fun o46 => ?_
      · skip -- #15
        have em : min ((v42.i + (v39.i - v36.i)) - v42.i) ((v37.i + (v39.i - v36.i)) - v37.i) = v39.i - v36.i := by omega
        rw [em]
        exact ⟨s2, show ((bxI x0 x1 x2 x3 x4 x5).int (bxI x7 x8 x9 x10 x11 x12)).b ≤ x30.i + 1 by omega⟩
      refine andI ?_ fun o47 => ?_
      · skip -- #16
        show 1048576 - (x30.i + 1) < 1048576 - x30.i
        omega
      skip -- #17
      show 0 < 1048576 - x30.i
      omega
    intro h48
    refine andI ?_ fun o49 => ?_
    · skip -- #18
      refine ⟨pas_congr hV p32.1 fun p hp => ?_, show ((bxI x0 x1 x2 x3 x4 x5).int (bxI x7 x8 x9 x10 x11 x12)).c ≤ x20.i + 1 by omega⟩
      have := (hd p).1 hp
      have h48 : ¬ x30.i < ((bxI x0 x1 x2 x3 x4 x5).int (bxI x7 x8 x9 x10 x11 x12)).e := h48
      rw [Bool.eq_iff_iff]
      simp only [Bool.or_eq_true, Bool.and_eq_true, decide_eq_true_eq]
      show p.2.2 < x20.i ∨ (p.2.2 = x20.i ∧ p.2.1 < x30.i) ↔ p.2.2 < x20.i + 1
      omega
    refine andI ?_ fun o50 => ?_
    · skip -- #19
      show 1048576 - (x20.i + 1) < 1048576 - x20.i
      omega
    skip -- #20
    show 0 < 1048576 - x20.i
    omega
  intro h51
  skip -- #21
  refine ⟨⟨rfl, g0⟩, ⟨rfl, g1⟩, ⟨rfl, g2⟩, ⟨rfl, g3⟩, ⟨rfl, g4⟩, ⟨rfl, g5⟩, rowEq_of eqEl_int r23.1 r23.2.1 (pas_end hV hV' g6.1 p24.1 fun p hp => ?_)⟩
  have := (hd p).1 hp
  have h51 : ¬ x20.i < ((bxI x0 x1 x2 x3 x4 x5).int (bxI x7 x8 x9 x10 x11 x12)).f := h51
  exact decide_eq_true (by omega)
theorem kPaste : RCtrOk Tryz.prog ρ0 cPaste := by
  refine rctr_ofN (cf := cfG none [cInter, cIndex] [] lpPaste sumL) (cfG_ok ((keep0.cons kIndex nIndex).cons kInter nInter) keepR0 noF) Tryz.func17 rfl 500 rfl (sh := shPaste) (by kernel_rfl) pas_rsh fun ds hr hp => ?_
  have hr := rshX_flat hr
  match ds, hr, hp with
  | [d0, d1, d2, d3, d4, d5, d6, d7, d8, d9, d10, d11, d12, d13], hr, hp =>
    obtain ⟨⟨e0, l0, u0⟩, ⟨e1, l1, u1⟩, ⟨e2, l2, u2⟩, ⟨e3, l3, u3⟩, ⟨e4, l4, u4⟩, ⟨e5, l5, u5⟩, l6, ⟨e7, l7, u7⟩, ⟨e8, l8, u8⟩, ⟨e9, l9, u9⟩, ⟨e10, l10, u10⟩, ⟨e11, l11, u11⟩, ⟨e12, l12, u12⟩, l13, _⟩ := hr
    generalize d0.i = x0 at *
    generalize d1.i = x1 at *
    generalize d2.i = x2 at *
    generalize d3.i = x3 at *
    generalize d4.i = x4 at *
    generalize d5.i = x5 at *
    generalize d6 = x6 at *
    generalize d7.i = x7 at *
    generalize d8.i = x8 at *
    generalize d9.i = x9 at *
    generalize d10.i = x10 at *
    generalize d11.i = x11 at *
    generalize d12.i = x12 at *
    generalize d13 = x13 at *
    subst e0 e1 e2 e3 e4 e5 e7 e8 e9 e10 e11 e12
    exact Eq.mpr (PasteL x0 x1 x2 x3 x4 x5 x6 x7 x8 x9 x10 x11 x12 x13) (PasteO x0 x1 x2 x3 x4 x5 x6 x7 x8 x9 x10 x11 x12 x13 ⟨l0, u0⟩ ⟨l1, u1⟩ ⟨l2, u2⟩ ⟨l3, u3⟩ ⟨l4, u4⟩ ⟨l5, u5⟩ l6 ⟨l7, u7⟩ ⟨l8, u8⟩ ⟨l9, u9⟩ ⟨l10, u10⟩ ⟨l11, u11⟩ ⟨l12, u12⟩ l13 hp)
theorem nPaste : ∃ fn, Tryz.prog.funcs[cPaste.f]? = some fn ∧ fn.body.isSome = true ∧ (fn.name == "runtime.NumGoroutine") = false := ⟨_, Tryz.func17, by kernel_rfl, by kernel_rfl⟩
end Vc
end Go.Proofs.YtleapeclbkclaaaGreatDoor
