/- Contracts of functions, each out of one walk. -/
import Derived.Test.YtokicaoapclicaaC41D
import Derived.Test.YtokicaoapclicaaC41N
namespace Go.Proofs.Ytokicaoapclicaa
namespace Vc
open Go Go.RowKit
set_option linter.unusedVariables false

/-- What is left of the contract of collide.Boxes. -/
def BoxesP (x0 : Int) (x1 : Int) (x2 : Int) (x3 : Int) (x4 : Int) (x5 : Int) (x6 : X) (x7 : X) : Prop :=
(Px 630 [(xI x0), (xI x1), (xI x2), (xI x3), (xI x4), (xI x5), x6, x7, (xI 0), (mkX (rwRep [(xB false)]) x6.i)] ∧
(∀ x20 : X, (∀ x21 : X, (((0 ≤ x20.i) ∧ (x20.i ≤ 600)) →
((0 ≤ x21.i ∧ x21.i ≤ 600 ∧ RowOk [.bool] x21.r (x21.i).toNat) →
(Px 630 [(xI x0), (xI x1), (xI x2), (xI x3), (xI x4), (xI x5), x6, x7, x20, x21] →
(((x20.i < x6.i) →
((x20.i < x6.i) ∧
(((((x6.r x20.i 0).i < 0) ∨ (x7.i ≤ (x6.r x20.i 0).i)) →
((x20.i < x21.i) ∧
(Px 630 [(xI x0), (xI x1), (xI x2), (xI x3), (xI x4), (xI x5), x6, x7, (xI (x20.i + 1)), (mkX (rwSet x21.r x20.i 0 (xB false)) x21.i)] ∧
(((Ff 653 [(xI x0), (xI x1), (xI x2), (xI x3), (xI x4), (xI x5), x6, x7, (xI (x20.i + 1)), (mkX (rwSet x21.r x20.i 0 (xB false)) x21.i)]).i < (Ff 653 [(xI x0), (xI x1), (xI x2), (xI x3), (xI x4), (xI x5), x6, x7, x20, x21]).i) ∧
(0 < (Ff 653 [(xI x0), (xI x1), (xI x2), (xI x3), (xI x4), (xI x5), x6, x7, x20, x21]).i))))) ∧
((¬ (((x6.r x20.i 0).i < 0) ∨ (x7.i ≤ (x6.r x20.i 0).i))) →
(((x6.r x20.i 0).i < x7.i) ∧
((x20.i < x21.i) ∧
(Px 630 [(xI x0), (xI x1), (xI x2), (xI x3), (xI x4), (xI x5), x6, x7, (xI (x20.i + 1)), (mkX (rwSet x21.r x20.i 0 (selX x7.r (x6.r x20.i 0).i 1)) x21.i)] ∧
(((Ff 653 [(xI x0), (xI x1), (xI x2), (xI x3), (xI x4), (xI x5), x6, x7, (xI (x20.i + 1)), (mkX (rwSet x21.r x20.i 0 (selX x7.r (x6.r x20.i 0).i 1)) x21.i)]).i < (Ff 653 [(xI x0), (xI x1), (xI x2), (xI x3), (xI x4), (xI x5), x6, x7, x20, x21]).i) ∧
(0 < (Ff 653 [(xI x0), (xI x1), (xI x2), (xI x3), (xI x4), (xI x5), x6, x7, x20, x21]).i))))))))) ∧
((¬ (x20.i < x6.i)) →
(Px 631 [(xI x0), (xI x1), (xI x2), (xI x3), (xI x4), (xI x5), x6, x7, (xI 0), x21, (mkX (rwTab 1 []) 0)] ∧
(∀ x30 : X, (∀ x31 : X, (∀ x32 : X, (((0 ≤ x30.i) ∧ (x30.i ≤ 600)) →
((0 ≤ x31.i ∧ x31.i ≤ 600 ∧ RowOk [.bool] x31.r (x31.i).toNat) →
((0 ≤ x32.i ∧ x32.i ≤ 600 ∧ RowOk S6b x32.r (x32.i).toNat) →
(Px 631 [(xI x0), (xI x1), (xI x2), (xI x3), (xI x4), (xI x5), x6, x7, x30, x31, x32] →
(((x30.i < x6.i) →
((x30.i < x6.i) ∧
(let v26 : X := Ff 270 [(xI x0), (xI x1), (xI x2), (xI x3), (xI x4), (xI x5), (xI x30.i)]; let v27 : X := Ff 271 [(xI x0), (xI x1), (xI x2), (xI x3), (xI x4), (xI x5), (xI x30.i)]; let v28 : X := Ff 272 [(xI x0), (xI x1), (xI x2), (xI x3), (xI x4), (xI x5), (xI x30.i)]; let v29 : X := Ff 260 [(xI x0), (xI x1), (xI x2), (xI x3), (xI x4), (xI x5), (xI v26.i), (xI v27.i), (xI v28.i)]; ((0 ≤ v29.i) ∧
((v29.i < x31.i) ∧
(((¬ ((x31.r v29.i 0).b = true)) →
(Px 631 [(xI x0), (xI x1), (xI x2), (xI x3), (xI x4), (xI x5), x6, x7, (xI (x30.i + 1)), x31, x32] ∧
(((Ff 654 [(xI x0), (xI x1), (xI x2), (xI x3), (xI x4), (xI x5), x6, x7, (xI (x30.i + 1)), x31, x32]).i < (Ff 654 [(xI x0), (xI x1), (xI x2), (xI x3), (xI x4), (xI x5), x6, x7, x30, x31, x32]).i) ∧
(0 < (Ff 654 [(xI x0), (xI x1), (xI x2), (xI x3), (xI x4), (xI x5), x6, x7, x30, x31, x32]).i)))) ∧
(((x31.r v29.i 0).b = true) →
(((-1000) ≤ (v26.i + 1)) ∧
(((v26.i + 1) ≤ 1000) ∧
(((-1000) ≤ (v27.i + 1)) ∧
(((v27.i + 1) ≤ 1000) ∧
(((-1000) ≤ (v28.i + 1)) ∧
(((v28.i + 1) ≤ 1000) ∧
(Px 632 [(xI x0), (xI x1), (xI x2), (xI x3), (xI x4), (xI x5), x31, (xI 0), (xI v26.i), (xI v27.i), (xI v28.i), (xI (v26.i + 1)), (xI (v27.i + 1)), (xI (v28.i + 1)), (xI (v26.i + 1)), (xI (v27.i + 1)), (xI (v28.i + 1))] ∧
(∀ x40 : X, (∀ x41 : X, (∀ x42 : X, ((((-1000) ≤ x40.i) ∧ (x40.i ≤ 1000)) →
((((-1000) ≤ x41.i) ∧ (x41.i ≤ 1000)) →
((((-1000) ≤ x42.i) ∧ (x42.i ≤ 1000)) →
(Px 632 [(xI x0), (xI x1), (xI x2), (xI x3), (xI x4), (xI x5), x31, (xI 0), (xI v26.i), (xI v27.i), (xI v28.i), (xI (v26.i + 1)), (xI (v27.i + 1)), (xI (v28.i + 1)), x40, x41, x42] →
(Px 634 [(xI x0), (xI x1), (xI x2), (xI x3), (xI x4), (xI x5), (xI x40.i), (xI v27.i), (xI v28.i), (xI (x40.i + 1)), (xI x41.i), (xI x42.i), x31, (xI 0)] ∧
(∀ x70 : X, (((0 ≤ x70.i) ∧ (x70.i ≤ 9223345648600875000)) →
(Px 634 [(xI x0), (xI x1), (xI x2), (xI x3), (xI x4), (xI x5), (xI x40.i), (xI v27.i), (xI v28.i), (xI (x40.i + 1)), (xI x41.i), (xI x42.i), x31, x70] →
(let v51 : X := Ff 210 [(xI x40.i), (xI v27.i), (xI v28.i), (xI (x40.i + 1)), (xI x41.i), (xI x42.i)]; (((x70.i < v51.i) →
(let v54 : X := Ff 270 [(xI x40.i), (xI v27.i), (xI v28.i), (xI (x40.i + 1)), (xI x41.i), (xI x42.i), (xI x70.i)]; let v55 : X := Ff 271 [(xI x40.i), (xI v27.i), (xI v28.i), (xI (x40.i + 1)), (xI x41.i), (xI x42.i), (xI x70.i)]; let v56 : X := Ff 272 [(xI x40.i), (xI v27.i), (xI v28.i), (xI (x40.i + 1)), (xI x41.i), (xI x42.i), (xI x70.i)]; let v57 : X := Ff 260 [(xI x0), (xI x1), (xI x2), (xI x3), (xI x4), (xI x5), (xI v54.i), (xI v55.i), (xI v56.i)]; (((¬ (v57.i < 0)) →
(0 ≤ v57.i)) ∧
(((¬ (v57.i < 0)) →
(v57.i < x31.i)) ∧
((((v57.i < 0) ∨ (¬ ((x31.r v57.i 0).b = true))) →
(Px 632 [(xI x0), (xI x1), (xI x2), (xI x3), (xI x4), (xI x5), x31, (xI 1), (xI v26.i), (xI v27.i), (xI v28.i), (xI x40.i), (xI x41.i), (xI x42.i), (xI x40.i), (xI x41.i), (xI x42.i)] ∧
(∀ x45 : X, (∀ x46 : X, (∀ x47 : X, ((((-1000) ≤ x45.i) ∧ (x45.i ≤ 1000)) →
((((-1000) ≤ x46.i) ∧ (x46.i ≤ 1000)) →
((((-1000) ≤ x47.i) ∧ (x47.i ≤ 1000)) →
(Px 632 [(xI x0), (xI x1), (xI x2), (xI x3), (xI x4), (xI x5), x31, (xI 1), (xI v26.i), (xI v27.i), (xI v28.i), (xI x40.i), (xI x41.i), (xI x42.i), x45, x46, x47] →
(Px 634 [(xI x0), (xI x1), (xI x2), (xI x3), (xI x4), (xI x5), (xI v26.i), (xI x46.i), (xI v28.i), (xI x45.i), (xI (x46.i + 1)), (xI x47.i), x31, (xI 0)] ∧
(∀ x70 : X, (((0 ≤ x70.i) ∧ (x70.i ≤ 9223345648600875000)) →
(Px 634 [(xI x0), (xI x1), (xI x2), (xI x3), (xI x4), (xI x5), (xI v26.i), (xI x46.i), (xI v28.i), (xI x45.i), (xI (x46.i + 1)), (xI x47.i), x31, x70] →
(let v72 : X := Ff 210 [(xI v26.i), (xI x46.i), (xI v28.i), (xI x45.i), (xI (x46.i + 1)), (xI x47.i)]; (((x70.i < v72.i) →
(let v75 : X := Ff 270 [(xI v26.i), (xI x46.i), (xI v28.i), (xI x45.i), (xI (x46.i + 1)), (xI x47.i), (xI x70.i)]; let v76 : X := Ff 271 [(xI v26.i), (xI x46.i), (xI v28.i), (xI x45.i), (xI (x46.i + 1)), (xI x47.i), (xI x70.i)]; let v77 : X := Ff 272 [(xI v26.i), (xI x46.i), (xI v28.i), (xI x45.i), (xI (x46.i + 1)), (xI x47.i), (xI x70.i)]; let v78 : X := Ff 260 [(xI x0), (xI x1), (xI x2), (xI x3), (xI x4), (xI x5), (xI v75.i), (xI v76.i), (xI v77.i)]; (((¬ (v78.i < 0)) →
(0 ≤ v78.i)) ∧
(((¬ (v78.i < 0)) →
(v78.i < x31.i)) ∧
((((v78.i < 0) ∨ (¬ ((x31.r v78.i 0).b = true))) →
(Px 632 [(xI x0), (xI x1), (xI x2), (xI x3), (xI x4), (xI x5), x31, (xI 2), (xI v26.i), (xI v27.i), (xI v28.i), (xI x45.i), (xI x46.i), (xI x47.i), (xI x45.i), (xI x46.i), (xI x47.i)] ∧
(∀ x50 : X, (∀ x51 : X, (∀ x52 : X, ((((-1000) ≤ x50.i) ∧ (x50.i ≤ 1000)) →
((((-1000) ≤ x51.i) ∧ (x51.i ≤ 1000)) →
((((-1000) ≤ x52.i) ∧ (x52.i ≤ 1000)) →
(Px 632 [(xI x0), (xI x1), (xI x2), (xI x3), (xI x4), (xI x5), x31, (xI 2), (xI v26.i), (xI v27.i), (xI v28.i), (xI x45.i), (xI x46.i), (xI x47.i), x50, x51, x52] →
(Px 634 [(xI x0), (xI x1), (xI x2), (xI x3), (xI x4), (xI x5), (xI v26.i), (xI v27.i), (xI x52.i), (xI x50.i), (xI x51.i), (xI (x52.i + 1)), x31, (xI 0)] ∧
(∀ x70 : X, (((0 ≤ x70.i) ∧ (x70.i ≤ 9223345648600875000)) →
(Px 634 [(xI x0), (xI x1), (xI x2), (xI x3), (xI x4), (xI x5), (xI v26.i), (xI v27.i), (xI x52.i), (xI x50.i), (xI x51.i), (xI (x52.i + 1)), x31, x70] →
(let v93 : X := Ff 210 [(xI v26.i), (xI v27.i), (xI x52.i), (xI x50.i), (xI x51.i), (xI (x52.i + 1))]; (((x70.i < v93.i) →
(let v96 : X := Ff 270 [(xI v26.i), (xI v27.i), (xI x52.i), (xI x50.i), (xI x51.i), (xI (x52.i + 1)), (xI x70.i)]; let v97 : X := Ff 271 [(xI v26.i), (xI v27.i), (xI x52.i), (xI x50.i), (xI x51.i), (xI (x52.i + 1)), (xI x70.i)]; let v98 : X := Ff 272 [(xI v26.i), (xI v27.i), (xI x52.i), (xI x50.i), (xI x51.i), (xI (x52.i + 1)), (xI x70.i)]; let v99 : X := Ff 260 [(xI x0), (xI x1), (xI x2), (xI x3), (xI x4), (xI x5), (xI v96.i), (xI v97.i), (xI v98.i)]; (((¬ (v99.i < 0)) →
(0 ≤ v99.i)) ∧
(((¬ (v99.i < 0)) →
(v99.i < x31.i)) ∧
((((v99.i < 0) ∨ (¬ ((x31.r v99.i 0).b = true))) →
(Px 633 [(xI x0), (xI x1), (xI x2), (xI x3), (xI x4), (xI x5), (xI v26.i), (xI v27.i), (xI v28.i), (xI x50.i), (xI x51.i), (xI x52.i), x31, (xI 0), x31] ∧
(∀ x60 : X, (∀ x61 : X, (((0 ≤ x60.i) ∧ (x60.i ≤ 9223345648600875000)) →
((0 ≤ x61.i ∧ x61.i ≤ 600 ∧ RowOk [.bool] x61.r (x61.i).toNat) →
(Px 633 [(xI x0), (xI x1), (xI x2), (xI x3), (xI x4), (xI x5), (xI v26.i), (xI v27.i), (xI v28.i), (xI x50.i), (xI x51.i), (xI x52.i), x31, x60, x61] →
(let v110 : X := Ff 210 [(xI v26.i), (xI v27.i), (xI v28.i), (xI x50.i), (xI x51.i), (xI x52.i)]; (((x60.i < v110.i) →
(let v113 : X := Ff 270 [(xI v26.i), (xI v27.i), (xI v28.i), (xI x50.i), (xI x51.i), (xI x52.i), (xI x60.i)]; let v114 : X := Ff 271 [(xI v26.i), (xI v27.i), (xI v28.i), (xI x50.i), (xI x51.i), (xI x52.i), (xI x60.i)]; let v115 : X := Ff 272 [(xI v26.i), (xI v27.i), (xI v28.i), (xI x50.i), (xI x51.i), (xI x52.i), (xI x60.i)]; let v116 : X := Ff 260 [(xI x0), (xI x1), (xI x2), (xI x3), (xI x4), (xI x5), (xI v113.i), (xI v114.i), (xI v115.i)]; ((0 ≤ v116.i) ∧
((v116.i < x61.i) ∧
(Px 633 [(xI x0), (xI x1), (xI x2), (xI x3), (xI x4), (xI x5), (xI v26.i), (xI v27.i), (xI v28.i), (xI x50.i), (xI x51.i), (xI x52.i), x31, (xI (x60.i + 1)), (mkX (rwSet x61.r v116.i 0 (xB false)) x61.i)] ∧
(((Ff 656 [(xI x0), (xI x1), (xI x2), (xI x3), (xI x4), (xI x5), (xI v26.i), (xI v27.i), (xI v28.i), (xI x50.i), (xI x51.i), (xI x52.i), x31, (xI (x60.i + 1)), (mkX (rwSet x61.r v116.i 0 (xB false)) x61.i)]).i < (Ff 656 [(xI x0), (xI x1), (xI x2), (xI x3), (xI x4), (xI x5), (xI v26.i), (xI v27.i), (xI v28.i), (xI x50.i), (xI x51.i), (xI x52.i), x31, x60, x61]).i) ∧
(0 < (Ff 656 [(xI x0), (xI x1), (xI x2), (xI x3), (xI x4), (xI x5), (xI v26.i), (xI v27.i), (xI v28.i), (xI x50.i), (xI x51.i), (xI x52.i), x31, x60, x61]).i))))))) ∧
((¬ (x60.i < v110.i)) →
(((x32.i + 1) ≤ 600) ∧
(Px 631 [(xI x0), (xI x1), (xI x2), (xI x3), (xI x4), (xI x5), x6, x7, (xI (x30.i + 1)), x61, (mkX (rwCat x32.r x32.i (rwTab 6 [v26, v27, v28, x50, x51, x52])) (x32.i + 1))] ∧
(((Ff 654 [(xI x0), (xI x1), (xI x2), (xI x3), (xI x4), (xI x5), x6, x7, (xI (x30.i + 1)), x61, (mkX (rwCat x32.r x32.i (rwTab 6 [v26, v27, v28, x50, x51, x52])) (x32.i + 1))]).i < (Ff 654 [(xI x0), (xI x1), (xI x2), (xI x3), (xI x4), (xI x5), x6, x7, x30, x31, x32]).i) ∧
(0 < (Ff 654 [(xI x0), (xI x1), (xI x2), (xI x3), (xI x4), (xI x5), x6, x7, x30, x31, x32]).i)))))))))))))) ∧
((¬ ((v99.i < 0) ∨ (¬ ((x31.r v99.i 0).b = true)))) →
(Px 634 [(xI x0), (xI x1), (xI x2), (xI x3), (xI x4), (xI x5), (xI v26.i), (xI v27.i), (xI x52.i), (xI x50.i), (xI x51.i), (xI (x52.i + 1)), x31, (xI (x70.i + 1))] ∧
(((Ff 657 [(xI x0), (xI x1), (xI x2), (xI x3), (xI x4), (xI x5), (xI v26.i), (xI v27.i), (xI x52.i), (xI x50.i), (xI x51.i), (xI (x52.i + 1)), x31, (xI (x70.i + 1))]).i < (Ff 657 [(xI x0), (xI x1), (xI x2), (xI x3), (xI x4), (xI x5), (xI v26.i), (xI v27.i), (xI x52.i), (xI x50.i), (xI x51.i), (xI (x52.i + 1)), x31, x70]).i) ∧
(0 < (Ff 657 [(xI x0), (xI x1), (xI x2), (xI x3), (xI x4), (xI x5), (xI v26.i), (xI v27.i), (xI x52.i), (xI x50.i), (xI x51.i), (xI (x52.i + 1)), x31, x70]).i))))))))) ∧
((¬ (x70.i < v93.i)) →
(((x52.i + 1) ≤ 1000) ∧
(Px 632 [(xI x0), (xI x1), (xI x2), (xI x3), (xI x4), (xI x5), x31, (xI 2), (xI v26.i), (xI v27.i), (xI v28.i), (xI x45.i), (xI x46.i), (xI x47.i), (xI x50.i), (xI x51.i), (xI (x52.i + 1))] ∧
(((Ff 655 [(xI x0), (xI x1), (xI x2), (xI x3), (xI x4), (xI x5), x31, (xI 2), (xI v26.i), (xI v27.i), (xI v28.i), (xI x45.i), (xI x46.i), (xI x47.i), (xI x50.i), (xI x51.i), (xI (x52.i + 1))]).i < (Ff 655 [(xI x0), (xI x1), (xI x2), (xI x3), (xI x4), (xI x5), x31, (xI 2), (xI v26.i), (xI v27.i), (xI v28.i), (xI x45.i), (xI x46.i), (xI x47.i), x50, x51, x52]).i) ∧
(0 < (Ff 655 [(xI x0), (xI x1), (xI x2), (xI x3), (xI x4), (xI x5), x31, (xI 2), (xI v26.i), (xI v27.i), (xI v28.i), (xI x45.i), (xI x46.i), (xI x47.i), x50, x51, x52]).i)))))))))))))))))))) ∧
((¬ ((v78.i < 0) ∨ (¬ ((x31.r v78.i 0).b = true)))) →
(Px 634 [(xI x0), (xI x1), (xI x2), (xI x3), (xI x4), (xI x5), (xI v26.i), (xI x46.i), (xI v28.i), (xI x45.i), (xI (x46.i + 1)), (xI x47.i), x31, (xI (x70.i + 1))] ∧
(((Ff 657 [(xI x0), (xI x1), (xI x2), (xI x3), (xI x4), (xI x5), (xI v26.i), (xI x46.i), (xI v28.i), (xI x45.i), (xI (x46.i + 1)), (xI x47.i), x31, (xI (x70.i + 1))]).i < (Ff 657 [(xI x0), (xI x1), (xI x2), (xI x3), (xI x4), (xI x5), (xI v26.i), (xI x46.i), (xI v28.i), (xI x45.i), (xI (x46.i + 1)), (xI x47.i), x31, x70]).i) ∧
(0 < (Ff 657 [(xI x0), (xI x1), (xI x2), (xI x3), (xI x4), (xI x5), (xI v26.i), (xI x46.i), (xI v28.i), (xI x45.i), (xI (x46.i + 1)), (xI x47.i), x31, x70]).i))))))))) ∧
((¬ (x70.i < v72.i)) →
(((x46.i + 1) ≤ 1000) ∧
(Px 632 [(xI x0), (xI x1), (xI x2), (xI x3), (xI x4), (xI x5), x31, (xI 1), (xI v26.i), (xI v27.i), (xI v28.i), (xI x40.i), (xI x41.i), (xI x42.i), (xI x45.i), (xI (x46.i + 1)), (xI x47.i)] ∧
(((Ff 655 [(xI x0), (xI x1), (xI x2), (xI x3), (xI x4), (xI x5), x31, (xI 1), (xI v26.i), (xI v27.i), (xI v28.i), (xI x40.i), (xI x41.i), (xI x42.i), (xI x45.i), (xI (x46.i + 1)), (xI x47.i)]).i < (Ff 655 [(xI x0), (xI x1), (xI x2), (xI x3), (xI x4), (xI x5), x31, (xI 1), (xI v26.i), (xI v27.i), (xI v28.i), (xI x40.i), (xI x41.i), (xI x42.i), x45, x46, x47]).i) ∧
(0 < (Ff 655 [(xI x0), (xI x1), (xI x2), (xI x3), (xI x4), (xI x5), x31, (xI 1), (xI v26.i), (xI v27.i), (xI v28.i), (xI x40.i), (xI x41.i), (xI x42.i), x45, x46, x47]).i)))))))))))))))))))) ∧
((¬ ((v57.i < 0) ∨ (¬ ((x31.r v57.i 0).b = true)))) →
(Px 634 [(xI x0), (xI x1), (xI x2), (xI x3), (xI x4), (xI x5), (xI x40.i), (xI v27.i), (xI v28.i), (xI (x40.i + 1)), (xI x41.i), (xI x42.i), x31, (xI (x70.i + 1))] ∧
(((Ff 657 [(xI x0), (xI x1), (xI x2), (xI x3), (xI x4), (xI x5), (xI x40.i), (xI v27.i), (xI v28.i), (xI (x40.i + 1)), (xI x41.i), (xI x42.i), x31, (xI (x70.i + 1))]).i < (Ff 657 [(xI x0), (xI x1), (xI x2), (xI x3), (xI x4), (xI x5), (xI x40.i), (xI v27.i), (xI v28.i), (xI (x40.i + 1)), (xI x41.i), (xI x42.i), x31, x70]).i) ∧
(0 < (Ff 657 [(xI x0), (xI x1), (xI x2), (xI x3), (xI x4), (xI x5), (xI x40.i), (xI v27.i), (xI v28.i), (xI (x40.i + 1)), (xI x41.i), (xI x42.i), x31, x70]).i))))))))) ∧
((¬ (x70.i < v51.i)) →
(((x40.i + 1) ≤ 1000) ∧
(Px 632 [(xI x0), (xI x1), (xI x2), (xI x3), (xI x4), (xI x5), x31, (xI 0), (xI v26.i), (xI v27.i), (xI v28.i), (xI (v26.i + 1)), (xI (v27.i + 1)), (xI (v28.i + 1)), (xI (x40.i + 1)), (xI x41.i), (xI x42.i)] ∧
(((Ff 655 [(xI x0), (xI x1), (xI x2), (xI x3), (xI x4), (xI x5), x31, (xI 0), (xI v26.i), (xI v27.i), (xI v28.i), (xI (v26.i + 1)), (xI (v27.i + 1)), (xI (v28.i + 1)), (xI (x40.i + 1)), (xI x41.i), (xI x42.i)]).i < (Ff 655 [(xI x0), (xI x1), (xI x2), (xI x3), (xI x4), (xI x5), x31, (xI 0), (xI v26.i), (xI v27.i), (xI v28.i), (xI (v26.i + 1)), (xI (v27.i + 1)), (xI (v28.i + 1)), x40, x41, x42]).i) ∧
(0 < (Ff 655 [(xI x0), (xI x1), (xI x2), (xI x3), (xI x4), (xI x5), x31, (xI 0), (xI v26.i), (xI v27.i), (xI v28.i), (xI (v26.i + 1)), (xI (v27.i + 1)), (xI (v28.i + 1)), x40, x41, x42]).i)))))))))))))))))))))))))))))))) ∧
((¬ (x30.i < x6.i)) →
(rowEq S6b (Ff 603 [xI x0, xI x1, xI x2, xI x3, xI x4, xI x5, x6, x7]) x32.r x32.i 600)))))))))))))))))))
theorem BoxesL (x0 : Int) (x1 : Int) (x2 : Int) (x3 : Int) (x4 : Int) (x5 : Int) (x6 : X) (x7 : X) : (ctrR (fun j => Ff j [xI x0, xI x1, xI x2, xI x3, xI x4, xI x5, x6, x7]) cBoxes.fs cBoxes.res { ρ0 with x := fun j => [xI x0, xI x1, xI x2, xI x3, xI x4, xI x5, x6, x7].getD j (xI 0) } (walkR Try.prog (cfG none [cVol, cAt, cIndex] [] lpBoxes sumL) Try.f20 600 shBx)) = BoxesP x0 x1 x2 x3 x4 x5 x6 x7 := by kernel_rfl
set_option maxHeartbeats 4000000 in
theorem BoxesO (x0 : Int) (x1 : Int) (x2 : Int) (x3 : Int) (x4 : Int) (x5 : Int) (x6 : X) (x7 : X) (g0 : -1000 ≤ x0 ∧ x0 ≤ 1000) (g1 : -1000 ≤ x1 ∧ x1 ≤ 1000) (g2 : -1000 ≤ x2 ∧ x2 ≤ 1000) (g3 : -1000 ≤ x3 ∧ x3 ≤ 1000) (g4 : -1000 ≤ x4 ∧ x4 ≤ 1000) (g5 : -1000 ≤ x5 ∧ x5 ≤ 1000) (g6 : 0 ≤ x6.i ∧ x6.i ≤ 600 ∧ RowOk [.int .i64 (-9223372036854775808) (9223372036854775807)] x6.r x6.i.toNat) (g7 : 0 ≤ x7.i ∧ x7.i ≤ 9223372036854775807 ∧ RowOk SMt x7.r x7.i.toNat) (gp : Px cBoxes.pre.get! [xI x0, xI x1, xI x2, xI x3, xI x4, xI x5, x6, x7]) : BoxesP x0 x1 x2 x3 x4 x5 x6 x7 := by
  unfold BoxesP
  obtain ⟨hn, hv, hl⟩ := few_iff.1 (show fewG (grX (xI x0) (xI x1) (xI x2) (xI x3) (xI x4) (xI x5) x6) = true from gp)
  have hV : (bxI x0 x1 x2 x3 x4 x5).vol = x6.i := by
    have h : ((lstX deI x6).length : Int) = x6.i := by rw [lstX_len]; omega
    exact hv.trans h
  clear hv hl hn gp g7
  refine andI ?_ fun o0 => ?_
  · exact q630_0 g6.1 -- #0
  intro x20
  intro x21
  intro h1
  intro r2
  intro p3
  have q3 : x21.i = x6.i := p3.2.2.1
  refine And.intro ?_ ?_
  · intro h5
    refine andI ?_ fun o6 => ?_
    · omega -- #1
    refine And.intro ?_ ?_
    · intro h8
      refine andI ?_ fun o9 => ?_
      · omega -- #2
      refine andI ?_ fun o10 => ?_
      · exact q630_s p3 h5 (sol_off h8).symm -- #3
      refine andI ?_ fun o11 => ?_
      · skip -- #4
        simp only [m653]
        try simp only [xI_i]
        omega
      skip -- #5
      simp only [m653]
      try simp only [xI_i]
      omega
    intro h12
    refine andI ?_ fun o13 => ?_
    · omega -- #6
    refine andI ?_ fun o14 => ?_
    · omega -- #7
    refine andI ?_ fun o15 => ?_
    · exact q630_s p3 h5 (sol_on h12).symm -- #8
    refine andI ?_ fun o16 => ?_
    · skip -- #9
      simp only [m653]
      try simp only [xI_i]
      omega
    skip -- #10
    simp only [m653]
    try simp only [xI_i]
    omega
  intro h17
  refine andI ?_ fun o18 => ?_
  · exact q631_0 p3 h17 -- #11
  intro x30
  intro x31
  intro x32
  intro h19
  intro r20
  intro r21
  intro p22
  have q22 := q631_len p22 g6.1 r20.1
  have w22 := q631_out p22 r21.1
  have hO : x31.i = (bxI x0 x1 x2 x3 x4 x5).vol := q22.trans hV.symm
  refine And.intro ?_ ?_
  · intro h24
    have k24 : x30.i < (bxI x0 x1 x2 x3 x4 x5).vol := by rw [hV]; exact h24
    refine andI ?_ fun o25 => ?_
    · omega -- #12
    intro v26
    intro v27
    intro v28
    intro v29
    have e29 : v29.i = x30.i := idx_at (b := bxI x0 x1 x2 x3 x4 x5) h19.1 k24
    have hc := has_def.1 (at_has (b := bxI x0 x1 x2 x3 x4 x5) h19.1 k24)
    have c1 : x0 ≤ v26.i ∧ v26.i < x3 := hc.1
    have c2 : x1 ≤ v27.i ∧ v27.i < x4 := hc.2.1
    have c3 : x2 ≤ v28.i ∧ v28.i < x5 := hc.2.2
    refine andI ?_ fun o30 => ?_
    · omega -- #13
    refine andI ?_ fun o31 => ?_
    · omega -- #14
    refine And.intro ?_ ?_
    · intro h33
      refine andI ?_ fun o34 => ?_
      · exact q631_skip p22 q22 h24 (e29 ▸ h33) -- #15
      refine andI ?_ fun o35 => ?_
      · skip -- #16
        simp only [m654]
        try simp only [xI_i]
        omega
      skip -- #17
      simp only [m654]
      try simp only [xI_i]
      omega
    intro h36
    refine andI ?_ fun o37 => ?_
    · omega -- #18
    refine andI ?_ fun o38 => ?_
    · omega -- #19
    refine andI ?_ fun o39 => ?_
    · omega -- #20
    refine andI ?_ fun o40 => ?_
    · omega -- #21
    refine andI ?_ fun o41 => ?_
    · omega -- #22
    refine andI ?_ fun o42 => ?_
    · omega -- #23
    refine andI ?_ fun o43 => ?_
    · exact ⟨rfl, by unfold insX bxX; simp only [xI_i]; omega⟩ -- #24
    intro x40
    intro x41
    intro x42
    intro h44
    intro h45
    intro h46
    intro p47
    have i47 : insX (bxI x0 x1 x2 x3 x4 x5) (bxX v26 v27 v28 x40 x41 x42) := p47.2
    have j47 := i47
    unfold insX bxI bxX at j47
    simp only [xI_i] at j47
    refine andI ?_ fun o48 => ?_
    · exact q634_0 -- #25
    intro x70
    intro h49
    intro p50
    intro v51
    have e51 : v51.i = (bxX (xI x40.i) (xI v27.i) (xI v28.i) (xI (x40.i + 1)) (xI x41.i) (xI x42.i)).vol := rfl
    refine And.intro ?_ ?_
    · intro h53
      intro v54
      intro v55
      intro v56
      intro v57
      refine And.intro ?_ ?_
      · intro h59
        omega -- #26
      refine And.intro ?_ ?_
      · intro h61
        exact idx_lt_x (g := bxI x0 x1 x2 x3 x4 x5) (p := (v54.i, v55.i, v56.i)) h61 hO -- #27
      refine And.intro ?_ ?_
      · intro h63
        have n63 := q634_n p50 h53 hO h63
        have f63 := q632_e (g := bxI x0 x1 x2 x3 x4 x5) (k := 0) p47 n63
        refine andI ?_ fun o64 => ?_
        · exact ⟨rfl, i47⟩ -- #28
        intro x45
        intro x46
        intro x47
        intro h65
        intro h66
        intro h67
        intro p68
        have i68 : insX (bxI x0 x1 x2 x3 x4 x5) (bxX v26 v27 v28 x45 x46 x47) := p68.2
        have j68 := i68
        unfold insX bxI bxX at j68
        simp only [xI_i] at j68
        refine andI ?_ fun o69 => ?_
        · exact q634_0 -- #29
        intro x70
        intro h70
        intro p71
        intro v72
        have e72 : v72.i = (bxX (xI v26.i) (xI x46.i) (xI v28.i) (xI x45.i) (xI (x46.i + 1)) (xI x47.i)).vol := rfl
        refine And.intro ?_ ?_
        · intro h74
          intro v75
          intro v76
          intro v77
          intro v78
          refine And.intro ?_ ?_
          · intro h80
            omega -- #30
          refine And.intro ?_ ?_
          · intro h82
            exact idx_lt_x (g := bxI x0 x1 x2 x3 x4 x5) (p := (v75.i, v76.i, v77.i)) h82 hO -- #31
          refine And.intro ?_ ?_
          · intro h84
            have n84 := q634_n p71 h74 hO h84
            have f84 := q632_e (g := bxI x0 x1 x2 x3 x4 x5) (k := 1) p68 n84
            refine andI ?_ fun o85 => ?_
            · exact ⟨rfl, i68⟩ -- #32
            intro x50
            intro x51
            intro x52
            intro h86
            intro h87
            intro h88
            intro p89
            have i89 : insX (bxI x0 x1 x2 x3 x4 x5) (bxX v26 v27 v28 x50 x51 x52) := p89.2
            have j89 := i89
            unfold insX bxI bxX at j89
            simp only [xI_i] at j89
            refine andI ?_ fun o90 => ?_
            · exact q634_0 -- #33
            intro x70
            intro h91
            intro p92
            intro v93
            have e93 : v93.i = (bxX (xI v26.i) (xI v27.i) (xI x52.i) (xI x50.i) (xI x51.i) (xI (x52.i + 1))).vol := rfl
            refine And.intro ?_ ?_
            · intro h95
              intro v96
              intro v97
              intro v98
              intro v99
              refine And.intro ?_ ?_
              · intro h101
                omega -- #34
              refine And.intro ?_ ?_
              · intro h103
                exact idx_lt_x (g := bxI x0 x1 x2 x3 x4 x5) (p := (v96.i, v97.i, v98.i)) h103 hO -- #35
              refine And.intro ?_ ?_
              · intro h105
                have n105 := q634_n p92 h95 hO h105
                have f105 := q632_e (g := bxI x0 x1 x2 x3 x4 x5) (k := 2) p89 n105
                refine andI ?_ fun o106 => ?_
                · exact q633_0 -- #36
                intro x60
                intro x61
                intro h107
                intro r108
                intro p109
                intro v110
                have e110 : v110.i = (bxX (xI v26.i) (xI v27.i) (xI v28.i) (xI x50.i) (xI x51.i) (xI x52.i)).vol := rfl
                refine And.intro ?_ ?_
                · intro h112
                  have k112 := q633_at p109 h112 i89
                  have s112 := q633_s p109 h112 i89
                  intro v113
                  intro v114
                  intro v115
                  intro v116
                  refine andI ?_ fun o117 => ?_
                  · exact k112.1 -- #37
                  refine andI ?_ fun o118 => ?_
                  · skip -- #38
                    rw [p109.2.2.1, hO]
                    exact k112.2
                  refine andI ?_ fun o119 => ?_
                  · exact s112 -- #39
                  refine andI ?_ fun o120 => ?_
                  · skip -- #40
                    simp only [m656]
                    try simp only [xI_i]
                    omega
                  skip -- #41
                  simp only [m656]
                  try simp only [xI_i]
                  omega
                intro h121
                refine andI ?_ fun o122 => ?_
                · omega -- #42
                refine andI ?_ fun o123 => ?_
                · exact q631_take p22 q22 h24 r21.1 (e29 ▸ h36) (f105.trans (congrArg (growU _ _ 2) (f84.trans (congrArg (growU _ _ 1) f63)))) (q633_e p109 h121) -- #43
                refine andI ?_ fun o124 => ?_
                · skip -- #44
                  simp only [m654]
                  try simp only [xI_i]
                  omega
                skip -- #45
                simp only [m654]
                try simp only [xI_i]
                omega
              intro h125
              refine andI ?_ fun o126 => ?_
              · exact q634_s p92 h95 hO h125 -- #46
              refine andI ?_ fun o127 => ?_
              · skip -- #47
                simp only [m657]
                try simp only [xI_i]
                omega
              skip -- #48
              simp only [m657]
              try simp only [xI_i]
              omega
            intro h128
            have a128 := q634_e p92 h128
            have i128 := lay_ins (k := 2) i89 a128
            unfold insX at i128
            simp only [Bx.inc, bxX, xI_i] at i128
            refine andI ?_ fun o129 => ?_
            · omega -- #49
            refine andI ?_ fun o130 => ?_
            · exact q632_s (g := bxI x0 x1 x2 x3 x4 x5) (k := 2) p89 a128 -- #50
            refine andI ?_ fun o131 => ?_
            · skip -- #51
              simp only [m655]
              try simp only [xI_i]
              omega
            skip -- #52
            simp only [m655]
            try simp only [xI_i]
            omega
          intro h132
          refine andI ?_ fun o133 => ?_
          · exact q634_s p71 h74 hO h132 -- #53
          refine andI ?_ fun o134 => ?_
          · skip -- #54
            simp only [m657]
            try simp only [xI_i]
            omega
          skip -- #55
          simp only [m657]
          try simp only [xI_i]
          omega
        intro h135
        have a135 := q634_e p71 h135
        have i135 := lay_ins (k := 1) i68 a135
        unfold insX at i135
        simp only [Bx.inc, bxX, xI_i] at i135
        refine andI ?_ fun o136 => ?_
        · omega -- #56
        refine andI ?_ fun o137 => ?_
        · exact q632_s (g := bxI x0 x1 x2 x3 x4 x5) (k := 1) p68 a135 -- #57
        refine andI ?_ fun o138 => ?_
        · skip -- #58
          simp only [m655]
          try simp only [xI_i]
          omega
        skip -- #59
        simp only [m655]
        try simp only [xI_i]
        omega
      intro h139
      refine andI ?_ fun o140 => ?_
      · exact q634_s p50 h53 hO h139 -- #60
      refine andI ?_ fun o141 => ?_
      · skip -- #61
        simp only [m657]
        try simp only [xI_i]
        omega
      skip -- #62
      simp only [m657]
      try simp only [xI_i]
      omega
    intro h142
    have a142 := q634_e p50 h142
    have i142 := lay_ins (k := 0) i47 a142
    unfold insX at i142
    simp only [Bx.inc, bxX, xI_i] at i142
    refine andI ?_ fun o143 => ?_
    · omega -- #63
    refine andI ?_ fun o144 => ?_
    · exact q632_s (g := bxI x0 x1 x2 x3 x4 x5) (k := 0) p47 a142 -- #64
    refine andI ?_ fun o145 => ?_
    · skip -- #65
      simp only [m655]
      try simp only [xI_i]
      omega
    skip -- #66
    simp only [m655]
    try simp only [xI_i]
    omega
  intro h146
  exact q603 p22 h146 r21.1 r21.2.1 -- #67
theorem kBoxes : RCtrOk Try.prog ρ0 cBoxes := by
  refine rctr_ofN (cf := cfG none [cVol, cAt, cIndex] [] lpBoxes sumL) (cfG_ok (((keep0.cons kIndex nIndex).cons kAt nAt).cons kVol nVol) keepR0 noF) Try.func20 rfl 600 rfl (sh := shBx) (by kernel_rfl) few_rsh fun ds hr hp => ?_
  have hr := rshX_flat hr
  match ds, hr, hp with
  | [d0, d1, d2, d3, d4, d5, d6, d7], hr, hp =>
    obtain ⟨⟨e0, l0, u0⟩, ⟨e1, l1, u1⟩, ⟨e2, l2, u2⟩, ⟨e3, l3, u3⟩, ⟨e4, l4, u4⟩, ⟨e5, l5, u5⟩, l6, l7, _⟩ := hr
    generalize d0.i = x0 at *
    generalize d1.i = x1 at *
    generalize d2.i = x2 at *
    generalize d3.i = x3 at *
    generalize d4.i = x4 at *
    generalize d5.i = x5 at *
    generalize d6 = x6 at *
    generalize d7 = x7 at *
    subst e0 e1 e2 e3 e4 e5
    exact Eq.mpr (BoxesL x0 x1 x2 x3 x4 x5 x6 x7) (BoxesO x0 x1 x2 x3 x4 x5 x6 x7 ⟨l0, u0⟩ ⟨l1, u1⟩ ⟨l2, u2⟩ ⟨l3, u3⟩ ⟨l4, u4⟩ ⟨l5, u5⟩ l6 l7 hp)
theorem nBoxes : ∃ fn, Try.prog.funcs[cBoxes.f]? = some fn ∧ fn.body.isSome = true ∧ (fn.name == "runtime.NumGoroutine") = false := ⟨_, Try.func20, by kernel_rfl, by kernel_rfl⟩
end Vc
end Go.Proofs.Ytokicaoapclicaa
