/- Proved: CollideBoxesTile: the statement 'CollideBoxesTileSaid' of this seat, for every input that it names; no condition besides. -/
import Derived.Test.YtokicaoapclicaaC41T
import Derived.Test.YtokicaoapclicaaRows
import Derived.ProofKit
import Derived.LaidMore
import Derived.Stop.Joined
namespace Go.Proofs.Ytokicaoapclicaa.collideBoxesTile
open Go Go.ChangeShapes Go.WideShapes Go.ChangeAt Go.RowKit Vc
set_option linter.unusedVariables false


/-- The law's walk, as the machine leaves it. -/
def lawP (x0 : Int) (x1 : Int) (x2 : Int) (x3 : Int) (x4 : Int) (x5 : Int) (x6 : X) (x7 : X) (x8 : Int) (x9 : Int) (x10 : Int) (x11 : Int) (x12 : Int) (x13 : Int) : Prop :=
(let v0 : X := Ff 700 [(xI x0), (xI x1), (xI x2), (xI x3), (xI x4), (xI x5), x6]; (((((v0.b = true) ∧ (x6.i ≤ 600)) ∧ (x7.i ≤ 20)) →
((((¬ (((((((-1000) ≤ x0) ∧ ((-1000) ≤ x1)) ∧ ((-1000) ≤ x2)) ∧ (x0 ≤ 1000)) ∧ (x1 ≤ 1000)) ∧ (x2 ≤ 1000))) ∨ (¬ (((((((-1000) ≤ x3) ∧ ((-1000) ≤ x4)) ∧ ((-1000) ≤ x5)) ∧ (x3 ≤ 1000)) ∧ (x4 ≤ 1000)) ∧ (x5 ≤ 1000)))) →
((((¬ (((((((-1000) ≤ x8) ∧ ((-1000) ≤ x9)) ∧ ((-1000) ≤ x10)) ∧ (x8 ≤ 1000)) ∧ (x9 ≤ 1000)) ∧ (x10 ≤ 1000))) ∨ (¬ (((((((-1000) ≤ x11) ∧ ((-1000) ≤ x12)) ∧ ((-1000) ≤ x13)) ∧ (x11 ≤ 1000)) ∧ (x12 ≤ 1000)) ∧ (x13 ≤ 1000)))) →
(true = true)) ∧
((¬ ((¬ (((((((-1000) ≤ x8) ∧ ((-1000) ≤ x9)) ∧ ((-1000) ≤ x10)) ∧ (x8 ≤ 1000)) ∧ (x9 ≤ 1000)) ∧ (x10 ≤ 1000))) ∨ (¬ (((((((-1000) ≤ x11) ∧ ((-1000) ≤ x12)) ∧ ((-1000) ≤ x13)) ∧ (x11 ≤ 1000)) ∧ (x12 ≤ 1000)) ∧ (x13 ≤ 1000))))) →
(true = true)))) ∧
((¬ ((¬ (((((((-1000) ≤ x0) ∧ ((-1000) ≤ x1)) ∧ ((-1000) ≤ x2)) ∧ (x0 ≤ 1000)) ∧ (x1 ≤ 1000)) ∧ (x2 ≤ 1000))) ∨ (¬ (((((((-1000) ≤ x3) ∧ ((-1000) ≤ x4)) ∧ ((-1000) ≤ x5)) ∧ (x3 ≤ 1000)) ∧ (x4 ≤ 1000)) ∧ (x5 ≤ 1000))))) →
((((¬ (((((((-1000) ≤ x8) ∧ ((-1000) ≤ x9)) ∧ ((-1000) ≤ x10)) ∧ (x8 ≤ 1000)) ∧ (x9 ≤ 1000)) ∧ (x10 ≤ 1000))) ∨ (¬ (((((((-1000) ≤ x11) ∧ ((-1000) ≤ x12)) ∧ ((-1000) ≤ x13)) ∧ (x11 ≤ 1000)) ∧ (x12 ≤ 1000)) ∧ (x13 ≤ 1000)))) →
(true = true)) ∧
((¬ ((¬ (((((((-1000) ≤ x8) ∧ ((-1000) ≤ x9)) ∧ ((-1000) ≤ x10)) ∧ (x8 ≤ 1000)) ∧ (x9 ≤ 1000)) ∧ (x10 ≤ 1000))) ∨ (¬ (((((((-1000) ≤ x11) ∧ ((-1000) ≤ x12)) ∧ ((-1000) ≤ x13)) ∧ (x11 ≤ 1000)) ∧ (x12 ≤ 1000)) ∧ (x13 ≤ 1000))))) →
(Px 611 [(xI x0), (xI x1), (xI x2), (xI x3), (xI x4), (xI x5), x6, x7] ∧
(Px 641 [(xI x0), (xI x1), (xI x2), (xI x3), (xI x4), (xI x5), x6, x7, (xI x8), (xI x9), (xI x10), (xI x11), (xI x12), (xI x13), (xI 0), (xI 0)] ∧
(∀ x20 : X, (∀ x21 : X, (((0 ≤ x20.i) ∧ (x20.i ≤ 600)) →
(((0 ≤ x21.i) ∧ (x21.i ≤ 600)) →
(Px 641 [(xI x0), (xI x1), (xI x2), (xI x3), (xI x4), (xI x5), x6, x7, (xI x8), (xI x9), (xI x10), (xI x11), (xI x12), (xI x13), x20, x21] →
(let v17 : X := Ff 603 [(xI x0), (xI x1), (xI x2), (xI x3), (xI x4), (xI x5), x6, x7]; (((x20.i < v17.i) →
((x20.i < v17.i) ∧
(let v21 : X := Ff 210 [(xI (v17.r x20.i 0).i), (xI (v17.r x20.i 1).i), (xI (v17.r x20.i 2).i), (xI (v17.r x20.i 3).i), (xI (v17.r x20.i 4).i), (xI (v17.r x20.i 5).i)]; (((¬ (v21.i < 1)) →
(x20.i < v17.i)) ∧
(((¬ (v21.i < 1)) →
(x20.i ≤ v17.i)) ∧
(let v26 : X := Ff 601 [(mkX (rwSh v17.r 0) x20.i), (xI (v17.r x20.i 0).i), (xI (v17.r x20.i 1).i), (xI (v17.r x20.i 2).i), (xI (v17.r x20.i 3).i), (xI (v17.r x20.i 4).i), (xI (v17.r x20.i 5).i)]; ((((v21.i < 1) ∨ (v26.b = true)) →
(false = true)) ∧
((¬ ((v21.i < 1) ∨ (v26.b = true))) →
(Px 642 [(xI x0), (xI x1), (xI x2), (xI x3), (xI x4), (xI x5), x6, x7, (xI x8), (xI x9), (xI x10), (xI x11), (xI x12), (xI x13), (xI 0)] ∧
(∀ x30 : X, (((0 ≤ x30.i) ∧ (x30.i ≤ 1000)) →
(Px 642 [(xI x0), (xI x1), (xI x2), (xI x3), (xI x4), (xI x5), x6, x7, (xI x8), (xI x9), (xI x10), (xI x11), (xI x12), (xI x13), x30] →
((((x30.i < v21.i) ∧ (x30.i < 1000)) →
((x20.i < v17.i) ∧
(let v36 : X := Ff 270 [(xI (v17.r x20.i 0).i), (xI (v17.r x20.i 1).i), (xI (v17.r x20.i 2).i), (xI (v17.r x20.i 3).i), (xI (v17.r x20.i 4).i), (xI (v17.r x20.i 5).i), (xI x30.i)]; let v37 : X := Ff 271 [(xI (v17.r x20.i 0).i), (xI (v17.r x20.i 1).i), (xI (v17.r x20.i 2).i), (xI (v17.r x20.i 3).i), (xI (v17.r x20.i 4).i), (xI (v17.r x20.i 5).i), (xI x30.i)]; let v38 : X := Ff 272 [(xI (v17.r x20.i 0).i), (xI (v17.r x20.i 1).i), (xI (v17.r x20.i 2).i), (xI (v17.r x20.i 3).i), (xI (v17.r x20.i 4).i), (xI (v17.r x20.i 5).i), (xI x30.i)]; let v39 : X := Ff 201 [(xI v36.i), (xI v37.i), (xI v38.i), (xI x0), (xI x1), (xI x2), (xI x3), (xI x4), (xI x5)]; (((v39.b = true) →
(let v42 : X := Ff 260 [(xI x0), (xI x1), (xI x2), (xI x3), (xI x4), (xI x5), (xI v36.i), (xI v37.i), (xI v38.i)]; (((v42.i < 0) →
(let v45 : X := Ff 670 [x7, (xI 0)]; (((¬ (v45.b = true)) →
(false = true)) ∧
((v45.b = true) →
(Px 642 [(xI x0), (xI x1), (xI x2), (xI x3), (xI x4), (xI x5), x6, x7, (xI x8), (xI x9), (xI x10), (xI x11), (xI x12), (xI x13), (xI (x30.i + 1))] ∧
(let v50 : X := Ff 672 [(xI x0), (xI x1), (xI x2), (xI x3), (xI x4), (xI x5), x6, x7, (xI x8), (xI x9), (xI x10), (xI x11), (xI x12), (xI x13), (xI (x30.i + 1))]; let v51 : X := Ff 672 [(xI x0), (xI x1), (xI x2), (xI x3), (xI x4), (xI x5), x6, x7, (xI x8), (xI x9), (xI x10), (xI x11), (xI x12), (xI x13), x30]; ((v50.i < v51.i) ∧
(0 < v51.i)))))))) ∧
((¬ (v42.i < 0)) →
((v42.i < x6.i) ∧
(let v55 : X := Ff 670 [x7, (xI (x6.r v42.i 0).i)]; (((¬ (v55.b = true)) →
(false = true)) ∧
((v55.b = true) →
(Px 642 [(xI x0), (xI x1), (xI x2), (xI x3), (xI x4), (xI x5), x6, x7, (xI x8), (xI x9), (xI x10), (xI x11), (xI x12), (xI x13), (xI (x30.i + 1))] ∧
(let v60 : X := Ff 672 [(xI x0), (xI x1), (xI x2), (xI x3), (xI x4), (xI x5), x6, x7, (xI x8), (xI x9), (xI x10), (xI x11), (xI x12), (xI x13), (xI (x30.i + 1))]; let v61 : X := Ff 672 [(xI x0), (xI x1), (xI x2), (xI x3), (xI x4), (xI x5), x6, x7, (xI x8), (xI x9), (xI x10), (xI x11), (xI x12), (xI x13), x30]; ((v60.i < v61.i) ∧
(0 < v61.i)))))))))))) ∧
((¬ (v39.b = true)) →
(false = true)))))) ∧
((¬ ((x30.i < v21.i) ∧ (x30.i < 1000))) →
(((x21.i + v21.i) ≤ 600) ∧
(Px 641 [(xI x0), (xI x1), (xI x2), (xI x3), (xI x4), (xI x5), x6, x7, (xI x8), (xI x9), (xI x10), (xI x11), (xI x12), (xI x13), (xI (x20.i + 1)), (xI (x21.i + v21.i))] ∧
(let v67 : X := Ff 673 [(xI x0), (xI x1), (xI x2), (xI x3), (xI x4), (xI x5), x6, x7, (xI x8), (xI x9), (xI x10), (xI x11), (xI x12), (xI x13), (xI (x20.i + 1)), (xI (x21.i + v21.i))]; let v68 : X := Ff 673 [(xI x0), (xI x1), (xI x2), (xI x3), (xI x4), (xI x5), x6, x7, (xI x8), (xI x9), (xI x10), (xI x11), (xI x12), (xI x13), x20, x21]; ((v67.i < v68.i) ∧
(0 < v68.i))))))))))))))))))) ∧
((¬ (x20.i < v17.i)) →
(Px 643 [(xI x0), (xI x1), (xI x2), (xI x3), (xI x4), (xI x5), x6, x7, (xI x8), (xI x9), (xI x10), (xI x11), (xI x12), (xI x13), (xI 0), (xI 0), (xB false)] ∧
(∀ x40 : X, (∀ x41 : X, (∀ x42 : X, (((0 ≤ x40.i) ∧ (x40.i ≤ 600)) →
(((0 ≤ x41.i) ∧ (x41.i ≤ 600)) →
(Px 643 [(xI x0), (xI x1), (xI x2), (xI x3), (xI x4), (xI x5), x6, x7, (xI x8), (xI x9), (xI x10), (xI x11), (xI x12), (xI x13), x40, x41, x42] →
(((x40.i < x6.i) →
((x40.i < x6.i) ∧
(let v78 : X := Ff 670 [x7, (xI (x6.r x40.i 0).i)]; (((v78.b = true) →
(((x41.i + 1) ≤ 600) ∧
(let v82 : X := Ff 270 [(xI x0), (xI x1), (xI x2), (xI x3), (xI x4), (xI x5), (xI x40.i)]; let v83 : X := Ff 271 [(xI x0), (xI x1), (xI x2), (xI x3), (xI x4), (xI x5), (xI x40.i)]; let v84 : X := Ff 272 [(xI x0), (xI x1), (xI x2), (xI x3), (xI x4), (xI x5), (xI x40.i)]; let v85 : X := Ff 201 [(xI v82.i), (xI v83.i), (xI v84.i), (xI x8), (xI x9), (xI x10), (xI x11), (xI x12), (xI x13)]; (Px 643 [(xI x0), (xI x1), (xI x2), (xI x3), (xI x4), (xI x5), x6, x7, (xI x8), (xI x9), (xI x10), (xI x11), (xI x12), (xI x13), (xI (x40.i + 1)), (xI (x41.i + 1)), (xB (x42.b || v85.b))] ∧
(let v87 : X := Ff 674 [(xI x0), (xI x1), (xI x2), (xI x3), (xI x4), (xI x5), x6, x7, (xI x8), (xI x9), (xI x10), (xI x11), (xI x12), (xI x13), (xI (x40.i + 1)), (xI (x41.i + 1)), (xB (x42.b || v85.b))]; let v88 : X := Ff 674 [(xI x0), (xI x1), (xI x2), (xI x3), (xI x4), (xI x5), x6, x7, (xI x8), (xI x9), (xI x10), (xI x11), (xI x12), (xI x13), x40, x41, x42]; ((v87.i < v88.i) ∧
(0 < v88.i))))))) ∧
((¬ (v78.b = true)) →
(Px 643 [(xI x0), (xI x1), (xI x2), (xI x3), (xI x4), (xI x5), x6, x7, (xI x8), (xI x9), (xI x10), (xI x11), (xI x12), (xI x13), (xI (x40.i + 1)), (xI x41.i), (xB x42.b)] ∧
(let v92 : X := Ff 674 [(xI x0), (xI x1), (xI x2), (xI x3), (xI x4), (xI x5), x6, x7, (xI x8), (xI x9), (xI x10), (xI x11), (xI x12), (xI x13), (xI (x40.i + 1)), (xI x41.i), (xB x42.b)]; let v93 : X := Ff 674 [(xI x0), (xI x1), (xI x2), (xI x3), (xI x4), (xI x5), x6, x7, (xI x8), (xI x9), (xI x10), (xI x11), (xI x12), (xI x13), x40, x41, x42]; ((v92.i < v93.i) ∧
(0 < v93.i))))))))) ∧
((¬ (x40.i < x6.i)) →
(let v96 : X := Ff 601 [v17, (xI x8), (xI x9), (xI x10), (xI x11), (xI x12), (xI x13)]; ((x21.i = x41.i) ∧ ((v96.b == x42.b) = true))))))))))))))))))))))))))) ∧
((¬ (((v0.b = true) ∧ (x6.i ≤ 600)) ∧ (x7.i ≤ 20))) →
((((¬ (((((((-1000) ≤ x8) ∧ ((-1000) ≤ x9)) ∧ ((-1000) ≤ x10)) ∧ (x8 ≤ 1000)) ∧ (x9 ≤ 1000)) ∧ (x10 ≤ 1000))) ∨ (¬ (((((((-1000) ≤ x11) ∧ ((-1000) ≤ x12)) ∧ ((-1000) ≤ x13)) ∧ (x11 ≤ 1000)) ∧ (x12 ≤ 1000)) ∧ (x13 ≤ 1000)))) →
(true = true)) ∧
((¬ ((¬ (((((((-1000) ≤ x8) ∧ ((-1000) ≤ x9)) ∧ ((-1000) ≤ x10)) ∧ (x8 ≤ 1000)) ∧ (x9 ≤ 1000)) ∧ (x10 ≤ 1000))) ∨ (¬ (((((((-1000) ≤ x11) ∧ ((-1000) ≤ x12)) ∧ ((-1000) ≤ x13)) ∧ (x11 ≤ 1000)) ∧ (x12 ≤ 1000)) ∧ (x13 ≤ 1000))))) →
(true = true))))))
noncomputable def sh : List RSh := (shTs Try.prog [37, 38, 26]).getD []
attribute [irreducible] sh
theorem link (x0 : Int) (x1 : Int) (x2 : Int) (x3 : Int) (x4 : Int) (x5 : Int) (x6 : X) (x7 : X) (x8 : Int) (x9 : Int) (x10 : Int) (x11 : Int) (x12 : Int) (x13 : Int) : (walkR Try.prog (cfN N41 none L41 R41b lpTile sumL) Try.f4 400 sh).law { ρ0 with x := fun j => [xI x0, xI x1, xI x2, xI x3, xI x4, xI x5, x6, x7, xI x8, xI x9, xI x10, xI x11, xI x12, xI x13].getD j (xI 0) } = lawP x0 x1 x2 x3 x4 x5 x6 x7 x8 x9 x10 x11 x12 x13 := by kernel_rfl
set_option maxHeartbeats 4000000 in
theorem lawP_ok (x0 : Int) (x1 : Int) (x2 : Int) (x3 : Int) (x4 : Int) (x5 : Int) (x6 : X) (x7 : X) (x8 : Int) (x9 : Int) (x10 : Int) (x11 : Int) (x12 : Int) (x13 : Int) (g0 : -9223372036854775808 ≤ x0 ∧ x0 ≤ 9223372036854775807) (g1 : -9223372036854775808 ≤ x1 ∧ x1 ≤ 9223372036854775807) (g2 : -9223372036854775808 ≤ x2 ∧ x2 ≤ 9223372036854775807) (g3 : -9223372036854775808 ≤ x3 ∧ x3 ≤ 9223372036854775807) (g4 : -9223372036854775808 ≤ x4 ∧ x4 ≤ 9223372036854775807) (g5 : -9223372036854775808 ≤ x5 ∧ x5 ≤ 9223372036854775807) (g6 : 0 ≤ x6.i ∧ x6.i ≤ 9223372036854775807 ∧ RowOk [.int .i64 (-9223372036854775808) (9223372036854775807)] x6.r x6.i.toNat) (g7 : 0 ≤ x7.i ∧ x7.i ≤ 9223372036854775807 ∧ RowOk [.str (9223372036854775807), .bool, .bool, .bool, .int .i64 (-9223372036854775808) (9223372036854775807), .int .i64 (-9223372036854775808) (9223372036854775807), .int .i64 (-9223372036854775808) (9223372036854775807), .int .i64 (-9223372036854775808) (9223372036854775807)] x7.r x7.i.toNat) (g8 : -9223372036854775808 ≤ x8 ∧ x8 ≤ 9223372036854775807) (g9 : -9223372036854775808 ≤ x9 ∧ x9 ≤ 9223372036854775807) (g10 : -9223372036854775808 ≤ x10 ∧ x10 ≤ 9223372036854775807) (g11 : -9223372036854775808 ≤ x11 ∧ x11 ≤ 9223372036854775807) (g12 : -9223372036854775808 ≤ x12 ∧ x12 ≤ 9223372036854775807) (g13 : -9223372036854775808 ≤ x13 ∧ x13 ≤ 9223372036854775807) : lawP x0 x1 x2 x3 x4 x5 x6 x7 x8 x9 x10 x11 x12 x13 := by
  unfold lawP
  intro v0
  have v7 := v700 (a := x0) (b := x1) (c := x2) (d := x3) (e := x4) (f := x5) (l := x6) g6.1
  refine And.intro ?_ ?_
  · intro h2
    obtain ⟨k0, k1, k2, k3, k4⟩ := v7.1 h2.1.1
    refine And.intro ?_ ?_
    · intro h4
      refine And.intro ?_ ?_
      · intro h6
        rfl -- #0
      intro h7
      rfl -- #1
    intro h8
    refine And.intro ?_ ?_
    · intro h10
      rfl -- #2
    intro h11
    have hV : (bxI x0 x1 x2 x3 x4 x5).vol = x6.i := k3
    have hf : fewG (grX (xI x0) (xI x1) (xI x2) (xI x3) (xI x4) (xI x5) x6) = true := by
      refine few_iff.2 ⟨nearX_iff.2 ?_, ?_, ?_⟩
      · show (-1000 ≤ x0 ∧ x0 ≤ 1000) ∧ (-1000 ≤ x1 ∧ x1 ≤ 1000) ∧ (-1000 ≤ x2 ∧ x2 ≤ 1000) ∧ (-1000 ≤ x3 ∧ x3 ≤ 1000) ∧ (-1000 ≤ x4 ∧ x4 ≤ 1000) ∧ (-1000 ≤ x5 ∧ x5 ≤ 1000)
        omega
      · show volB x0 x1 x2 x3 x4 x5 = ((lstX deI x6).length : Int)
        rw [lstX_len]
        omega
      · show (lstX deI x6).length ≤ 600
        rw [lstX_len]
        omega
    have ho : ((solL (lstX deI x6) x7).length : Int) = (bxI x0 x1 x2 x3 x4 x5).vol := by rw [sol_len, hV]; omega
    have hcn := sol_cnt (l := x6) (t := x7) g6.1
    have hsum := box_sum ho
    refine andI ?_ fun o12 => ?_
    · exact hf -- #3
    refine andI ?_ fun o13 => ?_
    · exact ⟨Int.le_refl _, Int.natCast_nonneg _, rfl⟩ -- #4
    intro x20
    intro x21
    intro h14
    intro h15
    intro p16
    intro v17
    have e17 : v17.i = (boxesB (bxI x0 x1 x2 x3 x4 x5) (solL (lstX deI x6) x7)).length := rfl
    refine And.intro ?_ ?_
    · intro h19
      obtain ⟨x, hx⟩ : ∃ x, (boxesB (bxI x0 x1 x2 x3 x4 x5) (solL (lstX deI x6) x7))[x20.i.toNat]? = some x := ⟨_, List.getElem?_eq_getElem (by omega)⟩
      have hrow : v17.r x20.i = enX x := rowG_at hx
      have hxm := List.mem_of_getElem? hx
      have hxi := (box_tiles ho).ins x hxm
      have hxv := vol_pos' (ins_ne hxi)
      refine andI ?_ fun o20 => ?_
      · omega -- #5
      intro v21
      have e21 : v21.i = x.vol := by
        show volB (v17.r x20.i 0).i (v17.r x20.i 1).i (v17.r x20.i 2).i (v17.r x20.i 3).i (v17.r x20.i 4).i (v17.r x20.i 5).i = _
        rw [hrow]
        rfl
      refine And.intro ?_ ?_
      · intro h23
        omega -- #6
      refine And.intro ?_ ?_
      · intro h25
        omega -- #7
      intro v26
      have e26 : ¬ v26.b = true := by
        show ¬ ovB (lstX deX (mkX (rwSh v17.r 0) x20.i)) ⟨(v17.r x20.i 0).i, (v17.r x20.i 1).i, (v17.r x20.i 2).i, (v17.r x20.i 3).i, (v17.r x20.i 4).i, (v17.r x20.i 5).i⟩ = true
        rw [hrow, ov_take (x := v17) (L := boxesB (bxI x0 x1 x2 x3 x4 x5) (solL (lstX deI x6) x7)) (lstX_rowG deX_enX _) p16.1 (by omega)]
        exact box_dis ho hx
      refine And.intro ?_ ?_
      · intro h28
        exact (h28.elim (fun h => by omega) e26).elim -- #8
      intro h29
      refine andI ?_ fun o30 => ?_
      · exact trivial -- #9
      intro x30
      intro h31
      intro p32
      refine And.intro ?_ ?_
      · intro h34
        have hp : x.has (x.at x30.i) = true := at_has h31.1 (by omega)
        obtain ⟨hg, hb⟩ := (box_has ho).1 ⟨x, hxm, hp⟩
        have hk := idx_ok hg
        refine andI ?_ fun o35 => ?_
        · omega -- #10
        intro v36
        intro v37
        intro v38
        have e36 : (v36.i, v37.i, v38.i) = x.at x30.i := by
          show (atX (v17.r x20.i 0).i (v17.r x20.i 1).i (v17.r x20.i 2).i (v17.r x20.i 3).i (v17.r x20.i 4).i (v17.r x20.i 5).i x30.i, atY (v17.r x20.i 0).i (v17.r x20.i 1).i (v17.r x20.i 2).i (v17.r x20.i 3).i (v17.r x20.i 4).i (v17.r x20.i 5).i x30.i, atZ (v17.r x20.i 0).i (v17.r x20.i 1).i (v17.r x20.i 2).i (v17.r x20.i 3).i (v17.r x20.i 4).i (v17.r x20.i 5).i x30.i) = _
          rw [hrow]
          rfl
        intro v39
        have e39 : v39.b = (bxI x0 x1 x2 x3 x4 x5).has (x.at x30.i) := by
          rw [← e36]
          rfl
        refine And.intro ?_ ?_
        · intro h41
          intro v42
          have e42 : v42.i = (bxI x0 x1 x2 x3 x4 x5).idx (x.at x30.i) := by
            rw [← e36]
            rfl
          refine And.intro ?_ ?_
          · intro h44
            intro v45
            refine And.intro ?_ ?_
            · intro h47
              omega -- #11
            intro h48
            refine andI ?_ fun o49 => ?_
            · exact trivial -- #12
            intro v50
            intro v51
            refine andI ?_ fun o52 => ?_
            · skip -- #13
              show 1001 - (x30.i + 1) < 1001 - x30.i
              omega
            skip -- #14
            show 0 < 1001 - x30.i
            omega
          intro h53
          refine andI ?_ fun o54 => ?_
          · omega -- #15
          intro v55
          refine And.intro ?_ ?_
          · intro h57
            skip -- #16
            rw [sol_getD hk.1 (by omega), ← e42] at hb
            exact absurd hb h57
          intro h58
          refine andI ?_ fun o59 => ?_
          · exact trivial -- #17
          intro v60
          intro v61
          refine andI ?_ fun o62 => ?_
          · skip -- #18
            show 1001 - (x30.i + 1) < 1001 - x30.i
            omega
          skip -- #19
          show 0 < 1001 - x30.i
          omega
        intro h63
        exact absurd hg (by rw [← e39]; exact h63) -- #20
      intro h64
      have hst := sumV_step hx
      have hle := sumV_le (L := boxesB (bxI x0 x1 x2 x3 x4 x5) (solL (lstX deI x6) x7)) (x20.i.toNat + 1)
      have p3 : x21.i = (((boxesB (bxI x0 x1 x2 x3 x4 x5) (solL (lstX deI x6) x7)).take x20.i.toNat).map Bx.vol).sum := p16.2.2
      have p0 := p16.1
      refine andI ?_ fun o65 => ?_
      · omega -- #21
      refine andI ?_ fun o66 => ?_
      · skip -- #22
        refine ⟨show 0 ≤ x20.i + 1 by omega, show x20.i + 1 ≤ v17.i by omega, ?_⟩
        show x21.i + v21.i = (((boxesB (bxI x0 x1 x2 x3 x4 x5) (solL (lstX deI x6) x7)).take (x20.i + 1).toNat).map Bx.vol).sum
        rw [show (x20.i + 1).toNat = x20.i.toNat + 1 by omega, hst, e21, p3]
      intro v67
      intro v68
      refine andI ?_ fun o69 => ?_
      · skip -- #23
        show v17.i + 1 - (x20.i + 1) < v17.i + 1 - x20.i
        omega
      skip -- #24
      show 0 < v17.i + 1 - x20.i
      omega
    intro h70
    refine andI ?_ fun o71 => ?_
    · skip -- #25
      exact ⟨Int.le_refl _, g6.1, rfl, ⟨fun h => (by cases h), fun ⟨j, h, _⟩ => by
        have h : (j : Int) < 0 := h
        omega⟩⟩
    intro x40
    intro x41
    intro x42
    intro h72
    intro h73
    intro p74
    refine And.intro ?_ ?_
    · intro h76
      refine andI ?_ fun o77 => ?_
      · omega -- #26
      intro v78
      have e78 : v78.b = solX x7 (x6.r x40.i 0).i := rfl
      refine And.intro ?_ ?_
      · intro h80
        refine andI ?_ fun o81 => ?_
        · skip -- #27
          have c1 : x41.i = (((solL (lstX deI x6) x7).take x40.i.toNat).count true : Nat) := p74.2.2.1
          have c2 := cnt_le (op := solL (lstX deI x6) x7) (k := x40.i.toNat)
          omega
        intro v82
        intro v83
        intro v84
        intro v85
        refine andI ?_ fun o86 => ?_
        · skip -- #28
          rw [e78] at h80
          refine q643_s p74 h76 (by rw [if_pos h80]; rfl) ?_
          rw [h80, eq_self, true_and]
          show (x42.b || v85.b) = true ↔ _
          rw [Bool.or_eq_true]
          exact Iff.rfl
        intro v87
        intro v88
        refine andI ?_ fun o89 => ?_
        · skip -- #29
          show x6.i + 1 - (x40.i + 1) < x6.i + 1 - x40.i
          omega
        skip -- #30
        show 0 < x6.i + 1 - x40.i
        omega
      intro h90
      refine andI ?_ fun o91 => ?_
      · skip -- #31
        rw [e78] at h90
        refine q643_s p74 h76 (by rw [if_neg h90]; exact (Int.add_zero _).symm) ?_
        show x42.b = true ↔ _
        exact ⟨fun h => .inl h, fun h => h.elim id fun h => absurd h.1 h90⟩
      intro v92
      intro v93
      refine andI ?_ fun o94 => ?_
      · skip -- #32
        show x6.i + 1 - (x40.i + 1) < x6.i + 1 - x40.i
        omega
      skip -- #33
      show 0 < x6.i + 1 - x40.i
      omega
    intro h95
    intro v96
    skip -- #34
    obtain ⟨c0, c1, c2, c3⟩ := p74
    have d2 := p16.2.2
    have d3 : x20.i ≤ v17.i := p16.2.1
    have d0 := p16.1
    have ek : x40.i = x6.i := by omega
    have ei : x20.i.toNat = (boxesB (bxI x0 x1 x2 x3 x4 x5) (solL (lstX deI x6) x7)).length := by omega
    refine ⟨?_, ?_⟩
    · have d2 : x21.i = (((boxesB (bxI x0 x1 x2 x3 x4 x5) (solL (lstX deI x6) x7)).take x20.i.toNat).map Bx.vol).sum := d2
      rw [ei, List.take_length, hsum] at d2
      rw [ek, List.take_of_length_le (by rw [sol_len]; omega)] at c2
      rw [d2, c2]
    · rw [beq_iff_eq, Bool.eq_iff_iff, c3]
      show ovB (lstX deX (rowG enX (boxesB (bxI x0 x1 x2 x3 x4 x5) (solL (lstX deI x6) x7)))) (bxI x8 x9 x10 x11 x12 x13) = true ↔ _
      rw [lstX_rowG deX_enX, box_ov ho, hV, ek]
  intro h97
  refine And.intro ?_ ?_
  · intro h99
    rfl -- #35
  intro h100
  rfl -- #36

/-! ### The frame -/
theorem shape_flat : flatR sh = [.int .i64 (-9223372036854775808) 9223372036854775807, .int .i64 (-9223372036854775808) 9223372036854775807, .int .i64 (-9223372036854775808) 9223372036854775807, .int .i64 (-9223372036854775808) 9223372036854775807, .int .i64 (-9223372036854775808) 9223372036854775807, .int .i64 (-9223372036854775808) 9223372036854775807, .row [.int .i64 (-9223372036854775808) (9223372036854775807)] 9223372036854775807, .row [.str (9223372036854775807), .bool, .bool, .bool, .int .i64 (-9223372036854775808) (9223372036854775807), .int .i64 (-9223372036854775808) (9223372036854775807), .int .i64 (-9223372036854775808) (9223372036854775807), .int .i64 (-9223372036854775808) (9223372036854775807)] 9223372036854775807, .int .i64 (-9223372036854775808) 9223372036854775807, .int .i64 (-9223372036854775808) 9223372036854775807, .int .i64 (-9223372036854775808) 9223372036854775807, .int .i64 (-9223372036854775808) 9223372036854775807, .int .i64 (-9223372036854775808) 9223372036854775807, .int .i64 (-9223372036854775808) 9223372036854775807] := by kernel_rfl
theorem lawful (ds : Ds) (hr : rshX sh ds) : (walkR Try.prog (cfN N41 none L41 R41b lpTile sumL) Try.f4 400 sh).law { ρ0 with x := fun j => ds.getD j (xI 0) } := by
  have hr := rshX_flat hr
  rw [shape_flat] at hr
  match ds, hr with
  | [d0, d1, d2, d3, d4, d5, d6, d7, d8, d9, d10, d11, d12, d13], hr =>
    obtain ⟨⟨e0, l0, u0⟩, ⟨e1, l1, u1⟩, ⟨e2, l2, u2⟩, ⟨e3, l3, u3⟩, ⟨e4, l4, u4⟩, ⟨e5, l5, u5⟩, l6, l7, ⟨e8, l8, u8⟩, ⟨e9, l9, u9⟩, ⟨e10, l10, u10⟩, ⟨e11, l11, u11⟩, ⟨e12, l12, u12⟩, ⟨e13, l13, u13⟩, _⟩ := hr
    generalize d0.i = x0 at *
    generalize d1.i = x1 at *
    generalize d2.i = x2 at *
    generalize d3.i = x3 at *
    generalize d4.i = x4 at *
    generalize d5.i = x5 at *
    generalize d6 = x6 at *
    generalize d7 = x7 at *
    generalize d8.i = x8 at *
    generalize d9.i = x9 at *
    generalize d10.i = x10 at *
    generalize d11.i = x11 at *
    generalize d12.i = x12 at *
    generalize d13.i = x13 at *
    subst e0 e1 e2 e3 e4 e5 e8 e9 e10 e11 e12 e13
    exact Eq.mpr (link x0 x1 x2 x3 x4 x5 x6 x7 x8 x9 x10 x11 x12 x13) (lawP_ok x0 x1 x2 x3 x4 x5 x6 x7 x8 x9 x10 x11 x12 x13 ⟨l0, u0⟩ ⟨l1, u1⟩ ⟨l2, u2⟩ ⟨l3, u3⟩ ⟨l4, u4⟩ ⟨l5, u5⟩ l6 l7 ⟨l8, u8⟩ ⟨l9, u9⟩ ⟨l10, u10⟩ ⟨l11, u11⟩ ⟨l12, u12⟩ ⟨l13, u13⟩)
theorem shape {H : Type} {ds : List (DataW H)} (h : ds.length = 3) : Rows.collideBoxesTileSpec.fn H ds = { results := [.lit (.bool true)], args := ds } := by
  match ds, h with
  | [d1, d2, d3], _ => rfl
theorem calls {H : Type} {enc : TypeId × Value → H} (W : World) (base : Nat) (args : Array Value) (ds : List (DataW H)) (p : List MemPlace) (hval : ∀ (j : Nat) t v, Try.f4.params[j]? = some t → args[j]? = some v → Value.okWide Try.prog W .any base t v)
    (hA : DataW.TrodAll enc Try.prog W 0 (fun _ => true) true Try.f4.params.toList args.toList ds p) (hg : GlobOk ρ0.g W.heap.size W) : Calls Try.prog 4 args W fun e w' => e = .returned (.bool true) ∧ Below W.heap.size W w' := by
  rw [Try.params4] at hA hval
  have hs : shTs Try.prog [37, 38, 26] = some sh := by
    have : (shTs Try.prog [37, 38, 26]).isSome = true := by kernel_rfl
    obtain ⟨s, h⟩ := Option.isSome_iff_exists.1 this
    unfold sh
    rw [h]; rfl
  obtain ⟨ds', hr⟩ := args_rel hA (fun i t v ht hv => hval i t v (by simpa using ht) (by simpa using hv)) hs
  have := law_callsR (L41_ok) Try.func4 rfl 400 hg hr lawful
  simpa using this
set_option maxRecDepth 100000 in
theorem lifted (os : Os) (started : os.Started) (H : Type) (enc : TypeId × Value → H) :
    ReturnsInHanded {} Try.checked os 4 .any (Rows.collideBoxesTileSpec.pre6 enc Try.prog Try.f4 Rows.collideBoxesTileRow.domain false) (Rows.collideBoxesTileSpec.post enc Try.prog Try.f4 false true false false) := by
  refine returnsInHanded_of_change (C := Try.checked) own started (by kernel_rfl) Try.func4
    (ChangeSpec.witness6 (enc := enc) (C := Try.checked) false ⟨#[], #[((Try.prog.info? 37).bind (·.zero)).getD undef, ((Try.prog.info? 38).bind (·.zero)).getD undef, ((Try.prog.info? 26).bind (·.zero)).getD undef], []⟩ 8 (by kernel_rfl) (by kernel_rfl) (by kernel_rfl) (by kernel_rfl)) ?_
  intro W base args ds gs before hval hW _ _
  have hW0 := hW
  obtain ⟨p, q, hA, hV, _⟩ := hW0
  have hlen : ds.length = 3 := (trodAll_len hA).trans (by kernel_rfl)
  refine (calls W base args ds p hval hA (glob_ok W)).mono fun e W' ⟨he, hb⟩ => ?_
  subst he
  exact ⟨_, rfl, law_post kids slices (by rw [Try.params4]; decide +kernel) rfl rfl Try.underlying4 (shape hlen) hW hb⟩

theorem over : Rows.CollideBoxesTileSaid :=
  OpenClaim.holds_of_wide 4 Try.f4 rfl rfl rfl rfl rfl rfl rfl ⟨rfl, rfl, rfl, rfl, rfl⟩ rfl rfl rfl rfl rfl (by kernel_rfl) Try.func4 (by kernel_rfl)
    (of_decide_eq_true (by kernel_rfl)) (by unfold Func.isWrapper; first | (rw [if_pos (by decide +kernel)]; kernel_rfl) | (rw [if_neg (by decide +kernel)]; exact ⟨rfl, rfl⟩))
    (fun os started H enc _ => lifted os started H enc)

/-- The statement. -/
theorem proved : Rows.CollideBoxesTileSaid := over
#print axioms proved
end Go.Proofs.Ytokicaoapclicaa.collideBoxesTile
