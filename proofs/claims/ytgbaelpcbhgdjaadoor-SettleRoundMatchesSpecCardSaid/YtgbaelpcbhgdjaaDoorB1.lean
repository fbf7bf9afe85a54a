/- Proved: SettleRoundMatchesSpec: the statement 'SettleRoundMatchesSpecCardSaid' of this seat, for every input that it names; no condition besides. -/
import Derived.Test.YtgbaelpcbhgdjaaDoorC30T
import Derived.Test.YtgbaelpcbhgdjaaDoorC30O
import Derived.Test.YtgbaelpcbhgdjaaDoorRows
import Derived.Test.YtgbaelpcbhgdjaaDoorCards
import Derived.Test.YtgbaelpcbhgdjaaDoorTie
import Derived.SevenTiedAt
import Derived.ProofKit
import Derived.LaidMore
import Derived.Stop.Joined
namespace Go.Proofs.YtgbaelpcbhgdjaaDoor.settleRoundMatchesSpec
open Go Go.ChangeShapes Go.WideShapes Go.ChangeAt Go.RowKit Vc
set_option linter.unusedVariables false


/-- The law's walk, as the machine leaves it. -/
def lawP (x0 : Int) (x1 : Int) (x2 : Int) (x3 : Int) (x4 : Int) (x5 : Int) (x6 : X) (x7 : X) (x8 : Int) (x9 : Int) (x10 : Int) (x11 : Int) (x12 : Int) : Prop :=
(let v0 : X := Ff 861 [(xI x0), (xI x1), (xI x2), (xI x3), (xI x4), (xI x5), x6, x7]; (((¬ (v0.b = true)) →
(true = true)) ∧
((v0.b = true) →
(Px 710 [(xI x0), (xI x1), (xI x2), (xI x3), (xI x4), (xI x5), x6, x7, (xI x8)] ∧
(((-1048575) ≤ x0) ∧
((x0 ≤ 1048575) ∧
(((-1048575) ≤ x1) ∧
((x1 ≤ 1048575) ∧
(((-1048575) ≤ x2) ∧
((x2 ≤ 1048575) ∧
(((-1048575) ≤ x3) ∧
((x3 ≤ 1048575) ∧
(((-1048575) ≤ x4) ∧
((x4 ≤ 1048575) ∧
(((-1048575) ≤ x5) ∧
((x5 ≤ 1048575) ∧
(Px 880 [(xI x0), (xI x1), (xI x2), (xI x3), (xI x4), (xI x5), x6, x7, (xI x8), (xI x0), (xI x1), (xI x2), (xI x3), (xI x4), (xI x5), (xI 0), (xI 0), x6] ∧
(∀ x20 : X, (∀ x21 : X, (∀ x22 : X, (∀ x23 : X, (∀ x24 : X, (∀ x25 : X, (∀ x26 : X, (∀ x27 : X, (∀ x28 : X, ((((-1048575) ≤ x20.i) ∧ (x20.i ≤ 1048575)) →
((((-1048575) ≤ x21.i) ∧ (x21.i ≤ 1048575)) →
((((-1048575) ≤ x22.i) ∧ (x22.i ≤ 1048575)) →
((((-1048575) ≤ x23.i) ∧ (x23.i ≤ 1048575)) →
((((-1048575) ≤ x24.i) ∧ (x24.i ≤ 1048575)) →
((((-1048575) ≤ x25.i) ∧ (x25.i ≤ 1048575)) →
(((0 ≤ x26.i) ∧ (x26.i ≤ 2097152)) →
(((0 ≤ x27.i) ∧ (x27.i ≤ 2097152)) →
((0 ≤ x28.i ∧ x28.i ≤ 9223372036854775807 ∧ RowOk [.int .i64 (-9223372036854775808) (9223372036854775807)] x28.r (x28.i).toNat) →
(Px 880 [(xI x0), (xI x1), (xI x2), (xI x3), (xI x4), (xI x5), x6, x7, (xI x8), x20, x21, x22, x23, x24, x25, x26, x27, x28] →
(((x26.i < x28.i) →
(let v30 : X := Ff 270 [(xI x20.i), (xI x21.i), (xI x22.i), (xI x23.i), (xI x24.i), (xI x25.i), (xI x26.i)]; let v31 : X := Ff 271 [(xI x20.i), (xI x21.i), (xI x22.i), (xI x23.i), (xI x24.i), (xI x25.i), (xI x26.i)]; let v32 : X := Ff 272 [(xI x20.i), (xI x21.i), (xI x22.i), (xI x23.i), (xI x24.i), (xI x25.i), (xI x26.i)]; (Px 710 [(xI x20.i), (xI x21.i), (xI x22.i), (xI x23.i), (xI x24.i), (xI x25.i), x28, x7, (xI x8), (xI v30.i), (xI v31.i), (xI v32.i)] ∧
(let v34 : X := Ff 813 [(xI x20.i), (xI x21.i), (xI x22.i), (xI x23.i), (xI x24.i), (xI x25.i), x28, x7, (xI x8), (xI v30.i), (xI v31.i), (xI v32.i)]; (((¬ (v34.b = true)) →
(((x26.i + 1) ≤ 2097152) ∧
(Px 880 [(xI x0), (xI x1), (xI x2), (xI x3), (xI x4), (xI x5), x6, x7, (xI x8), (xI x20.i), (xI x21.i), (xI x22.i), (xI x23.i), (xI x24.i), (xI x25.i), (xI (x26.i + 1)), (xI x27.i), x28] ∧
(let v39 : X := Ff 899 [(xI x0), (xI x1), (xI x2), (xI x3), (xI x4), (xI x5), x6, x7, (xI x8), (xI x20.i), (xI x21.i), (xI x22.i), (xI x23.i), (xI x24.i), (xI x25.i), (xI (x26.i + 1)), (xI x27.i), x28]; let v40 : X := Ff 899 [(xI x0), (xI x1), (xI x2), (xI x3), (xI x4), (xI x5), x6, x7, (xI x8), x20, x21, x22, x23, x24, x25, x26, x27, x28]; ((v39.i < v40.i) ∧
(0 < v40.i)))))) ∧
((v34.b = true) →
(Px 710 [(xI x20.i), (xI x21.i), (xI x22.i), (xI x23.i), (xI x24.i), (xI x25.i), x28, (xI v30.i), (xI v31.i), (xI v32.i)] ∧
(let v44 : X := Ff 810 [(xI x20.i), (xI x21.i), (xI x22.i), (xI x23.i), (xI x24.i), (xI x25.i), x28, x7, (xI x8), (xI v30.i), (xI v31.i), (xI v32.i)]; let v45 : X := Ff 811 [(xI x20.i), (xI x21.i), (xI x22.i), (xI x23.i), (xI x24.i), (xI x25.i), x28, x7, (xI x8), (xI v30.i), (xI v31.i), (xI v32.i)]; let v46 : X := Ff 812 [(xI x20.i), (xI x21.i), (xI x22.i), (xI x23.i), (xI x24.i), (xI x25.i), x28, x7, (xI x8), (xI v30.i), (xI v31.i), (xI v32.i)]; (Px 710 [(xI x20.i), (xI x21.i), (xI x22.i), (xI x23.i), (xI x24.i), (xI x25.i), x28, (xI v44.i), (xI v45.i), (xI v46.i)] ∧
(let v48 : X := Ff 838 [(xI x20.i), (xI x21.i), (xI x22.i), (xI x23.i), (xI x24.i), (xI x25.i), x28, (xI v44.i), (xI v45.i), (xI v46.i)]; (Px 710 [(xI x20.i), (xI x21.i), (xI x22.i), (xI x23.i), (xI x24.i), (xI x25.i), x28, (xI v30.i), (xI v31.i), (xI v32.i), (xI v48.i)] ∧
(let v50 : X := Ff 701 [(xI x20.i), (xI x21.i), (xI x22.i), (xI x23.i), (xI x24.i), (xI x25.i), x28, (xI v30.i), (xI v31.i), (xI v32.i), (xI v48.i)]; let v51 : X := Ff 702 [(xI x20.i), (xI x21.i), (xI x22.i), (xI x23.i), (xI x24.i), (xI x25.i), x28, (xI v30.i), (xI v31.i), (xI v32.i), (xI v48.i)]; let v52 : X := Ff 703 [(xI x20.i), (xI x21.i), (xI x22.i), (xI x23.i), (xI x24.i), (xI x25.i), x28, (xI v30.i), (xI v31.i), (xI v32.i), (xI v48.i)]; let v53 : X := Ff 704 [(xI x20.i), (xI x21.i), (xI x22.i), (xI x23.i), (xI x24.i), (xI x25.i), x28, (xI v30.i), (xI v31.i), (xI v32.i), (xI v48.i)]; let v54 : X := Ff 705 [(xI x20.i), (xI x21.i), (xI x22.i), (xI x23.i), (xI x24.i), (xI x25.i), x28, (xI v30.i), (xI v31.i), (xI v32.i), (xI v48.i)]; let v55 : X := Ff 706 [(xI x20.i), (xI x21.i), (xI x22.i), (xI x23.i), (xI x24.i), (xI x25.i), x28, (xI v30.i), (xI v31.i), (xI v32.i), (xI v48.i)]; let v56 : X := Ff 707 [(xI x20.i), (xI x21.i), (xI x22.i), (xI x23.i), (xI x24.i), (xI x25.i), x28, (xI v30.i), (xI v31.i), (xI v32.i), (xI v48.i)]; let v57 : X := Ff 838 [(xI x20.i), (xI x21.i), (xI x22.i), (xI x23.i), (xI x24.i), (xI x25.i), x28, (xI v30.i), (xI v31.i), (xI v32.i)]; (Px 710 [(xI v50.i), (xI v51.i), (xI v52.i), (xI v53.i), (xI v54.i), (xI v55.i), v56, (xI v44.i), (xI v45.i), (xI v46.i), (xI v57.i)] ∧
(((x27.i + 1) ≤ 2097152) ∧
(((x26.i + 1) ≤ 2097152) ∧
(let v61 : X := Ff 701 [(xI v50.i), (xI v51.i), (xI v52.i), (xI v53.i), (xI v54.i), (xI v55.i), v56, (xI v44.i), (xI v45.i), (xI v46.i), (xI v57.i)]; let v62 : X := Ff 702 [(xI v50.i), (xI v51.i), (xI v52.i), (xI v53.i), (xI v54.i), (xI v55.i), v56, (xI v44.i), (xI v45.i), (xI v46.i), (xI v57.i)]; let v63 : X := Ff 703 [(xI v50.i), (xI v51.i), (xI v52.i), (xI v53.i), (xI v54.i), (xI v55.i), v56, (xI v44.i), (xI v45.i), (xI v46.i), (xI v57.i)]; let v64 : X := Ff 704 [(xI v50.i), (xI v51.i), (xI v52.i), (xI v53.i), (xI v54.i), (xI v55.i), v56, (xI v44.i), (xI v45.i), (xI v46.i), (xI v57.i)]; let v65 : X := Ff 705 [(xI v50.i), (xI v51.i), (xI v52.i), (xI v53.i), (xI v54.i), (xI v55.i), v56, (xI v44.i), (xI v45.i), (xI v46.i), (xI v57.i)]; let v66 : X := Ff 706 [(xI v50.i), (xI v51.i), (xI v52.i), (xI v53.i), (xI v54.i), (xI v55.i), v56, (xI v44.i), (xI v45.i), (xI v46.i), (xI v57.i)]; let v67 : X := Ff 707 [(xI v50.i), (xI v51.i), (xI v52.i), (xI v53.i), (xI v54.i), (xI v55.i), v56, (xI v44.i), (xI v45.i), (xI v46.i), (xI v57.i)]; (Px 880 [(xI x0), (xI x1), (xI x2), (xI x3), (xI x4), (xI x5), x6, x7, (xI x8), (xI v61.i), (xI v62.i), (xI v63.i), (xI v64.i), (xI v65.i), (xI v66.i), (xI (x26.i + 1)), (xI (x27.i + 1)), v67] ∧
(let v69 : X := Ff 899 [(xI x0), (xI x1), (xI x2), (xI x3), (xI x4), (xI x5), x6, x7, (xI x8), (xI v61.i), (xI v62.i), (xI v63.i), (xI v64.i), (xI v65.i), (xI v66.i), (xI (x26.i + 1)), (xI (x27.i + 1)), v67]; let v70 : X := Ff 899 [(xI x0), (xI x1), (xI x2), (xI x3), (xI x4), (xI x5), x6, x7, (xI x8), x20, x21, x22, x23, x24, x25, x26, x27, x28]; ((v69.i < v70.i) ∧
(0 < v70.i)))))))))))))))))))) ∧
((¬ (x26.i < x28.i)) →
(Px 710 [(xI x0), (xI x1), (xI x2), (xI x3), (xI x4), (xI x5), x6, x7, (xI x8), (xI x9), (xI x10), (xI x11)] ∧
(Px 710 [(xI x0), (xI x1), (xI x2), (xI x3), (xI x4), (xI x5), x6, x7, (xI x8), (xI x9), (xI x10), (xI x11)] ∧
(let v75 : X := Ff 820 [(xI x0), (xI x1), (xI x2), (xI x3), (xI x4), (xI x5), x6, x7, (xI x8)]; let v76 : X := Ff 821 [(xI x0), (xI x1), (xI x2), (xI x3), (xI x4), (xI x5), x6, x7, (xI x8)]; let v77 : X := Ff 822 [(xI x0), (xI x1), (xI x2), (xI x3), (xI x4), (xI x5), x6, x7, (xI x8)]; let v78 : X := Ff 823 [(xI x0), (xI x1), (xI x2), (xI x3), (xI x4), (xI x5), x6, x7, (xI x8)]; let v79 : X := Ff 824 [(xI x0), (xI x1), (xI x2), (xI x3), (xI x4), (xI x5), x6, x7, (xI x8)]; let v80 : X := Ff 825 [(xI x0), (xI x1), (xI x2), (xI x3), (xI x4), (xI x5), x6, x7, (xI x8)]; let v81 : X := Ff 826 [(xI x0), (xI x1), (xI x2), (xI x3), (xI x4), (xI x5), x6, x7, (xI x8)]; let v82 : X := Ff 715 [(xI v75.i), (xI v76.i), (xI v77.i), (xI v78.i), (xI v79.i), (xI v80.i), v81, (xI x20.i), (xI x21.i), (xI x22.i), (xI x23.i), (xI x24.i), (xI x25.i), x28]; let v83 : X := Ff 827 [(xI x0), (xI x1), (xI x2), (xI x3), (xI x4), (xI x5), x6, x7, (xI x8)]; ((((v82.b = true) ∧ (v83.i = x27.i)) →
 Px 710 [(xI x0), (xI x1), (xI x2), (xI x3), (xI x4), (xI x5), x6, x7]) ∧
((((v82.b = true) ∧ (v83.i = x27.i)) →
 Px 710 [(xI x0), (xI x1), (xI x2), (xI x3), (xI x4), (xI x5), x6, x7]) ∧
((v82.b = true) ∧ (v83.i = x27.i)))))))))))))))))))))))))))))))))))))))))))))
noncomputable def sh : List RSh := (shTs Tryd.prog [28, 29, 3, 23, 3]).getD []
attribute [irreducible] sh
theorem link (x0 : Int) (x1 : Int) (x2 : Int) (x3 : Int) (x4 : Int) (x5 : Int) (x6 : X) (x7 : X) (x8 : Int) (x9 : Int) (x10 : Int) (x11 : Int) (x12 : Int) : (walkR Tryd.prog (cfG none L30 R30 lpRM sumL) Tryd.f3 600 sh).law { ρ0 with x := fun j => [xI x0, xI x1, xI x2, xI x3, xI x4, xI x5, x6, x7, xI x8, xI x9, xI x10, xI x11, xI x12].getD j (xI 0) } = lawP x0 x1 x2 x3 x4 x5 x6 x7 x8 x9 x10 x11 x12 := by kernel_rfl
set_option maxHeartbeats 4000000 in
theorem lawP_ok (x0 : Int) (x1 : Int) (x2 : Int) (x3 : Int) (x4 : Int) (x5 : Int) (x6 : X) (x7 : X) (x8 : Int) (x9 : Int) (x10 : Int) (x11 : Int) (x12 : Int) (g0 : -9223372036854775808 ≤ x0 ∧ x0 ≤ 9223372036854775807) (g1 : -9223372036854775808 ≤ x1 ∧ x1 ≤ 9223372036854775807) (g2 : -9223372036854775808 ≤ x2 ∧ x2 ≤ 9223372036854775807) (g3 : -9223372036854775808 ≤ x3 ∧ x3 ≤ 9223372036854775807) (g4 : -9223372036854775808 ≤ x4 ∧ x4 ≤ 9223372036854775807) (g5 : -9223372036854775808 ≤ x5 ∧ x5 ≤ 9223372036854775807) (g6 : 0 ≤ x6.i ∧ x6.i ≤ 9223372036854775807 ∧ RowOk [.int .i64 (-9223372036854775808) (9223372036854775807)] x6.r x6.i.toNat) (g7 : 0 ≤ x7.i ∧ x7.i ≤ 9223372036854775807 ∧ RowOk [.str (9223372036854775807), .bool, .bool, .bool, .int .i64 (-9223372036854775808) (9223372036854775807), .int .i64 (-9223372036854775808) (9223372036854775807), .int .i64 (-9223372036854775808) (9223372036854775807), .int .i64 (-9223372036854775808) (9223372036854775807)] x7.r x7.i.toNat) (g8 : -9223372036854775808 ≤ x8 ∧ x8 ≤ 9223372036854775807) (g9 : -9223372036854775808 ≤ x9 ∧ x9 ≤ 9223372036854775807) (g10 : -9223372036854775808 ≤ x10 ∧ x10 ≤ 9223372036854775807) (g11 : -9223372036854775808 ≤ x11 ∧ x11 ≤ 9223372036854775807) (g12 : -9223372036854775808 ≤ x12 ∧ x12 ≤ 9223372036854775807) : lawP x0 x1 x2 x3 x4 x5 x6 x7 x8 x9 x10 x11 x12 := by
  unfold lawP
  intro v0
  refine And.intro ?_ ?_
  · intro h2
    rfl -- #0
  intro h3
  obtain ⟨f1, f2, gv, ft⟩ := few_iff.1 (show fewS (grX (xI x0) (xI x1) (xI x2) (xI x3) (xI x4) (xI x5) x6) x7 = true from h3)
  have ht := tab_ok ft
  obtain ⟨k0, k1, k2, k3, k4⟩ := (v700 g6.1).1 gv
  have hV : (bxI x0 x1 x2 x3 x4 x5).vol = x6.i := k3
  refine andI ?_ fun o4 => ?_
  · exact gv -- #1
  refine andI ?_ fun o5 => ?_
  · omega -- #2
  refine andI ?_ fun o6 => ?_
  · omega -- #3
  refine andI ?_ fun o7 => ?_
  · omega -- #4
  refine andI ?_ fun o8 => ?_
  · omega -- #5
  refine andI ?_ fun o9 => ?_
  · omega -- #6
  refine andI ?_ fun o10 => ?_
  · omega -- #7
  refine andI ?_ fun o11 => ?_
  · omega -- #8
  refine andI ?_ fun o12 => ?_
  · omega -- #9
  refine andI ?_ fun o13 => ?_
  · omega -- #10
  refine andI ?_ fun o14 => ?_
  · omega -- #11
  refine andI ?_ fun o15 => ?_
  · omega -- #12
  refine andI ?_ fun o16 => ?_
  · omega -- #13
  refine andI ?_ fun o17 => ?_
  · exact ⟨⟨rfl, rfl, rfl, rfl, rfl, rfl⟩, Int.le_refl _, g6.1, rfl, gv, rfl⟩ -- #14
  intro x20
  intro x21
  intro x22
  intro x23
  intro x24
  intro x25
  intro x26
  intro x27
  intro x28
  intro h18
  intro h19
  intro h20
  intro h21
  intro h22
  intro h23
  intro h24
  intro h25
  intro r26
  intro p27
  obtain ⟨⟨e0, e1, e2, e3, e4, e5⟩, i0, i1, e6, gvo, hR⟩ := p27
  have hB : (⟨x20.i, x21.i, x22.i, x23.i, x24.i, x25.i⟩ : Bx) = bxI x0 x1 x2 x3 x4 x5 := by
    rw [e0, e1, e2, e3, e4, e5]
    rfl
  have hG : validG ⟨⟨x20.i, x21.i, x22.i, x23.i, x24.i, x25.i⟩, lstX deI x28⟩ = true := by rw [hB]; exact gvo
  refine And.intro ?_ ?_
  · intro h29
    intro v30
    intro v31
    intro v32
    refine andI ?_ fun o33 => ?_
    · exact hG -- #15
    intro v34
    have hT : v34.b = (tgtB (bxI x0 x1 x2 x3 x4 x5) (lstX deI x28) x7 x8 ((bxI x0 x1 x2 x3 x4 x5).at x26.i)).isSome := by
      rw [← hB]
      rfl
    have hR' : rndB (bxI x0 x1 x2 x3 x4 x5) x7 x8 (lstX deI x6) x26.i.toNat = (lstX deI x28, x27.i) := hR.symm
    refine And.intro ?_ ?_
    · intro h36
      refine andI ?_ fun o37 => ?_
      · omega -- #16
      refine andI ?_ fun o38 => ?_
      · skip -- #17
        refine ⟨⟨e0, e1, e2, e3, e4, e5⟩, Int.le_trans i0 (Int.le_of_lt (Int.lt_succ _)), show x26.i + 1 ≤ x6.i by omega, e6, gvo, ?_⟩
        show (lstX deI x28, x27.i) = rndB (bxI x0 x1 x2 x3 x4 x5) x7 x8 (lstX deI x6) (x26.i + 1).toNat
        have hq : tgtB (bxI x0 x1 x2 x3 x4 x5) (lstX deI x28) x7 x8 ((bxI x0 x1 x2 x3 x4 x5).at x26.i) = none := Option.isNone_iff_eq_none.1 (not_some (by rw [← hT]; exact h36))
        rw [rnd_step i0, hR']
        show _ = match tgtB (bxI x0 x1 x2 x3 x4 x5) (lstX deI x28) x7 x8 ((bxI x0 x1 x2 x3 x4 x5).at x26.i) with | some q => _ | none => _
        rw [hq]
      intro v39
      intro v40
      refine andI ?_ fun o41 => ?_
      · skip -- #18
        show x6.i + 1 - (x26.i + 1) < x6.i + 1 - x26.i
        omega
      skip -- #19
      show 0 < x6.i + 1 - x26.i
      omega
    intro h42
    obtain ⟨q, hq⟩ := Option.isSome_iff_exists.1 (hT.symm.trans h42)
    have hh := tgt_has hq
    have hqi := idx_ok hh.2
    have hvo : (bxI x0 x1 x2 x3 x4 x5).vol = (lstX deI x28).length := val_len gvo
    have hln : ((lstX deI x28).length : Int) = x28.i := by rw [lstX_len]; omega
    refine andI ?_ fun o43 => ?_
    · exact hG -- #20
    intro v44
    intro v45
    intro v46
    refine andI ?_ fun o47 => ?_
    · exact hG -- #21
    intro v48
    refine andI ?_ fun o49 => ?_
    · exact hG -- #22
    intro v50
    intro v51
    intro v52
    intro v53
    intro v54
    intro v55
    intro v56
    intro v57
    have e44 : (v44.i, v45.i, v46.i) = q := by
      have h : (v44.i, v45.i, v46.i) = (tgtB ⟨x20.i, x21.i, x22.i, x23.i, x24.i, x25.i⟩ (lstX deI x28) x7 x8 (Bx.at ⟨x20.i, x21.i, x22.i, x23.i, x24.i, x25.i⟩ x26.i)).getD (0, 0, 0) := rfl
      rw [h, hB, hq]
      rfl
    have e48 : v48.i = getL (bxI x0 x1 x2 x3 x4 x5) (lstX deI x28) q := by
      have h : v48.i = getL ⟨x20.i, x21.i, x22.i, x23.i, x24.i, x25.i⟩ (lstX deI x28) (v44.i, v45.i, v46.i) := rfl
      rw [h, hB, e44]
    have e57 : v57.i = getL (bxI x0 x1 x2 x3 x4 x5) (lstX deI x28) ((bxI x0 x1 x2 x3 x4 x5).at x26.i) := by
      have h : v57.i = getL ⟨x20.i, x21.i, x22.i, x23.i, x24.i, x25.i⟩ (lstX deI x28) (Bx.at ⟨x20.i, x21.i, x22.i, x23.i, x24.i, x25.i⟩ x26.i) := rfl
      rw [h, hB]
    have e56 : lstX deI v56 = setL (bxI x0 x1 x2 x3 x4 x5) (lstX deI x28) ((bxI x0 x1 x2 x3 x4 x5).at x26.i) v48.i := by
      have h : lstX deI v56 = setL ⟨x20.i, x21.i, x22.i, x23.i, x24.i, x25.i⟩ (lstX deI x28) (Bx.at ⟨x20.i, x21.i, x22.i, x23.i, x24.i, x25.i⟩ x26.i) v48.i := lstX_rowG (enc := enI) (dec := deI) (fun _ => rfl) _
      rw [h, hB]
    refine andI ?_ fun o58 => ?_
    · skip -- #23
      show validG ⟨⟨x20.i, x21.i, x22.i, x23.i, x24.i, x25.i⟩, lstX deI v56⟩ = true
      rw [hB, e56]
      refine val_set gvo ?_
      rw [e48, getL_idx hh.2]
      exact getD_mem (by omega)
    refine andI ?_ fun o59 => ?_
    · skip -- #24
      have := rnd_cnt (b := bxI x0 x1 x2 x3 x4 x5) (t := x7) (k := x8) (cs := lstX deI x6) x26.i.toNat
      rw [hR'] at this
      have : x27.i ≤ (x26.i.toNat : Int) := this
      omega
    refine andI ?_ fun o60 => ?_
    · omega -- #25
    intro v61
    intro v62
    intro v63
    intro v64
    intro v65
    intro v66
    intro v67
    refine andI ?_ fun o68 => ?_
    · skip -- #26
      have hq' : tgtB (bxI x0 x1 x2 x3 x4 x5) (lstX deI x28) x7 x8 ((bxI x0 x1 x2 x3 x4 x5).at x26.i) = some q := hq
      have hsw := set2_swp (i := x26.i.toNat) hvo (by omega) hh.2
      rw [Int.toNat_of_nonneg i0] at hsw
      have e67 : lstX deI v67 = swpL (lstX deI x28) x26.i.toNat ((bxI x0 x1 x2 x3 x4 x5).idx q).toNat := by
        have h : lstX deI v67 = setL ⟨x20.i, x21.i, x22.i, x23.i, x24.i, x25.i⟩ (lstX deI v56) (v44.i, v45.i, v46.i) v57.i := lstX_rowG (enc := enI) (dec := deI) (fun _ => rfl) _
        rw [h, hB, e44, e57, e56, e48, hsw]
      have hvs : validG ⟨bxI x0 x1 x2 x3 x4 x5, swpL (lstX deI x28) x26.i.toNat ((bxI x0 x1 x2 x3 x4 x5).idx q).toNat⟩ = true := val_swp gvo (by omega) (by omega)
      refine ⟨⟨e0, e1, e2, e3, e4, e5⟩, Int.le_trans i0 (Int.le_of_lt (Int.lt_succ _)), show x26.i + 1 ≤ x6.i by omega, ?_, ?_, ?_⟩
      · have h : v67.i = ((setL ⟨x20.i, x21.i, x22.i, x23.i, x24.i, x25.i⟩ (lstX deI v56) (v44.i, v45.i, v46.i) v57.i).length : Nat) := rowG_i ..
        rw [hB, e44, e57, e56, e48, hsw, swp_len] at h
        show v67.i = x6.i
        omega
      · show validG ⟨bxI x0 x1 x2 x3 x4 x5, lstX deI v67⟩ = true
        rw [e67]
        exact hvs
      · show (lstX deI v67, x27.i + 1) = rndB (bxI x0 x1 x2 x3 x4 x5) x7 x8 (lstX deI x6) (x26.i + 1).toNat
        rw [rnd_step i0, hR']
        show _ = match tgtB (bxI x0 x1 x2 x3 x4 x5) (lstX deI x28) x7 x8 ((bxI x0 x1 x2 x3 x4 x5).at x26.i) with | some q => _ | none => _
        rw [hq', e67]
    intro v69
    intro v70
    refine andI ?_ fun o71 => ?_
    · skip -- #27
      show x6.i + 1 - (x26.i + 1) < x6.i + 1 - x26.i
      omega
    skip -- #28
    show 0 < x6.i + 1 - x26.i
    omega
  intro h72
  refine andI ?_ fun o73 => ?_
  · exact gv -- #29
  refine andI ?_ fun o74 => ?_
  · exact gv -- #30
  intro v75
  intro v76
  intro v77
  intro v78
  intro v79
  intro v80
  intro v81
  intro v82
  intro v83
  refine And.intro ?_ ?_
  · intro h85
    exact gv -- #31
  refine And.intro ?_ ?_
  · intro h87
    exact gv -- #32
  skip -- #33
  have hi : (lstX deI x6).length = x26.i.toNat := by
    rw [lstX_len]
    have : x26.i ≤ x6.i := i1
    omega
  have hL : rndB (bxI x0 x1 x2 x3 x4 x5) x7 x8 (lstX deI x6) (lstX deI x6).length = (lstX deI x28, x27.i) := by rw [hi]; exact hR.symm
  refine ⟨eqG_iff.2 ⟨⟨e0.symm, e1.symm, e2.symm, e3.symm, e4.symm, e5.symm⟩, ?_⟩, congrArg Prod.snd hL⟩
  exact ((lstX_rowG (enc := enI) (dec := deI) (fun _ => rfl) _).trans (congrArg Prod.fst hL) : lstX deI v81 = lstX deI x28)

/-! ### The frame -/
theorem shape_flat : flatR sh = [.int .i64 (-9223372036854775808) 9223372036854775807, .int .i64 (-9223372036854775808) 9223372036854775807, .int .i64 (-9223372036854775808) 9223372036854775807, .int .i64 (-9223372036854775808) 9223372036854775807, .int .i64 (-9223372036854775808) 9223372036854775807, .int .i64 (-9223372036854775808) 9223372036854775807, .row [.int .i64 (-9223372036854775808) (9223372036854775807)] 9223372036854775807, .row [.str (9223372036854775807), .bool, .bool, .bool, .int .i64 (-9223372036854775808) (9223372036854775807), .int .i64 (-9223372036854775808) (9223372036854775807), .int .i64 (-9223372036854775808) (9223372036854775807), .int .i64 (-9223372036854775808) (9223372036854775807)] 9223372036854775807, .int .i64 (-9223372036854775808) 9223372036854775807, .int .i64 (-9223372036854775808) 9223372036854775807, .int .i64 (-9223372036854775808) 9223372036854775807, .int .i64 (-9223372036854775808) 9223372036854775807, .int .i64 (-9223372036854775808) 9223372036854775807] := by kernel_rfl
theorem lawful (ds : Ds) (hr : rshX sh ds) : (walkR Tryd.prog (cfG none L30 R30 lpRM sumL) Tryd.f3 600 sh).law { ρ0 with x := fun j => ds.getD j (xI 0) } := by
  have hr := rshX_flat hr
  rw [shape_flat] at hr
  match ds, hr with
  | [d0, d1, d2, d3, d4, d5, d6, d7, d8, d9, d10, d11, d12], hr =>
    obtain ⟨⟨e0, l0, u0⟩, ⟨e1, l1, u1⟩, ⟨e2, l2, u2⟩, ⟨e3, l3, u3⟩, ⟨e4, l4, u4⟩, ⟨e5, l5, u5⟩, l6, l7, ⟨e8, l8, u8⟩, ⟨e9, l9, u9⟩, ⟨e10, l10, u10⟩, ⟨e11, l11, u11⟩, ⟨e12, l12, u12⟩, _⟩ := hr
    generalize d0.i = x0 at *
    generalize d1.i = x1 at *
    generalize d2.i = x2 at *
    generalize d3.i = x3 at *
    generalize d4.i = x4 at *
    generalize d5.i = x5 at *
    generalize d6 = x6 at *
    generalize d7 = x7 at *
    generalize d8.i = x8 at *
    generalize d9.i = x9 at *
    generalize d10.i = x10 at *
    generalize d11.i = x11 at *
    generalize d12.i = x12 at *
    subst e0 e1 e2 e3 e4 e5 e8 e9 e10 e11 e12
    exact Eq.mpr (link x0 x1 x2 x3 x4 x5 x6 x7 x8 x9 x10 x11 x12) (lawP_ok x0 x1 x2 x3 x4 x5 x6 x7 x8 x9 x10 x11 x12 ⟨l0, u0⟩ ⟨l1, u1⟩ ⟨l2, u2⟩ ⟨l3, u3⟩ ⟨l4, u4⟩ ⟨l5, u5⟩ l6 l7 ⟨l8, u8⟩ ⟨l9, u9⟩ ⟨l10, u10⟩ ⟨l11, u11⟩ ⟨l12, u12⟩)
theorem shape {H : Type} {ds : List (DataW H)} (h : ds.length = 5) : Rows.settleRoundMatchesSpecSpec.fn H ds = { results := [.lit (.bool true)], args := ds } := by
  match ds, h with
  | [d1, d2, d3, d4, d5], _ => rfl
theorem calls {H : Type} {enc : TypeId × Value → H} (W : World) (base : Nat) (args : Array Value) (ds : List (DataW H)) (p : List MemPlace) (hval : ∀ (j : Nat) t v, Tryd.f3.params[j]? = some t → args[j]? = some v → Value.okWide Tryd.prog W .any base t v)
    (hA : DataW.TrodAll enc Tryd.prog W 0 (fun _ => true) true Tryd.f3.params.toList args.toList ds p) (hg : GlobOk ρ0.g W.heap.size W) : Calls Tryd.prog 3 args W fun e w' => e = .returned (.bool true) ∧ Below W.heap.size W w' := by
  rw [Tryd.params3] at hA hval
  have hs : shTs Tryd.prog [28, 29, 3, 23, 3] = some sh := by
    have : (shTs Tryd.prog [28, 29, 3, 23, 3]).isSome = true := by kernel_rfl
    obtain ⟨s, h⟩ := Option.isSome_iff_exists.1 this
    unfold sh
    rw [h]; rfl
  obtain ⟨ds', hr⟩ := args_rel hA (fun i t v ht hv => hval i t v (by simpa using ht) (by simpa using hv)) hs
  have := law_callsR (L30r_ok) Tryd.func3 rfl 600 hg hr lawful
  simpa using this
set_option maxRecDepth 100000 in
theorem lifted (os : Os) (started : os.Started) (H : Type) (enc : TypeId × Value → H) :
    ReturnsInHanded {} Tryd.checked os 3 .any (fun w args => (Rows.settleRoundMatchesSpecSpec.pre enc Tryd.prog Tryd.f3 [] false w args ∧ laidMetH Tryd.prog [("voxel/settle.directions", Rows.laid_voxel_settle_directions)] w) ∧ sizedMet enc Tryd.prog Tryd.f3 (OpenSpec.ofChange Rows.settleRoundMatchesSpecSpec) false w args)
      (Rows.settleRoundMatchesSpecSpec.post enc Tryd.prog Tryd.f3 false true false false) := by
  refine returnsInHanded_of_change_and (C := Tryd.checked) (X := fun w _ => laidMetH Tryd.prog [("voxel/settle.directions", Rows.laid_voxel_settle_directions)] w) (fun _ _ _ hh h => h.of_heap hh) own started (by kernel_rfl) Tryd.func3
    (ChangeSpec.witness_shaped (enc := enc) (C := Tryd.checked) (os := os) (X := fun w _ => laidMetH Tryd.prog [("voxel/settle.directions", Rows.laid_voxel_settle_directions)] w) false (World.doorLaid Tryd.prog 400 os) #[((Tryd.prog.info? 28).bind (·.zero)).getD undef, ((Tryd.prog.info? 29).bind (·.zero)).getD undef, ((Tryd.prog.info? 3).bind (·.zero)).getD undef, ((Tryd.prog.info? 23).bind (·.zero)).getD undef, ((Tryd.prog.info? 3).bind (·.zero)).getD undef] 8 rfl (World.shaped_of_RefB (by kernel_rfl) (by kernel_rfl)) (by kernel_rfl) (by kernel_rfl) (by kernel_rfl) (door_met os _)) ?_
  intro W base args ds gs before hval hW _ _ hL _
  have hW0 := hW
  obtain ⟨p, q, hA, hV, _⟩ := hW0
  have hlen : ds.length = 5 := (trodAll_len hA).trans (by kernel_rfl)
  refine (calls W base args ds p hval hA (glob_ok hL)).mono fun e W' ⟨he, hb⟩ => ?_
  subst he
  exact ⟨_, rfl, law_post kids slices (by rw [Tryd.params3]; decide +kernel) rfl rfl Tryd.underlying4 (shape hlen) hW hb⟩

theorem over : Rows.SettleRoundMatchesSpecSaid :=
  OpenClaim.holds_of_wide 3 Tryd.f3 rfl rfl rfl rfl rfl rfl rfl ⟨rfl, rfl, rfl, rfl, rfl⟩ rfl rfl rfl rfl rfl (by kernel_rfl) Tryd.func3 (by kernel_rfl)
    (of_decide_eq_true (by kernel_rfl)) (by unfold Func.isWrapper; first | (rw [if_pos (by decide +kernel)]; kernel_rfl) | (rw [if_neg (by decide +kernel)]; exact ⟨rfl, rfl⟩))
    (fun os started H enc _ => lifted os started H enc)

/-- The statement: the row, its listed variable tied to the program's text. -/
theorem proved : Rows.SettleRoundMatchesSpecCardSaid :=
  Claim7.holds_tied_plain_at .later [] [.data] true (true, "7617442a9ef1c376c4056c972e7147e4eacf4a41aa3cf2f69184f577ce24d48a") false
    over (fun _ h => by cases h) (by kernel_rfl) (fun _ h => by cases h) settleRoundMatchesSpec_row_tie rfl ⟨rfl, rfl⟩ (by kernel_rfl) rfl
    (fun f fn hf hfn => by
      obtain rfl : f = 3 := Option.some.inj ((show Tryd.prog.funcNamed "voxel/voxellaw30.SettleRoundMatchesSpec" = some 3 by kernel_rfl).symm.trans hf) |>.symm
      obtain rfl : fn = Tryd.f3 := (Option.some.inj (Tryd.func3.symm.trans hfn)).symm
      exact ⟨by kernel_rfl, fun j t ht => by
        rw [Tryd.params3] at ht
        have hm : t ∈ [28, 29, 3, 23, 3] := by simpa using Array.mem_of_getElem? ht
        have hall : ([28, 29, 3, 23, 3].all fun u => !Tryd.prog.wantsStandIn u) = true := by kernel_rfl
        exact (show Tryd.prog.wantsStandIn t = false by simpa using List.all_eq_true.1 hall t hm)⟩)
    (by kernel_rfl)
#print axioms proved
end Go.Proofs.YtgbaelpcbhgdjaaDoor.settleRoundMatchesSpec
