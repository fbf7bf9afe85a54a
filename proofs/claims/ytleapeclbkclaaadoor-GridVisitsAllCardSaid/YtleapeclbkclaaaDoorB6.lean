/- Proved: GridVisitsAll: the statement 'GridVisitsAllCardSaid' of this seat, for every input that it names; no condition besides. -/
import Derived.Test.YtleapeclbkclaaaDoorC07Vd
import Derived.Test.YtleapeclbkclaaaDoorC07Z
import Derived.Test.YtleapeclbkclaaaDoorRows
import Derived.Test.YtleapeclbkclaaaDoorCards
import Derived.Test.YtleapeclbkclaaaDoorTie
import Derived.SevenTiedAt
import Derived.ProofKit
import Derived.LaidMore
import Derived.Stop.Joined
namespace Go.Proofs.YtleapeclbkclaaaDoor.gridVisitsAll
open Go Go.ChangeShapes Go.WideShapes Go.ChangeAt Go.RowKit Vc
set_option linter.unusedVariables false


/-- The law's walk, as the machine leaves it. -/
def lawP (x0 : Int) (x1 : Int) (x2 : Int) (x3 : Int) (x4 : Int) (x5 : Int) (x6 : X) (x7 : Int) : Prop :=
(let v0 : X := Ff 700 [(xI x0), (xI x1), (xI x2), (xI x3), (xI x4), (xI x5), x6]; (((¬ ((1000 < x6.i) ∨ (¬ (v0.b = true)))) →
((((x0 < (-10000)) ∨ (10000 < x0)) →
(true = true)) ∧
((¬ ((x0 < (-10000)) ∨ (10000 < x0))) →
((((x1 < (-10000)) ∨ (10000 < x1)) →
(true = true)) ∧
((¬ ((x1 < (-10000)) ∨ (10000 < x1))) →
((((x2 < (-10000)) ∨ (10000 < x2)) →
(true = true)) ∧
((¬ ((x2 < (-10000)) ∨ (10000 < x2))) →
((((x3 < (-10000)) ∨ (10000 < x3)) →
(true = true)) ∧
((¬ ((x3 < (-10000)) ∨ (10000 < x3))) →
((((x4 < (-10000)) ∨ (10000 < x4)) →
(true = true)) ∧
((¬ ((x4 < (-10000)) ∨ (10000 < x4))) →
((((x5 < (-10000)) ∨ (10000 < x5)) →
(true = true)) ∧
((¬ ((x5 < (-10000)) ∨ (10000 < x5))) →
((((1 : Int) = 0) →
(false = true)) ∧
(Px 992 [(xI x0), (xI x1), (xI x2), (xI x3), (xI x4), (xI x5), x6, (xI x7), (xI 0), (xI 0)] ∧
(∀ x20 : X, (∀ x21 : X, (((0 ≤ x20.i) ∧ (x20.i ≤ 2097152)) →
(((0 ≤ x21.i) ∧ (x21.i ≤ 2097152)) →
(Px 992 [(xI x0), (xI x1), (xI x2), (xI x3), (xI x4), (xI x5), x6, (xI x7), x20, x21] →
(((x20.i < x6.i) →
((x20.i < x6.i) ∧
(let v30 : X := Ff 270 [(xI x0), (xI x1), (xI x2), (xI x3), (xI x4), (xI x5), (xI x20.i)]; let v31 : X := Ff 271 [(xI x0), (xI x1), (xI x2), (xI x3), (xI x4), (xI x5), (xI x20.i)]; let v32 : X := Ff 272 [(xI x0), (xI x1), (xI x2), (xI x3), (xI x4), (xI x5), (xI x20.i)]; let v33 : X := Ff 260 [(xI x0), (xI x1), (xI x2), (xI x3), (xI x4), (xI x5), (xI v30.i), (xI v31.i), (xI v32.i)]; (((v33.i = x21.i) →
 Px 710 [(xI x0), (xI x1), (xI x2), (xI x3), (xI x4), (xI x5), x6, (xI v30.i), (xI v31.i), (xI v32.i)]) ∧
(let v36 : X := Ff 908 [(xI x0), (xI x1), (xI x2), (xI x3), (xI x4), (xI x5), x6, (xI v30.i), (xI v31.i), (xI v32.i)]; ((((¬ (v33.i = x21.i)) ∨ (¬ ((x6.r x20.i 0).i = v36.i))) →
(false = true)) ∧
((¬ ((¬ (v33.i = x21.i)) ∨ (¬ ((x6.r x20.i 0).i = v36.i)))) →
((((x21.i + 1) = x7) →
(Px 992 [(xI x0), (xI x1), (xI x2), (xI x3), (xI x4), (xI x5), x6, (xI x7), (xI 0), (xI 0)] ∧
(∀ x30 : X, (∀ x31 : X, (((0 ≤ x30.i) ∧ (x30.i ≤ 2097152)) →
(((0 ≤ x31.i) ∧ (x31.i ≤ 2097152)) →
(Px 992 [(xI x0), (xI x1), (xI x2), (xI x3), (xI x4), (xI x5), x6, (xI x7), x30, x31] →
(((x30.i < x6.i) →
((x30.i < x6.i) ∧
(let v49 : X := Ff 270 [(xI x0), (xI x1), (xI x2), (xI x3), (xI x4), (xI x5), (xI x30.i)]; let v50 : X := Ff 271 [(xI x0), (xI x1), (xI x2), (xI x3), (xI x4), (xI x5), (xI x30.i)]; let v51 : X := Ff 272 [(xI x0), (xI x1), (xI x2), (xI x3), (xI x4), (xI x5), (xI x30.i)]; let v52 : X := Ff 260 [(xI x0), (xI x1), (xI x2), (xI x3), (xI x4), (xI x5), (xI v49.i), (xI v50.i), (xI v51.i)]; (((v52.i = x31.i) →
 Px 710 [(xI x0), (xI x1), (xI x2), (xI x3), (xI x4), (xI x5), x6, (xI v49.i), (xI v50.i), (xI v51.i)]) ∧
(let v55 : X := Ff 908 [(xI x0), (xI x1), (xI x2), (xI x3), (xI x4), (xI x5), x6, (xI v49.i), (xI v50.i), (xI v51.i)]; ((((¬ (v52.i = x31.i)) ∨ (¬ ((x6.r x30.i 0).i = v55.i))) →
(false = true)) ∧
((¬ ((¬ (v52.i = x31.i)) ∨ (¬ ((x6.r x30.i 0).i = v55.i)))) →
(((x31.i + 1) ≤ 2097152) ∧
(Px 992 [(xI x0), (xI x1), (xI x2), (xI x3), (xI x4), (xI x5), x6, (xI x7), (xI (x30.i + 1)), (xI (x31.i + 1))] ∧
(let v61 : X := Ff 992 [(xI x0), (xI x1), (xI x2), (xI x3), (xI x4), (xI x5), x6, (xI x7), (xI (x30.i + 1)), (xI (x31.i + 1))]; let v62 : X := Ff 992 [(xI x0), (xI x1), (xI x2), (xI x3), (xI x4), (xI x5), x6, (xI x7), x30, x31]; ((v61.i < v62.i) ∧
(0 < v62.i)))))))))))) ∧
((¬ (x30.i < x6.i)) →
(let v65 : X := Ff 210 [(xI x0), (xI x1), (xI x2), (xI x3), (xI x4), (xI x5)]; (((¬ (x31.i = v65.i)) →
(false = true)) ∧
((x31.i = v65.i) →
(Px 993 [(xI x0), (xI x1), (xI x2), (xI x3), (xI x4), (xI x5), x6, (xI x7), (xI 0), (xI 0)] ∧
(∀ x40 : X, (∀ x41 : X, (((0 ≤ x40.i) ∧ (x40.i ≤ 256)) →
(((0 ≤ x41.i) ∧ (x41.i ≤ 2097152)) →
(Px 993 [(xI x0), (xI x1), (xI x2), (xI x3), (xI x4), (xI x5), x6, (xI x7), x40, x41] →
(((x40.i < 256) →
(let v75 : X := Ff 716 [(xI x0), (xI x1), (xI x2), (xI x3), (xI x4), (xI x5), x6, (xI x40.i)]; ((0 ≤ (IntKind.wrap Go.IntKind.i64 (x41.i + v75.i))) ∧
(((IntKind.wrap Go.IntKind.i64 (x41.i + v75.i)) ≤ 2097152) ∧
(Px 993 [(xI x0), (xI x1), (xI x2), (xI x3), (xI x4), (xI x5), x6, (xI x7), (xI (x40.i + 1)), (xI (IntKind.wrap Go.IntKind.i64 (x41.i + v75.i)))] ∧
(let v79 : X := Ff 993 [(xI x0), (xI x1), (xI x2), (xI x3), (xI x4), (xI x5), x6, (xI x7), (xI (x40.i + 1)), (xI (IntKind.wrap Go.IntKind.i64 (x41.i + v75.i)))]; let v80 : X := Ff 993 [(xI x0), (xI x1), (xI x2), (xI x3), (xI x4), (xI x5), x6, (xI x7), x40, x41]; ((v79.i < v80.i) ∧
(0 < v80.i)))))))) ∧
((¬ (x40.i < 256)) →
(let v83 : X := Ff 716 [(xI x0), (xI x1), (xI x2), (xI x3), (xI x4), (xI x5), x6, (xI (-1))]; let v84 : X := Ff 716 [(xI x0), (xI x1), (xI x2), (xI x3), (xI x4), (xI x5), x6, (xI 256)]; (((x41.i = x6.i) ∧ (v83.i = 0)) ∧ (v84.i = 0))))))))))))))))))))))) ∧
((¬ ((x21.i + 1) = x7)) →
(((x21.i + 1) ≤ 2097152) ∧
(Px 992 [(xI x0), (xI x1), (xI x2), (xI x3), (xI x4), (xI x5), x6, (xI x7), (xI (x20.i + 1)), (xI (x21.i + 1))] ∧
(let v88 : X := Ff 992 [(xI x0), (xI x1), (xI x2), (xI x3), (xI x4), (xI x5), x6, (xI x7), (xI (x20.i + 1)), (xI (x21.i + 1))]; let v89 : X := Ff 992 [(xI x0), (xI x1), (xI x2), (xI x3), (xI x4), (xI x5), x6, (xI x7), x20, x21]; ((v88.i < v89.i) ∧
(0 < v89.i)))))))))))))) ∧
((¬ (x20.i < x6.i)) →
(Px 992 [(xI x0), (xI x1), (xI x2), (xI x3), (xI x4), (xI x5), x6, (xI x7), (xI 0), (xI 0)] ∧
(∀ x30 : X, (∀ x31 : X, (((0 ≤ x30.i) ∧ (x30.i ≤ 2097152)) →
(((0 ≤ x31.i) ∧ (x31.i ≤ 2097152)) →
(Px 992 [(xI x0), (xI x1), (xI x2), (xI x3), (xI x4), (xI x5), x6, (xI x7), x30, x31] →
(((x30.i < x6.i) →
((x30.i < x6.i) ∧
(let v99 : X := Ff 270 [(xI x0), (xI x1), (xI x2), (xI x3), (xI x4), (xI x5), (xI x30.i)]; let v100 : X := Ff 271 [(xI x0), (xI x1), (xI x2), (xI x3), (xI x4), (xI x5), (xI x30.i)]; let v101 : X := Ff 272 [(xI x0), (xI x1), (xI x2), (xI x3), (xI x4), (xI x5), (xI x30.i)]; let v102 : X := Ff 260 [(xI x0), (xI x1), (xI x2), (xI x3), (xI x4), (xI x5), (xI v99.i), (xI v100.i), (xI v101.i)]; (((v102.i = x31.i) →
 Px 710 [(xI x0), (xI x1), (xI x2), (xI x3), (xI x4), (xI x5), x6, (xI v99.i), (xI v100.i), (xI v101.i)]) ∧
(let v105 : X := Ff 908 [(xI x0), (xI x1), (xI x2), (xI x3), (xI x4), (xI x5), x6, (xI v99.i), (xI v100.i), (xI v101.i)]; ((((¬ (v102.i = x31.i)) ∨ (¬ ((x6.r x30.i 0).i = v105.i))) →
(false = true)) ∧
((¬ ((¬ (v102.i = x31.i)) ∨ (¬ ((x6.r x30.i 0).i = v105.i)))) →
(((x31.i + 1) ≤ 2097152) ∧
(Px 992 [(xI x0), (xI x1), (xI x2), (xI x3), (xI x4), (xI x5), x6, (xI x7), (xI (x30.i + 1)), (xI (x31.i + 1))] ∧
(let v111 : X := Ff 992 [(xI x0), (xI x1), (xI x2), (xI x3), (xI x4), (xI x5), x6, (xI x7), (xI (x30.i + 1)), (xI (x31.i + 1))]; let v112 : X := Ff 992 [(xI x0), (xI x1), (xI x2), (xI x3), (xI x4), (xI x5), x6, (xI x7), x30, x31]; ((v111.i < v112.i) ∧
(0 < v112.i)))))))))))) ∧
((¬ (x30.i < x6.i)) →
(let v115 : X := Ff 210 [(xI x0), (xI x1), (xI x2), (xI x3), (xI x4), (xI x5)]; (((¬ (x31.i = v115.i)) →
(false = true)) ∧
((x31.i = v115.i) →
(Px 993 [(xI x0), (xI x1), (xI x2), (xI x3), (xI x4), (xI x5), x6, (xI x7), (xI 0), (xI 0)] ∧
(∀ x40 : X, (∀ x41 : X, (((0 ≤ x40.i) ∧ (x40.i ≤ 256)) →
(((0 ≤ x41.i) ∧ (x41.i ≤ 2097152)) →
(Px 993 [(xI x0), (xI x1), (xI x2), (xI x3), (xI x4), (xI x5), x6, (xI x7), x40, x41] →
(((x40.i < 256) →
(let v125 : X := Ff 716 [(xI x0), (xI x1), (xI x2), (xI x3), (xI x4), (xI x5), x6, (xI x40.i)]; ((0 ≤ (IntKind.wrap Go.IntKind.i64 (x41.i + v125.i))) ∧
(((IntKind.wrap Go.IntKind.i64 (x41.i + v125.i)) ≤ 2097152) ∧
(Px 993 [(xI x0), (xI x1), (xI x2), (xI x3), (xI x4), (xI x5), x6, (xI x7), (xI (x40.i + 1)), (xI (IntKind.wrap Go.IntKind.i64 (x41.i + v125.i)))] ∧
(let v129 : X := Ff 993 [(xI x0), (xI x1), (xI x2), (xI x3), (xI x4), (xI x5), x6, (xI x7), (xI (x40.i + 1)), (xI (IntKind.wrap Go.IntKind.i64 (x41.i + v125.i)))]; let v130 : X := Ff 993 [(xI x0), (xI x1), (xI x2), (xI x3), (xI x4), (xI x5), x6, (xI x7), x40, x41]; ((v129.i < v130.i) ∧
(0 < v130.i)))))))) ∧
((¬ (x40.i < 256)) →
(let v133 : X := Ff 716 [(xI x0), (xI x1), (xI x2), (xI x3), (xI x4), (xI x5), x6, (xI (-1))]; let v134 : X := Ff 716 [(xI x0), (xI x1), (xI x2), (xI x3), (xI x4), (xI x5), x6, (xI 256)]; (((x41.i = x6.i) ∧ (v133.i = 0)) ∧ (v134.i = 0)))))))))))))))))))))))))))))))))))))))))))) ∧
(((1000 < x6.i) ∨ (¬ (v0.b = true))) →
(true = true))))
noncomputable def sh : List RSh := (shTs Tryd.prog [28, 3]).getD []
attribute [irreducible] sh
theorem link (x0 : Int) (x1 : Int) (x2 : Int) (x3 : Int) (x4 : Int) (x5 : Int) (x6 : X) (x7 : Int) : (walkR Tryd.prog (cfG none L07v R07 lpGV sumC) Tryd.f8 1600 sh).law { ρ0 with x := fun j => [xI x0, xI x1, xI x2, xI x3, xI x4, xI x5, x6, xI x7].getD j (xI 0) } = lawP x0 x1 x2 x3 x4 x5 x6 x7 := by kernel_rfl
set_option maxHeartbeats 4000000 in
theorem lawP_ok (x0 : Int) (x1 : Int) (x2 : Int) (x3 : Int) (x4 : Int) (x5 : Int) (x6 : X) (x7 : Int) (g0 : -9223372036854775808 ≤ x0 ∧ x0 ≤ 9223372036854775807) (g1 : -9223372036854775808 ≤ x1 ∧ x1 ≤ 9223372036854775807) (g2 : -9223372036854775808 ≤ x2 ∧ x2 ≤ 9223372036854775807) (g3 : -9223372036854775808 ≤ x3 ∧ x3 ≤ 9223372036854775807) (g4 : -9223372036854775808 ≤ x4 ∧ x4 ≤ 9223372036854775807) (g5 : -9223372036854775808 ≤ x5 ∧ x5 ≤ 9223372036854775807) (g6 : 0 ≤ x6.i ∧ x6.i ≤ 9223372036854775807 ∧ RowOk [.int .i64 (-9223372036854775808) (9223372036854775807)] x6.r x6.i.toNat) (g7 : -9223372036854775808 ≤ x7 ∧ x7 ≤ 9223372036854775807) : lawP x0 x1 x2 x3 x4 x5 x6 x7 := by
  unfold lawP
  intro v0
  refine And.intro ?_ ?_
  · intro h2
    refine And.intro ?_ ?_
    · intro h4
      rfl -- #0
    intro h5
    refine And.intro ?_ ?_
    · intro h7
      rfl -- #1
    intro h8
    refine And.intro ?_ ?_
    · intro h10
      rfl -- #2
    intro h11
    refine And.intro ?_ ?_
    · intro h13
      rfl -- #3
    intro h14
    refine And.intro ?_ ?_
    · intro h16
      rfl -- #4
    intro h17
    refine And.intro ?_ ?_
    · intro h19
      rfl -- #5
    intro h20
    have gv : validG ⟨bxI x0 x1 x2 x3 x4 x5, lstX deI x6⟩ = true := by
      cases hb : v0.b with
      | true => exact hb
      | false => exact absurd (.inr (by rw [hb]; decide)) h2
    have g6 : 0 ≤ x6.i := g6.1
    have hl := val_len gv
    rw [lstX_len] at hl
    have hv : (bxI x0 x1 x2 x3 x4 x5).vol = x6.i := by
      have hl : (bxI x0 x1 x2 x3 x4 x5).vol = (x6.i.toNat : Nat) := hl
      omega
    have hm : (lstX deI x6).all matB = true := val_mat gv
    have hL : ((lstX deI x6).length : Int) = x6.i := by
      rw [lstX_len]
      omega
    refine And.intro ?_ ?_
    · intro h22
      omega -- #6
    refine andI ?_ fun o23 => ?_
    · exact ⟨Int.le_refl _, g6, rfl⟩ -- #7
    intro x20
    intro x21
    intro h24
    intro h25
    intro p26
    obtain ⟨i0, i1, i2⟩ := p26
    have i2 : x21.i = x20.i := i2
    refine And.intro ?_ ?_
    · intro h28
      refine andI ?_ fun o29 => ?_
      · exact h28 -- #8
      intro v30
      intro v31
      intro v32
      intro v33
      have e33 : x20.i < x6.i → v33.i = x20.i := fun h => idx_at (b := bxI x0 x1 x2 x3 x4 x5) i0 (by show x20.i < (bxI x0 x1 x2 x3 x4 x5).vol; omega)
      refine And.intro ?_ ?_
      · intro h35
        exact gv -- #9
      intro v36
      have e36 : v36.i = (x6.r x20.i 0).i := getL_ix hv i0 h28
      refine And.intro ?_ ?_
      · intro h38
        skip -- #10
        rcases h38 with h | h
        · exact absurd ((e33 h28).trans i2.symm) h
        · exact absurd e36.symm h
      intro h39
      refine And.intro ?_ ?_
      · intro h41
        refine andI ?_ fun o42 => ?_
        · exact ⟨Int.le_refl _, g6, rfl⟩ -- #11
        intro x30
        intro x31
        intro h43
        intro h44
        intro p45
        obtain ⟨j0, j1, j2⟩ := p45
        have j2 : x31.i = x30.i := j2
        refine And.intro ?_ ?_
        · intro h47
          refine andI ?_ fun o48 => ?_
          · exact h47 -- #12
          intro v49
          intro v50
          intro v51
          intro v52
          refine And.intro ?_ ?_
          · intro h54
            exact gv -- #13
          intro v55
          have e52 : v52.i = x30.i := idx_at (b := bxI x0 x1 x2 x3 x4 x5) j0 (by show x30.i < (bxI x0 x1 x2 x3 x4 x5).vol; omega)
          have e55 : v55.i = (x6.r x30.i 0).i := getL_ix hv j0 h47
          refine And.intro ?_ ?_
          · intro h57
            skip -- #14
            rcases h57 with h | h
            · exact absurd (e52.trans j2.symm) h
            · exact absurd e55.symm h
          intro h58
          refine andI ?_ fun o59 => ?_
          · omega -- #15
          refine andI ?_ fun o60 => ?_
          · exact ⟨show 0 ≤ x30.i + 1 by omega, show x30.i + 1 ≤ x6.i by omega, show x31.i + 1 = x30.i + 1 by omega⟩ -- #16
          intro v61
          intro v62
          refine andI ?_ fun o63 => ?_
          · skip -- #17
            show x6.i + 1 - (x30.i + 1) < x6.i + 1 - x30.i
            omega
          skip -- #18
          show 0 < x6.i + 1 - x30.i
          omega
        intro h64
        intro v65
        have e65 : v65.i = x6.i := hv
        refine And.intro ?_ ?_
        · intro h67
          skip -- #19
          have j1 : x30.i ≤ x6.i := j1
          omega
        intro h68
        refine andI ?_ fun o69 => ?_
        · skip -- #20
          refine ⟨Int.le_refl _, ?_⟩
          show (0 : Int) = ((lstX deI x6).countP fun x => decide (0 ≤ x) && decide (x < 0) : Nat)
          rw [cp_zero]
          rfl
        intro x40
        intro x41
        intro h70
        intro h71
        intro p72
        obtain ⟨m0, m1⟩ := p72
        refine And.intro ?_ ?_
        · intro h74
          intro v75
          have e75 := cp_next (cs := lstX deI x6) (m := x40.i) (k := x41.i) (c := v75.i) m0 (by omega) m1 rfl
          refine andI ?_ fun o76 => ?_
          · exact e75.1 -- #21
          refine andI ?_ fun o77 => ?_
          · omega -- #22
          refine andI ?_ fun o78 => ?_
          · exact ⟨show 0 ≤ x40.i + 1 by omega, e75.2.2⟩ -- #23
          intro v79
          intro v80
          refine andI ?_ fun o81 => ?_
          · skip -- #24
            show 257 - (x40.i + 1) < 257 - x40.i
            omega
          skip -- #25
          show 0 < 257 - x40.i
          omega
        intro h82
        intro v83
        intro v84
        skip -- #26
        have e : x40.i = 256 := by omega
        have m1 : x41.i = ((lstX deI x6).countP fun x => decide (0 ≤ x) && decide (x < x40.i) : Nat) := m1
        rw [e, cp_all hm] at m1
        refine ⟨⟨by omega, ?_⟩, ?_⟩
        · show (((lstX deI x6).count (-1) : Nat) : Int) = 0
          rw [cnt_out hm (by decide)]
          rfl
        · show (((lstX deI x6).count 256 : Nat) : Int) = 0
          rw [cnt_out hm (by decide)]
          rfl
      intro h85
      refine andI ?_ fun o86 => ?_
      · omega -- #27
      refine andI ?_ fun o87 => ?_
      · exact ⟨show 0 ≤ x20.i + 1 by omega, show x20.i + 1 ≤ x6.i by omega, show x21.i + 1 = x20.i + 1 by omega⟩ -- #28
      intro v88
      intro v89
      refine andI ?_ fun o90 => ?_
      · skip -- #29
        show x6.i + 1 - (x20.i + 1) < x6.i + 1 - x20.i
        omega
      skip -- #30
      show 0 < x6.i + 1 - x20.i
      omega
    intro h91
    refine andI ?_ fun o92 => ?_
    · exact ⟨Int.le_refl _, g6, rfl⟩ -- #31
    intro x30
    intro x31
    intro h93
    intro h94
    intro p95
    obtain ⟨j0, j1, j2⟩ := p95
    have j2 : x31.i = x30.i := j2
    refine And.intro ?_ ?_
    · intro h97
      refine andI ?_ fun o98 => ?_
      · exact h97 -- #32
      intro v99
      intro v100
      intro v101
      intro v102
      refine And.intro ?_ ?_
      · intro h104
        exact gv -- #33
      intro v105
      have e102 : v102.i = x30.i := idx_at (b := bxI x0 x1 x2 x3 x4 x5) j0 (by show x30.i < (bxI x0 x1 x2 x3 x4 x5).vol; omega)
      have e105 : v105.i = (x6.r x30.i 0).i := getL_ix hv j0 h97
      refine And.intro ?_ ?_
      · intro h107
        skip -- #34
        rcases h107 with h | h
        · exact absurd (e102.trans j2.symm) h
        · exact absurd e105.symm h
      intro h108
      refine andI ?_ fun o109 => ?_
      · omega -- #35
      refine andI ?_ fun o110 => ?_
      · exact ⟨show 0 ≤ x30.i + 1 by omega, show x30.i + 1 ≤ x6.i by omega, show x31.i + 1 = x30.i + 1 by omega⟩ -- #36
      intro v111
      intro v112
      refine andI ?_ fun o113 => ?_
      · skip -- #37
        show x6.i + 1 - (x30.i + 1) < x6.i + 1 - x30.i
        omega
      skip -- #38
      show 0 < x6.i + 1 - x30.i
      omega
    intro h114
    intro v115
    have e115 : v115.i = x6.i := hv
    refine And.intro ?_ ?_
    · intro h117
      skip -- #39
      have j1 : x30.i ≤ x6.i := j1
      omega
    intro h118
    refine andI ?_ fun o119 => ?_
    · skip -- #40
      refine ⟨Int.le_refl _, ?_⟩
      show (0 : Int) = ((lstX deI x6).countP fun x => decide (0 ≤ x) && decide (x < 0) : Nat)
      rw [cp_zero]
      rfl
    intro x40
    intro x41
    intro h120
    intro h121
    intro p122
    obtain ⟨m0, m1⟩ := p122
    refine And.intro ?_ ?_
    · intro h124
      intro v125
      have e125 := cp_next (cs := lstX deI x6) (m := x40.i) (k := x41.i) (c := v125.i) m0 (by omega) m1 rfl
      refine andI ?_ fun o126 => ?_
      · exact e125.1 -- #41
      refine andI ?_ fun o127 => ?_
      · omega -- #42
      refine andI ?_ fun o128 => ?_
      · exact ⟨show 0 ≤ x40.i + 1 by omega, e125.2.2⟩ -- #43
      intro v129
      intro v130
      refine andI ?_ fun o131 => ?_
      · skip -- #44
        show 257 - (x40.i + 1) < 257 - x40.i
        omega
      skip -- #45
      show 0 < 257 - x40.i
      omega
    intro h132
    intro v133
    intro v134
    skip -- #46
    have e : x40.i = 256 := by omega
    have m1 : x41.i = ((lstX deI x6).countP fun x => decide (0 ≤ x) && decide (x < x40.i) : Nat) := m1
    rw [e, cp_all hm] at m1
    refine ⟨⟨by omega, ?_⟩, ?_⟩
    · show (((lstX deI x6).count (-1) : Nat) : Int) = 0
      rw [cnt_out hm (by decide)]
      rfl
    · show (((lstX deI x6).count 256 : Nat) : Int) = 0
      rw [cnt_out hm (by decide)]
      rfl
  intro h135
  rfl -- #47

/-! ### The frame -/
theorem shape_flat : flatR sh = [.int .i64 (-9223372036854775808) 9223372036854775807, .int .i64 (-9223372036854775808) 9223372036854775807, .int .i64 (-9223372036854775808) 9223372036854775807, .int .i64 (-9223372036854775808) 9223372036854775807, .int .i64 (-9223372036854775808) 9223372036854775807, .int .i64 (-9223372036854775808) 9223372036854775807, .row [.int .i64 (-9223372036854775808) (9223372036854775807)] 9223372036854775807, .int .i64 (-9223372036854775808) 9223372036854775807] := by kernel_rfl
theorem lawful (ds : Ds) (hr : rshX sh ds) : (walkR Tryd.prog (cfG none L07v R07 lpGV sumC) Tryd.f8 1600 sh).law { ρ0 with x := fun j => ds.getD j (xI 0) } := by
  have hr := rshX_flat hr
  rw [shape_flat] at hr
  match ds, hr with
  | [d0, d1, d2, d3, d4, d5, d6, d7], hr =>
    obtain ⟨⟨e0, l0, u0⟩, ⟨e1, l1, u1⟩, ⟨e2, l2, u2⟩, ⟨e3, l3, u3⟩, ⟨e4, l4, u4⟩, ⟨e5, l5, u5⟩, l6, ⟨e7, l7, u7⟩, _⟩ := hr
    generalize d0.i = x0 at *
    generalize d1.i = x1 at *
    generalize d2.i = x2 at *
    generalize d3.i = x3 at *
    generalize d4.i = x4 at *
    generalize d5.i = x5 at *
    generalize d6 = x6 at *
    generalize d7.i = x7 at *
    subst e0 e1 e2 e3 e4 e5 e7
    exact Eq.mpr (link x0 x1 x2 x3 x4 x5 x6 x7) (lawP_ok x0 x1 x2 x3 x4 x5 x6 x7 ⟨l0, u0⟩ ⟨l1, u1⟩ ⟨l2, u2⟩ ⟨l3, u3⟩ ⟨l4, u4⟩ ⟨l5, u5⟩ l6 ⟨l7, u7⟩)
theorem shape {H : Type} {ds : List (DataW H)} (h : ds.length = 2) : Rows.gridVisitsAllSpec.fn H ds = { results := [.lit (.bool true)], args := ds } := by
  match ds, h with
  | [d1, d2], _ => rfl
set_option maxRecDepth 100000 in
theorem calls {H : Type} {enc : TypeId × Value → H} (W : World) (base : Nat) (args : Array Value) (ds : List (DataW H)) (p : List MemPlace) (hval : ∀ (j : Nat) t v, Tryd.f8.params[j]? = some t → args[j]? = some v → Value.okWide Tryd.prog W .any base t v)
    (hA : DataW.TrodAll enc Tryd.prog W 0 (fun _ => true) true Tryd.f8.params.toList args.toList ds p) (hg : GlobOk ρ0.g W.heap.size W) : Calls Tryd.prog 8 args W fun e w' => e = .returned (.bool true) ∧ Below W.heap.size W w' := by
  rw [Tryd.params8] at hA hval
  have hs : shTs Tryd.prog [28, 3] = some sh := by
    have : (shTs Tryd.prog [28, 3]).isSome = true := by kernel_rfl
    obtain ⟨s, h⟩ := Option.isSome_iff_exists.1 this
    unfold sh
    rw [h]; rfl
  obtain ⟨ds', hr⟩ := args_rel hA (fun i t v ht hv => hval i t v (by simpa using ht) (by simpa using hv)) hs
  have := law_callsR (L07v_ok) Tryd.func8 rfl 1600 hg hr lawful
  simpa using this
set_option maxRecDepth 100000 in
theorem lifted (os : Os) (started : os.Started) (H : Type) (enc : TypeId × Value → H) :
    ReturnsInHanded {} Tryd.checked os 8 .any (fun w args => (Rows.gridVisitsAllSpec.pre enc Tryd.prog Tryd.f8 [] false w args ∧ laidMetH Tryd.prog [("voxel/point.axes", Rows.laid_voxel_point_axes)] w) ∧ sizedMet enc Tryd.prog Tryd.f8 (OpenSpec.ofChange Rows.gridVisitsAllSpec) false w args)
      (Rows.gridVisitsAllSpec.post enc Tryd.prog Tryd.f8 false true false false) := by
  refine returnsInHanded_of_change_and (C := Tryd.checked) (X := fun w _ => laidMetH Tryd.prog [("voxel/point.axes", Rows.laid_voxel_point_axes)] w) (fun _ _ _ hh h => h.of_heap hh) own started (by kernel_rfl) Tryd.func8
    (ChangeSpec.witness_shaped (enc := enc) (C := Tryd.checked) (os := os) (X := fun w _ => laidMetH Tryd.prog [("voxel/point.axes", Rows.laid_voxel_point_axes)] w) false (World.doorLaid Tryd.prog 400 os) #[((Tryd.prog.info? 28).bind (·.zero)).getD undef, ((Tryd.prog.info? 3).bind (·.zero)).getD undef] 8 rfl (World.shaped_of_RefB (by kernel_rfl) (by kernel_rfl)) (by kernel_rfl) (by kernel_rfl) (by kernel_rfl) (door_met os _)) ?_
  intro W base args ds gs before hval hW _ _ hL _
  have hW0 := hW
  obtain ⟨p, q, hA, hV, _⟩ := hW0
  have hlen : ds.length = 2 := (trodAll_len hA).trans (by kernel_rfl)
  refine (calls W base args ds p hval hA (glob_ok hL)).mono fun e W' ⟨he, hb⟩ => ?_
  subst he
  exact ⟨_, rfl, law_post kids slices (by rw [Tryd.params8]; decide +kernel) rfl rfl Tryd.underlying4 (shape hlen) hW hb⟩

theorem over : Rows.GridVisitsAllSaid :=
  OpenClaim.holds_of_wide 8 Tryd.f8 rfl rfl rfl rfl rfl rfl rfl ⟨rfl, rfl, rfl, rfl, rfl⟩ rfl rfl rfl rfl rfl (by kernel_rfl) Tryd.func8 (by kernel_rfl)
    (of_decide_eq_true (by kernel_rfl)) (by unfold Func.isWrapper; first | (rw [if_pos (by decide +kernel)]; kernel_rfl) | (rw [if_neg (by decide +kernel)]; exact ⟨rfl, rfl⟩))
    (fun os started H enc _ => lifted os started H enc)

/-- The statement: the row, its listed variable tied to the program's text. -/
theorem proved : Rows.GridVisitsAllCardSaid :=
  Claim7.holds_tied_plain_at .later [] [.data] true (true, "127ed38f03d5299d2a50fe8d6cb549502e2ebfd838967b6e2d31f5f549e46494") false
    over (fun _ h => by cases h) (by kernel_rfl) (fun _ h => by cases h) gridVisitsAll_row_tie rfl ⟨rfl, rfl⟩ (by kernel_rfl) rfl
    (fun f fn hf hfn => by
      obtain rfl : f = 8 := Option.some.inj ((show Tryd.prog.funcNamed "voxel/voxellaw07.GridVisitsAll" = some 8 by kernel_rfl).symm.trans hf) |>.symm
      obtain rfl : fn = Tryd.f8 := (Option.some.inj (Tryd.func8.symm.trans hfn)).symm
      exact ⟨by kernel_rfl, fun j t ht => by
        rw [Tryd.params8] at ht
        have hm : t ∈ [28, 3] := by simpa using Array.mem_of_getElem? ht
        have hall : ([28, 3].all fun u => !Tryd.prog.wantsStandIn u) = true := by kernel_rfl
        exact (show Tryd.prog.wantsStandIn t = false by simpa using List.all_eq_true.1 hall t hm)⟩)
    (by kernel_rfl)
#print axioms proved
end Go.Proofs.YtleapeclbkclaaaDoor.gridVisitsAll
