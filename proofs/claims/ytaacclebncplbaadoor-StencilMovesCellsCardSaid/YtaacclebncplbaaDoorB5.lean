/- Proved: StencilMovesCells: the statement 'StencilMovesCellsCardSaid' of this seat, for every input that it names; no condition besides. -/
import Derived.Test.YtaacclebncplbaaDoorC20T
import Derived.Test.YtaacclebncplbaaDoorC20N
import Derived.Test.YtaacclebncplbaaDoorRows
import Derived.Test.YtaacclebncplbaaDoorCards
import Derived.Test.YtaacclebncplbaaDoorTie
import Derived.SevenTiedAt
import Derived.ProofKit
import Derived.LaidMore
import Derived.Stop.Joined
namespace Go.Proofs.YtaacclebncplbaaDoor.stencilMovesCells
open Go Go.ChangeShapes Go.WideShapes Go.ChangeAt Go.RowKit Vc
set_option linter.unusedVariables false
def lawP (x0 x1 x2 x3 x4 x5 : Int) (x6 : X) (x7 x8 x9 x10 x11 x12 x13 x14 x15 x16 : Int) : Prop :=
(let v0 := Ff 700 [xI x0, xI x1, xI x2, xI x3, xI x4, xI x5, x6]; ((((¬ (((v0.b = true) ∧ (x6.i ≤ 520)) ∧ ((((((((-1000) ≤ x0) ∧ ((-1000) ≤ x1)) ∧ ((-1000) ≤ x2)) ∧ (x0 ≤ 1000)) ∧ (x1 ≤ 1000)) ∧ (x2 ≤ 1000)) ∧ (((((((-1000) ≤ x3) ∧ ((-1000) ≤ x4)) ∧ ((-1000) ≤ x5)) ∧ (x3 ≤ 1000)) ∧ (x4 ≤ 1000)) ∧ (x5 ≤ 1000))))) ∨ (¬ ((((((((((-1000) ≤ x7) ∧ ((-1000) ≤ x8)) ∧ ((-1000) ≤ x9)) ∧ (x7 ≤ 1000)) ∧ (x8 ≤ 1000)) ∧ (x9 ≤ 1000)) ∧ (((((((-1000) ≤ x10) ∧ ((-1000) ≤ x11)) ∧ ((-1000) ≤ x12)) ∧ (x10 ≤ 1000)) ∧ (x11 ≤ 1000)) ∧ (x12 ≤ 1000))) ∧ ((((((((-1000) ≤ x14) ∧ ((-1000) ≤ x15)) ∧ ((-1000) ≤ x16)) ∧ (x14 ≤ 1000)) ∧ (x15 ≤ 1000)) ∧ (x16 ≤ 1000)) ∧ (((((((-1000) ≤ x14) ∧ ((-1000) ≤ x15)) ∧ ((-1000) ≤ x16)) ∧ (x14 ≤ 1000)) ∧ (x15 ≤ 1000)) ∧ (x16 ≤ 1000)))) ∧ ((IntKind.wrap Go.IntKind.i64 ((IntKind.wrap Go.IntKind.i64 ((bif (((decide (x10 ≤ x7)) || (decide (x11 ≤ x8))) || (decide (x12 ≤ x9))) then 0 else (IntKind.wrap Go.IntKind.i64 (x10 - x7))) * (bif (((decide (x10 ≤ x7)) || (decide (x11 ≤ x8))) || (decide (x12 ≤ x9))) then 0 else (IntKind.wrap Go.IntKind.i64 (x11 - x8))))) * (bif (((decide (x10 ≤ x7)) || (decide (x11 ≤ x8))) || (decide (x12 ≤ x9))) then 0 else (IntKind.wrap Go.IntKind.i64 (x12 - x9))))) ≤ 520)))) →
(true = true)) ∧
((¬ ((¬ (((v0.b = true) ∧ (x6.i ≤ 520)) ∧ ((((((((-1000) ≤ x0) ∧ ((-1000) ≤ x1)) ∧ ((-1000) ≤ x2)) ∧ (x0 ≤ 1000)) ∧ (x1 ≤ 1000)) ∧ (x2 ≤ 1000)) ∧ (((((((-1000) ≤ x3) ∧ ((-1000) ≤ x4)) ∧ ((-1000) ≤ x5)) ∧ (x3 ≤ 1000)) ∧ (x4 ≤ 1000)) ∧ (x5 ≤ 1000))))) ∨ (¬ ((((((((((-1000) ≤ x7) ∧ ((-1000) ≤ x8)) ∧ ((-1000) ≤ x9)) ∧ (x7 ≤ 1000)) ∧ (x8 ≤ 1000)) ∧ (x9 ≤ 1000)) ∧ (((((((-1000) ≤ x10) ∧ ((-1000) ≤ x11)) ∧ ((-1000) ≤ x12)) ∧ (x10 ≤ 1000)) ∧ (x11 ≤ 1000)) ∧ (x12 ≤ 1000))) ∧ ((((((((-1000) ≤ x14) ∧ ((-1000) ≤ x15)) ∧ ((-1000) ≤ x16)) ∧ (x14 ≤ 1000)) ∧ (x15 ≤ 1000)) ∧ (x16 ≤ 1000)) ∧ (((((((-1000) ≤ x14) ∧ ((-1000) ≤ x15)) ∧ ((-1000) ≤ x16)) ∧ (x14 ≤ 1000)) ∧ (x15 ≤ 1000)) ∧ (x16 ≤ 1000)))) ∧ ((IntKind.wrap Go.IntKind.i64 ((IntKind.wrap Go.IntKind.i64 ((bif (((decide (x10 ≤ x7)) || (decide (x11 ≤ x8))) || (decide (x12 ≤ x9))) then 0 else (IntKind.wrap Go.IntKind.i64 (x10 - x7))) * (bif (((decide (x10 ≤ x7)) || (decide (x11 ≤ x8))) || (decide (x12 ≤ x9))) then 0 else (IntKind.wrap Go.IntKind.i64 (x11 - x8))))) * (bif (((decide (x10 ≤ x7)) || (decide (x11 ≤ x8))) || (decide (x12 ≤ x9))) then 0 else (IntKind.wrap Go.IntKind.i64 (x12 - x9))))) ≤ 520))))) →
(Px 1083 [xI x0, xI x1, xI x2, xI x3, xI x4, xI x5, x6, xI x7, xI x8, xI x9, xI x10, xI x11, xI x12, xI x13, xI x14, xI x15, xI x16] ∧
(let v5 := Ff 1031 [xI x0, xI x1, xI x2, xI x3, xI x4, xI x5, x6, xI x7, xI x8, xI x9, xI x10, xI x11, xI x12, xI x13, xI x14, xI x15, xI x16]; (((¬ (v5.i = 0)) →
(let v8 := Ff 1030 [xI x0, xI x1, xI x2, xI x3, xI x4, xI x5, x6, xI x7, xI x8, xI x9, xI x10, xI x11, xI x12, xI x13, xI x14, xI x15, xI x16]; ((v5.i = 1) ∧ (v8.i = 0)))) ∧
((v5.i = 0) →
(Px 1078 [xI 0] ∧
(∀ x20 : X, (((0 ≤ x20.i) ∧ (x20.i ≤ 2097152)) →
(Px 1078 [x20] →
(let v13 := Ff 1030 [xI x0, xI x1, xI x2, xI x3, xI x4, xI x5, x6, xI x7, xI x8, xI x9, xI x10, xI x11, xI x12, xI x13, xI x14, xI x15, xI x16]; (((x20.i < v13.i) →
(let v16 := Ff 908 [xI x0, xI x1, xI x2, xI x3, xI x4, xI x5, x6, (xI (v13.r x20.i 0).i), (xI (v13.r x20.i 1).i), (xI (v13.r x20.i 2).i)]; (((v16.i = (v13.r x20.i 3).i) →
(x20.i < v13.i)) ∧
(((v16.i = (v13.r x20.i 3).i) →
(x20.i < v13.i)) ∧
((x20.i < v13.i) ∧
(Px 710 [xI x0, xI x1, xI x2, xI x3, xI x4, xI x5, x6, (xI (v13.r x20.i 0).i), (xI (v13.r x20.i 1).i), (xI (v13.r x20.i 2).i)] ∧
((x20.i < v13.i) ∧
((((¬ (v16.i = (v13.r x20.i 3).i)) ∨ ((v13.r x20.i 3).i = (v13.r x20.i 4).i)) →
(false = true)) ∧
((¬ ((¬ (v16.i = (v13.r x20.i 3).i)) ∨ ((v13.r x20.i 3).i = (v13.r x20.i 4).i))) →
(Px 1078 [(xI (x20.i + 1))] ∧
(let v28 := Ff 1078 [(xI (x20.i + 1))]; let v29 := Ff 1078 [x20]; ((v28.i < v29.i) ∧
(0 < v29.i))))))))))))) ∧
((¬ (x20.i < v13.i)) →
(Px 917 [xI x0, xI x1, xI x2, xI x3, xI x4, xI x5, x6, v13] ∧
(Px 1078 [xI 0] ∧
(∀ x30 : X, (((0 ≤ x30.i) ∧ (x30.i ≤ 2097152)) →
(Px 1078 [x30] →
(((x30.i < x6.i) →
(let v38 := Ff 270 [xI x0, xI x1, xI x2, xI x3, xI x4, xI x5, xI x30.i]; let v39 := Ff 271 [xI x0, xI x1, xI x2, xI x3, xI x4, xI x5, xI x30.i]; let v40 := Ff 272 [xI x0, xI x1, xI x2, xI x3, xI x4, xI x5, xI x30.i]; (Px 710 [xI x0, xI x1, xI x2, xI x3, xI x4, xI x5, x6, xI v38.i, xI v39.i, xI v40.i] ∧
(Px 1082 [xI x7, xI x8, xI x9, xI x10, xI x11, xI x12, xI x13, xI x14, xI x15, xI x16, xI v38.i, xI v39.i, xI v40.i] ∧
(let v43 := Ff 1023 [xI x7, xI x8, xI x9, xI x10, xI x11, xI x12, xI x13, xI x14, xI x15, xI x16, xI v38.i, xI v39.i, xI v40.i]; (((v43.b = true) →
(let v46 := Ff 1020 [xI x7, xI x8, xI x9, xI x10, xI x11, xI x12, xI x13, xI x14, xI x15, xI x16, xI v38.i, xI v39.i, xI v40.i]; let v47 := Ff 1021 [xI x7, xI x8, xI x9, xI x10, xI x11, xI x12, xI x13, xI x14, xI x15, xI x16, xI v38.i, xI v39.i, xI v40.i]; let v48 := Ff 1022 [xI x7, xI x8, xI x9, xI x10, xI x11, xI x12, xI x13, xI x14, xI x15, xI x16, xI v38.i, xI v39.i, xI v40.i]; (Px 710 [xI x0, xI x1, xI x2, xI x3, xI x4, xI x5, x6, xI v46.i, xI v47.i, xI v48.i] ∧
(let v50 := Ff 910 [xI x0, xI x1, xI x2, xI x3, xI x4, xI x5, x6, v13]; let v51 := Ff 911 [xI x0, xI x1, xI x2, xI x3, xI x4, xI x5, x6, v13]; let v52 := Ff 912 [xI x0, xI x1, xI x2, xI x3, xI x4, xI x5, x6, v13]; let v53 := Ff 913 [xI x0, xI x1, xI x2, xI x3, xI x4, xI x5, x6, v13]; let v54 := Ff 914 [xI x0, xI x1, xI x2, xI x3, xI x4, xI x5, x6, v13]; let v55 := Ff 915 [xI x0, xI x1, xI x2, xI x3, xI x4, xI x5, x6, v13]; let v56 := Ff 916 [xI x0, xI x1, xI x2, xI x3, xI x4, xI x5, x6, v13]; (Px 710 [xI v50.i, xI v51.i, xI v52.i, xI v53.i, xI v54.i, xI v55.i, v56, xI v38.i, xI v39.i, xI v40.i] ∧
(let v58 := Ff 908 [xI v50.i, xI v51.i, xI v52.i, xI v53.i, xI v54.i, xI v55.i, v56, xI v38.i, xI v39.i, xI v40.i]; let v59 := Ff 908 [xI x0, xI x1, xI x2, xI x3, xI x4, xI x5, x6, xI v46.i, xI v47.i, xI v48.i]; (((¬ (v58.i = v59.i)) →
(false = true)) ∧
((v58.i = v59.i) →
(Px 1078 [(xI (x30.i + 1))] ∧
(let v64 := Ff 1078 [(xI (x30.i + 1))]; let v65 := Ff 1078 [x30]; ((v64.i < v65.i) ∧
(0 < v65.i)))))))))))) ∧
((¬ (v43.b = true)) →
(let v68 := Ff 910 [xI x0, xI x1, xI x2, xI x3, xI x4, xI x5, x6, v13]; let v69 := Ff 911 [xI x0, xI x1, xI x2, xI x3, xI x4, xI x5, x6, v13]; let v70 := Ff 912 [xI x0, xI x1, xI x2, xI x3, xI x4, xI x5, x6, v13]; let v71 := Ff 913 [xI x0, xI x1, xI x2, xI x3, xI x4, xI x5, x6, v13]; let v72 := Ff 914 [xI x0, xI x1, xI x2, xI x3, xI x4, xI x5, x6, v13]; let v73 := Ff 915 [xI x0, xI x1, xI x2, xI x3, xI x4, xI x5, x6, v13]; let v74 := Ff 916 [xI x0, xI x1, xI x2, xI x3, xI x4, xI x5, x6, v13]; (Px 710 [xI v68.i, xI v69.i, xI v70.i, xI v71.i, xI v72.i, xI v73.i, v74, xI v38.i, xI v39.i, xI v40.i] ∧
(let v76 := Ff 908 [xI v68.i, xI v69.i, xI v70.i, xI v71.i, xI v72.i, xI v73.i, v74, xI v38.i, xI v39.i, xI v40.i]; let v77 := Ff 908 [xI x0, xI x1, xI x2, xI x3, xI x4, xI x5, x6, xI v38.i, xI v39.i, xI v40.i]; (((¬ (v76.i = v77.i)) →
(false = true)) ∧
((v76.i = v77.i) →
(Px 1078 [(xI (x30.i + 1))] ∧
(let v82 := Ff 1078 [(xI (x30.i + 1))]; let v83 := Ff 1078 [x30]; ((v82.i < v83.i) ∧
(0 < v83.i)))))))))))))))) ∧
((¬ (x30.i < x6.i)) →
(true = true))))))))))))))))))))))
noncomputable def sh : List RSh := (shTs Tryd.prog [39, 25, 3, 23]).getD []
attribute [irreducible] sh
theorem link (x0 x1 x2 x3 x4 x5 : Int) (x6 : X) (x7 x8 x9 x10 x11 x12 x13 x14 x15 x16 : Int) : (walkR Tryd.prog (cfG none L20 R20 lpMov sumC) Tryd.f5 1600 sh).law { ρ0 with x := fun j => [xI x0, xI x1, xI x2, xI x3, xI x4, xI x5, x6, xI x7, xI x8, xI x9, xI x10, xI x11, xI x12, xI x13, xI x14, xI x15, xI x16].getD j (xI 0) } = lawP x0 x1 x2 x3 x4 x5 x6 x7 x8 x9 x10 x11 x12 x13 x14 x15 x16 := by kernel_rfl
set_option maxHeartbeats 4000000 in
theorem lawP_ok (x0 x1 x2 x3 x4 x5 : Int) (x6 : X) (x7 x8 x9 x10 x11 x12 x13 x14 x15 x16 : Int) (g0 : -9223372036854775808 ≤ x0 ∧ x0 ≤ 9223372036854775807) (g1 : -9223372036854775808 ≤ x1 ∧ x1 ≤ 9223372036854775807) (g2 : -9223372036854775808 ≤ x2 ∧ x2 ≤ 9223372036854775807) (g3 : -9223372036854775808 ≤ x3 ∧ x3 ≤ 9223372036854775807) (g4 : -9223372036854775808 ≤ x4 ∧ x4 ≤ 9223372036854775807) (g5 : -9223372036854775808 ≤ x5 ∧ x5 ≤ 9223372036854775807) (g6 : 0 ≤ x6.i ∧ x6.i ≤ 9223372036854775807 ∧ RowOk [.int .i64 (-9223372036854775808) (9223372036854775807)] x6.r x6.i.toNat) (g7 : -9223372036854775808 ≤ x7 ∧ x7 ≤ 9223372036854775807) (g8 : -9223372036854775808 ≤ x8 ∧ x8 ≤ 9223372036854775807) (g9 : -9223372036854775808 ≤ x9 ∧ x9 ≤ 9223372036854775807) (g10 : -9223372036854775808 ≤ x10 ∧ x10 ≤ 9223372036854775807) (g11 : -9223372036854775808 ≤ x11 ∧ x11 ≤ 9223372036854775807) (g12 : -9223372036854775808 ≤ x12 ∧ x12 ≤ 9223372036854775807) (g13 : -9223372036854775808 ≤ x13 ∧ x13 ≤ 9223372036854775807) (g14 : -9223372036854775808 ≤ x14 ∧ x14 ≤ 9223372036854775807) (g15 : -9223372036854775808 ≤ x15 ∧ x15 ≤ 9223372036854775807) (g16 : -9223372036854775808 ≤ x16 ∧ x16 ≤ 9223372036854775807) : lawP x0 x1 x2 x3 x4 x5 x6 x7 x8 x9 x10 x11 x12 x13 x14 x15 x16 := by
  unfold lawP
  intro v0
  refine And.intro ?_ ?_
  · intro h2
    rfl
  intro h3
  obtain ⟨ha, hb⟩ := not_or.1 h3
  have ha := Decidable.not_not.1 ha
  have hb := Decidable.not_not.1 hb
  have gv : validG ⟨(bxI x0 x1 x2 x3 x4 x5), lstX deI x6⟩ = true := ha.1.1
  have hN : nB 1000 (bxI x7 x8 x9 x10 x11 x12) := by
    have := hb.1.1
    show ((-1000 ≤ x7 ∧ x7 ≤ 1000) ∧ (-1000 ≤ x8 ∧ x8 ≤ 1000) ∧ (-1000 ≤ x9 ∧ x9 ≤ 1000)) ∧ (-1000 ≤ x10 ∧ x10 ≤ 1000) ∧ (-1000 ≤ x11 ∧ x11 ≤ 1000) ∧ (-1000 ≤ x12 ∧ x12 ≤ 1000)
    omega
  have hP : nP 1000 (x14, x15, x16) := by
    have := hb.1.2.1
    show (-1000 ≤ x14 ∧ x14 ≤ 1000) ∧ (-1000 ≤ x15 ∧ x15 ≤ 1000) ∧ (-1000 ≤ x16 ∧ x16 ≤ 1000)
    omega
  have hV : (bxI x7 x8 x9 x10 x11 x12).vol ≤ 520 := vol_wr hN hb.2
  have hl := val_len gv
  have hL : ((lstX deI x6).length : Int) = x6.i := by
    rw [lstX_len]
    omega
  refine andI ?_ fun o4 => ?_
  · exact ⟨gv, nB_mono hN (by decide), nP_mono hP (by decide)⟩
  intro v5
  have e5 : v5.i = if inT x13 then (if 2097152 < (bxI x7 x8 x9 x10 x11 x12).vol then 2 else 0) else 1 := rfl
  rw [if_neg (show ¬ 2097152 < (bxI x7 x8 x9 x10 x11 x12).vol by omega)] at e5
  refine And.intro ?_ ?_
  · intro h7 v8
    have h5 : v5.i = 1 := by
      split at e5
      · exact absurd e5 h7
      · exact e5
    refine ⟨h5, ?_⟩
    show ((cpL (bxI x0 x1 x2 x3 x4 x5) (lstX deI x6) (bxI x0 x1 x2 x3 x4 x5) (lstX deI x6) (bxI x7 x8 x9 x10 x11 x12) x13 (x14, x15, x16)).length : Int) = 0
    unfold cpL
    rw [if_neg (show ¬ cpE (bxI x7 x8 x9 x10 x11 x12) x13 = 0 from h7)]
    rfl
  intro h9
  refine andI ?_ fun o10 => ?_
  · exact Int.le_refl _
  intro x20 h11 p12 v13
  have e13 : lstX deC v13 = chL (bxI x0 x1 x2 x3 x4 x5) (lstX deI x6) (cpF (bxI x0 x1 x2 x3 x4 x5) (lstX deI x6) (bxI x7 x8 x9 x10 x11 x12) x13 (x14, x15, x16)) := lst_rowC.trans (if_pos h9)
  refine And.intro ?_ ?_
  · intro h15 v16
    refine And.intro ?_ ?_
    · intro h18
      exact h15
    refine And.intro ?_ ?_
    · intro h20
      exact h15
    refine andI ?_ fun o21 => ?_
    · exact h15
    refine andI ?_ fun o22 => ?_
    · exact gv
    refine andI ?_ fun o23 => ?_
    · exact h15
    refine And.intro ?_ ?_
    · intro h25
      have hm := lx_mem (dec := deC) (l := v13) h11.1 h15
      rw [e13] at hm
      obtain ⟨i, hi, e1, e2, e3, e4⟩ := chC_mem hm
      have e16 : v16.i = (v13.r x20.i 3).i := by
        show getL (bxI x0 x1 x2 x3 x4 x5) (lstX deI x6) (deC (v13.r x20.i)).1 = (deC (v13.r x20.i)).2.1
        rw [e1, e2, getL_at (n := 0) rfl (by have hl : (bxI x0 x1 x2 x3 x4 x5).vol = (lstX deI x6).length := hl; omega)]
      rcases h25 with h | h
      · exact absurd e16 h
      · exact absurd h.symm e4
    intro h26
    refine andI ?_ fun o27 => ?_
    · show 0 ≤ x20.i + 1
      omega
    intro v28 v29
    refine andI ?_ fun o30 => ?_
    · show 3000000 - (x20.i + 1) < 3000000 - x20.i
      omega
    show 0 < 3000000 - x20.i
    omega
  intro h31
  have hch : ∀ c ∈ chL (bxI x0 x1 x2 x3 x4 x5) (lstX deI x6) (cpF (bxI x0 x1 x2 x3 x4 x5) (lstX deI x6) (bxI x7 x8 x9 x10 x11 x12) x13 (x14, x15, x16)), chgB c := fun c hc => cp_chg gv (val_mat gv) hc
  have gw : validG ⟨(bxI x0 x1 x2 x3 x4 x5), wrL (bxI x0 x1 x2 x3 x4 x5) (lstX deI x6) (lstX deC v13)⟩ = true := by
    rw [e13]
    exact wr_val gv fun c hc => (hch c hc).2.2.2
  refine andI ?_ fun o32 => ?_
  · refine ⟨gv, fun k hk => ?_⟩
    have hm := lx_mem (dec := deC) (l := v13) (k := (k : Int)) (by omega) hk
    rw [e13] at hm
    exact hch _ hm
  refine andI ?_ fun o33 => ?_
  · exact Int.le_refl _
  intro x30 h34 p35
  refine And.intro ?_ ?_
  · intro h37
    have hg := cp_get (sb := (bxI x0 x1 x2 x3 x4 x5)) (scs := lstX deI x6) (b' := (bxI x7 x8 x9 x10 x11 x12)) (k := x13) (a := (x14, x15, x16)) gv h34.1 (show x30.i < ((lstX deI x6).length : Int) by omega)
    intro v38 v39 v40
    refine andI ?_ fun o41 => ?_
    · exact gv
    refine andI ?_ fun o42 => ?_
    · exact ⟨nB_mono hN (by decide), nP_mono hP (by decide)⟩
    intro v43
    refine And.intro ?_ ?_
    · intro h45 v46 v47 v48
      refine andI ?_ fun o49 => ?_
      · exact gv
      intro v50 v51 v52 v53 v54 v55 v56
      have e56 : lstX deI v56 = wrL (bxI x0 x1 x2 x3 x4 x5) (lstX deI x6) (lstX deC v13) := lst_rowI
      refine andI ?_ fun o57 => ?_
      · show validG ⟨(bxI x0 x1 x2 x3 x4 x5), lstX deI v56⟩ = true
        rw [e56]
        exact gw
      intro v58 v59
      refine And.intro ?_ ?_
      · intro h61
        refine absurd ?_ h61
        show getL (bxI x0 x1 x2 x3 x4 x5) (lstX deI v56) ((bxI x0 x1 x2 x3 x4 x5).at x30.i) = getL (bxI x0 x1 x2 x3 x4 x5) (lstX deI x6) (sr2 (bxI x7 x8 x9 x10 x11 x12) x13 (x14, x15, x16) ((bxI x0 x1 x2 x3 x4 x5).at x30.i)).1
        rw [e56, e13, hg, if_pos (show (sr2 (bxI x7 x8 x9 x10 x11 x12) x13 (x14, x15, x16) ((bxI x0 x1 x2 x3 x4 x5).at x30.i)).2 = true from h45)]
      intro h62
      refine andI ?_ fun o63 => ?_
      · show 0 ≤ x30.i + 1
        omega
      intro v64 v65
      refine andI ?_ fun o66 => ?_
      · show 3000000 - (x30.i + 1) < 3000000 - x30.i
        omega
      show 0 < 3000000 - x30.i
      omega
    intro h67 v68 v69 v70 v71 v72 v73 v74
    have e74 : lstX deI v74 = wrL (bxI x0 x1 x2 x3 x4 x5) (lstX deI x6) (lstX deC v13) := lst_rowI
    refine andI ?_ fun o75 => ?_
    · show validG ⟨(bxI x0 x1 x2 x3 x4 x5), lstX deI v74⟩ = true
      rw [e74]
      exact gw
    intro v76 v77
    refine And.intro ?_ ?_
    · intro h79
      refine absurd ?_ h79
      show getL (bxI x0 x1 x2 x3 x4 x5) (lstX deI v74) ((bxI x0 x1 x2 x3 x4 x5).at x30.i) = getL (bxI x0 x1 x2 x3 x4 x5) (lstX deI x6) ((bxI x0 x1 x2 x3 x4 x5).at x30.i)
      rw [e74, e13, hg, if_neg (show ¬ (sr2 (bxI x7 x8 x9 x10 x11 x12) x13 (x14, x15, x16) ((bxI x0 x1 x2 x3 x4 x5).at x30.i)).2 = true from h67)]
    intro h80
    refine andI ?_ fun o81 => ?_
    · show 0 ≤ x30.i + 1
      omega
    intro v82 v83
    refine andI ?_ fun o84 => ?_
    · show 3000000 - (x30.i + 1) < 3000000 - x30.i
      omega
    show 0 < 3000000 - x30.i
    omega
  intro h85
  rfl
theorem shape_flat : flatR sh = [.int .i64 (-9223372036854775808) 9223372036854775807, .int .i64 (-9223372036854775808) 9223372036854775807, .int .i64 (-9223372036854775808) 9223372036854775807, .int .i64 (-9223372036854775808) 9223372036854775807, .int .i64 (-9223372036854775808) 9223372036854775807, .int .i64 (-9223372036854775808) 9223372036854775807, .row [.int .i64 (-9223372036854775808) (9223372036854775807)] 9223372036854775807, .int .i64 (-9223372036854775808) 9223372036854775807, .int .i64 (-9223372036854775808) 9223372036854775807, .int .i64 (-9223372036854775808) 9223372036854775807, .int .i64 (-9223372036854775808) 9223372036854775807, .int .i64 (-9223372036854775808) 9223372036854775807, .int .i64 (-9223372036854775808) 9223372036854775807, .int .i64 (-9223372036854775808) 9223372036854775807, .int .i64 (-9223372036854775808) 9223372036854775807, .int .i64 (-9223372036854775808) 9223372036854775807, .int .i64 (-9223372036854775808) 9223372036854775807] := by kernel_rfl
theorem lawful (ds : Ds) (hr : rshX sh ds) : (walkR Tryd.prog (cfG none L20 R20 lpMov sumC) Tryd.f5 1600 sh).law { ρ0 with x := fun j => ds.getD j (xI 0) } := by
  have hr := rshX_flat hr
  rw [shape_flat] at hr
  match ds, hr with
  | [d0, d1, d2, d3, d4, d5, d6, d7, d8, d9, d10, d11, d12, d13, d14, d15, d16], hr =>
    obtain ⟨⟨e0, l0, u0⟩, ⟨e1, l1, u1⟩, ⟨e2, l2, u2⟩, ⟨e3, l3, u3⟩, ⟨e4, l4, u4⟩, ⟨e5, l5, u5⟩, l6, ⟨e7, l7, u7⟩, ⟨e8, l8, u8⟩, ⟨e9, l9, u9⟩, ⟨e10, l10, u10⟩, ⟨e11, l11, u11⟩, ⟨e12, l12, u12⟩, ⟨e13, l13, u13⟩, ⟨e14, l14, u14⟩, ⟨e15, l15, u15⟩, ⟨e16, l16, u16⟩, _⟩ := hr
    generalize d0.i = x0, d1.i = x1, d2.i = x2, d3.i = x3, d4.i = x4, d5.i = x5, d6 = x6, d7.i = x7, d8.i = x8, d9.i = x9, d10.i = x10, d11.i = x11, d12.i = x12, d13.i = x13, d14.i = x14, d15.i = x15, d16.i = x16 at *
    subst e0 e1 e2 e3 e4 e5 e7 e8 e9 e10 e11 e12 e13 e14 e15 e16
    exact Eq.mpr (link x0 x1 x2 x3 x4 x5 x6 x7 x8 x9 x10 x11 x12 x13 x14 x15 x16) (lawP_ok x0 x1 x2 x3 x4 x5 x6 x7 x8 x9 x10 x11 x12 x13 x14 x15 x16 ⟨l0, u0⟩ ⟨l1, u1⟩ ⟨l2, u2⟩ ⟨l3, u3⟩ ⟨l4, u4⟩ ⟨l5, u5⟩ l6 ⟨l7, u7⟩ ⟨l8, u8⟩ ⟨l9, u9⟩ ⟨l10, u10⟩ ⟨l11, u11⟩ ⟨l12, u12⟩ ⟨l13, u13⟩ ⟨l14, u14⟩ ⟨l15, u15⟩ ⟨l16, u16⟩)
theorem shape {H : Type} {ds : List (DataW H)} (h : ds.length = 4) : Rows.stencilMovesCellsSpec.fn H ds = { results := [.lit (.bool true)], args := ds } := by
  match ds, h with
  | [d1, d2, d3, d4], _ => rfl
set_option maxRecDepth 100000 in
theorem calls {H : Type} {enc : TypeId × Value → H} (W : World) (base : Nat) (args : Array Value) (ds : List (DataW H)) (p : List MemPlace) (hval : ∀ (j : Nat) t v, Tryd.f5.params[j]? = some t → args[j]? = some v → Value.okWide Tryd.prog W .any base t v)
    (hA : DataW.TrodAll enc Tryd.prog W 0 (fun _ => true) true Tryd.f5.params.toList args.toList ds p) (hg : GlobOk ρ0.g W.heap.size W) : Calls Tryd.prog 5 args W fun e w' => e = .returned (.bool true) ∧ Below W.heap.size W w' := by
  rw [Tryd.params5] at hA hval
  have hs : shTs Tryd.prog [39, 25, 3, 23] = some sh := by
    have : (shTs Tryd.prog [39, 25, 3, 23]).isSome = true := by kernel_rfl
    obtain ⟨s, h⟩ := Option.isSome_iff_exists.1 this
    unfold sh
    rw [h]; rfl
  obtain ⟨ds', hr⟩ := args_rel hA (fun i t v ht hv => hval i t v (by simpa using ht) (by simpa using hv)) hs
  have := law_callsR (L20_ok) Tryd.func5 rfl 1600 hg hr lawful
  simpa using this
set_option maxRecDepth 100000 in
theorem lifted (os : Os) (started : os.Started) (H : Type) (enc : TypeId × Value → H) :
    ReturnsInHanded {} Tryd.checked os 5 .any (fun w args => (Rows.stencilMovesCellsSpec.pre enc Tryd.prog Tryd.f5 [] false w args ∧ laidMetH Tryd.prog [("voxel/point.axes", Rows.laid_voxel_point_axes)] w) ∧ sizedMet enc Tryd.prog Tryd.f5 (OpenSpec.ofChange Rows.stencilMovesCellsSpec) false w args)
      (Rows.stencilMovesCellsSpec.post enc Tryd.prog Tryd.f5 false true false false) := by
  refine returnsInHanded_of_change_and (C := Tryd.checked) (X := fun w _ => laidMetH Tryd.prog [("voxel/point.axes", Rows.laid_voxel_point_axes)] w) (fun _ _ _ hh h => h.of_heap hh) own started (by kernel_rfl) Tryd.func5
    (ChangeSpec.witness_shaped (enc := enc) (C := Tryd.checked) (os := os) (X := fun w _ => laidMetH Tryd.prog [("voxel/point.axes", Rows.laid_voxel_point_axes)] w) false (World.doorLaid Tryd.prog 400 os) #[((Tryd.prog.info? 39).bind (·.zero)).getD undef, ((Tryd.prog.info? 25).bind (·.zero)).getD undef, ((Tryd.prog.info? 3).bind (·.zero)).getD undef, ((Tryd.prog.info? 23).bind (·.zero)).getD undef] 8 rfl (World.shaped_of_RefB (by kernel_rfl) (by kernel_rfl)) (by kernel_rfl) (by kernel_rfl) (by kernel_rfl) (door_met os _)) ?_
  intro W base args ds gs before hval hW _ _ hL _
  have hW0 := hW
  obtain ⟨p, q, hA, hV, _⟩ := hW0
  have hlen : ds.length = 4 := (trodAll_len hA).trans (by kernel_rfl)
  refine (calls W base args ds p hval hA (glob_ok hL)).mono fun e W' ⟨he, hb⟩ => ?_
  subst he
  exact ⟨_, rfl, law_post kids slices (by rw [Tryd.params5]; decide +kernel) rfl rfl Tryd.underlying4 (shape hlen) hW hb⟩
theorem over : Rows.StencilMovesCellsSaid :=
  OpenClaim.holds_of_wide 5 Tryd.f5 rfl rfl rfl rfl rfl rfl rfl ⟨rfl, rfl, rfl, rfl, rfl⟩ rfl rfl rfl rfl rfl (by kernel_rfl) Tryd.func5 (by kernel_rfl)
    (of_decide_eq_true (by kernel_rfl)) (by unfold Func.isWrapper; first | (rw [if_pos (by decide +kernel)]; kernel_rfl) | (rw [if_neg (by decide +kernel)]; exact ⟨rfl, rfl⟩))
    (fun os started H enc _ => lifted os started H enc)
theorem proved : Rows.StencilMovesCellsCardSaid :=
  Claim7.holds_tied_plain_at .later [] [.data] true (true, "9bfe27fa9d84c254ff0571e75aaabbc0b0d4bc58d3ea5bd9174ceb37d1b9be15") false
    over (fun _ h => by cases h) (by kernel_rfl) (fun _ h => by cases h) stencilMovesCells_row_tie rfl ⟨rfl, rfl⟩ (by kernel_rfl) rfl
    (fun f fn hf hfn => by
      obtain rfl : f = 5 := Option.some.inj ((show Tryd.prog.funcNamed "voxel/voxellaw20.StencilMovesCells" = some 5 by kernel_rfl).symm.trans hf) |>.symm
      obtain rfl : fn = Tryd.f5 := (Option.some.inj (Tryd.func5.symm.trans hfn)).symm
      exact ⟨by kernel_rfl, fun j t ht => by
        rw [Tryd.params5] at ht
        have hm : t ∈ [39, 25, 3, 23] := by simpa using Array.mem_of_getElem? ht
        have hall : ([39, 25, 3, 23].all fun u => !Tryd.prog.wantsStandIn u) = true := by kernel_rfl
        exact (show Tryd.prog.wantsStandIn t = false by simpa using List.all_eq_true.1 hall t hm)⟩)
    (by kernel_rfl)
#print axioms proved
end Go.Proofs.YtaacclebncplbaaDoor.stencilMovesCells
