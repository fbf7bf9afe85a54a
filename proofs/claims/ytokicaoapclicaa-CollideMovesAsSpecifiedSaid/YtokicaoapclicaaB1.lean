/- Proved: CollideMovesAsSpecified: the statement 'CollideMovesAsSpecifiedSaid' of this seat, for every input that it names; no condition besides. -/
import Derived.Test.YtokicaoapclicaaC41T
import Derived.Test.YtokicaoapclicaaRows
import Derived.ProofKit
import Derived.LaidMore
import Derived.Stop.Joined
namespace Go.Proofs.Ytokicaoapclicaa.collideMovesAsSpecified
open Go Go.ChangeShapes Go.WideShapes Go.ChangeAt Go.RowKit Vc
set_option linter.unusedVariables false


/-- The law's walk, as the machine leaves it. -/
def lawP (x0 : X) (x1 : Int) (x2 : Int) (x3 : Int) (x4 : Int) (x5 : Int) (x6 : Int) (x7 : Int) (x8 : Int) (x9 : Int) (x10 : Int) (x11 : Int) : Prop :=
(let v0 : X := Ff 600 [x0]; (((v0.b = true) →
((((¬ (((((((-1000) ≤ x1) ∧ ((-1000) ≤ x2)) ∧ ((-1000) ≤ x3)) ∧ (x1 ≤ 1000)) ∧ (x2 ≤ 1000)) ∧ (x3 ≤ 1000))) ∨ (¬ (((((((-1000) ≤ x4) ∧ ((-1000) ≤ x5)) ∧ ((-1000) ≤ x6)) ∧ (x4 ≤ 1000)) ∧ (x5 ≤ 1000)) ∧ (x6 ≤ 1000)))) →
(true = true)) ∧
((¬ ((¬ (((((((-1000) ≤ x1) ∧ ((-1000) ≤ x2)) ∧ ((-1000) ≤ x3)) ∧ (x1 ≤ 1000)) ∧ (x2 ≤ 1000)) ∧ (x3 ≤ 1000))) ∨ (¬ (((((((-1000) ≤ x4) ∧ ((-1000) ≤ x5)) ∧ ((-1000) ≤ x6)) ∧ (x4 ≤ 1000)) ∧ (x5 ≤ 1000)) ∧ (x6 ≤ 1000))))) →
(((((¬ (((((((-64) ≤ x9) ∧ ((-64) ≤ x10)) ∧ ((-64) ≤ x11)) ∧ (x9 ≤ 64)) ∧ (x10 ≤ 64)) ∧ (x11 ≤ 64))) ∨ (x8 < (-64))) ∨ (64 < x8)) →
(true = true)) ∧
((¬ (((¬ (((((((-64) ≤ x9) ∧ ((-64) ≤ x10)) ∧ ((-64) ≤ x11)) ∧ (x9 ≤ 64)) ∧ (x10 ≤ 64)) ∧ (x11 ≤ 64))) ∨ (x8 < (-64))) ∨ (64 < x8))) →
(Px 610 [x0, (xI x1), (xI x2), (xI x3), (xI x4), (xI x5), (xI x6), (xI 0), (xI x9)] ∧
(let v10 : X := Ff 602 [x0, (xI x1), (xI x2), (xI x3), (xI x4), (xI x5), (xI x6), (xI 0), (xI x9)]; (Px 610 [x0, (xI (x1 + v10.i)), (xI x2), (xI x3), (xI (x4 + v10.i)), (xI x5), (xI x6), (xI 1), (xI x10)] ∧
(let v12 : X := Ff 602 [x0, (xI (x1 + v10.i)), (xI x2), (xI x3), (xI (x4 + v10.i)), (xI x5), (xI x6), (xI 1), (xI x10)]; (Px 610 [x0, (xI (x1 + v10.i)), (xI (x2 + v12.i)), (xI x3), (xI (x4 + v10.i)), (xI (x5 + v12.i)), (xI x6), (xI 2), (xI x11)] ∧
(Px 610 [x0, (xI x1), (xI x2), (xI x3), (xI x4), (xI x5), (xI x6), (xI 0), (xI x9)] ∧
(let v15 : X := Ff 604 [(xI x1), (xI x2), (xI x3), (xI x4), (xI x5), (xI x6), (xI 0), (xI v10.i)]; (((-2000) ≤ v15.i) ∧
((v15.i ≤ 2000) ∧
(let v18 : X := Ff 605 [(xI x1), (xI x2), (xI x3), (xI x4), (xI x5), (xI x6), (xI 0), (xI v10.i)]; (((-2000) ≤ v18.i) ∧
((v18.i ≤ 2000) ∧
(let v21 : X := Ff 606 [(xI x1), (xI x2), (xI x3), (xI x4), (xI x5), (xI x6), (xI 0), (xI v10.i)]; (((-2000) ≤ v21.i) ∧
((v21.i ≤ 2000) ∧
(let v24 : X := Ff 607 [(xI x1), (xI x2), (xI x3), (xI x4), (xI x5), (xI x6), (xI 0), (xI v10.i)]; (((-2000) ≤ v24.i) ∧
((v24.i ≤ 2000) ∧
(let v27 : X := Ff 608 [(xI x1), (xI x2), (xI x3), (xI x4), (xI x5), (xI x6), (xI 0), (xI v10.i)]; (((-2000) ≤ v27.i) ∧
((v27.i ≤ 2000) ∧
(let v30 : X := Ff 609 [(xI x1), (xI x2), (xI x3), (xI x4), (xI x5), (xI x6), (xI 0), (xI v10.i)]; (((-2000) ≤ v30.i) ∧
((v30.i ≤ 2000) ∧
(Px 610 [x0, (xI v15.i), (xI v18.i), (xI v21.i), (xI v24.i), (xI v27.i), (xI v30.i), (xI 1), (xI x10)] ∧
(((-2000) ≤ v15.i) ∧
((v15.i ≤ 2000) ∧
(let v36 : X := Ff 602 [x0, (xI v15.i), (xI v18.i), (xI v21.i), (xI v24.i), (xI v27.i), (xI v30.i), (xI 1), (xI x10)]; (((-2000) ≤ (v18.i + v36.i)) ∧
(((v18.i + v36.i) ≤ 2000) ∧
(((-2000) ≤ v21.i) ∧
((v21.i ≤ 2000) ∧
(((-2000) ≤ v24.i) ∧
((v24.i ≤ 2000) ∧
(((-2000) ≤ (v27.i + v36.i)) ∧
(((v27.i + v36.i) ≤ 2000) ∧
(((-2000) ≤ v30.i) ∧
((v30.i ≤ 2000) ∧
(Px 610 [x0, (xI v15.i), (xI (v18.i + v36.i)), (xI v21.i), (xI v24.i), (xI (v27.i + v36.i)), (xI v30.i), (xI 2), (xI x11)] ∧
(Px 610 [x0, (xI x1), (xI x2), (xI x3), (xI x4), (xI x5), (xI x6), (xI x7), (xI x8)] ∧
(Px 610 [x0, (xI x1), (xI x2), (xI x3), (xI x4), (xI x5), (xI x6), (xI x7), (xI x8)] ∧
(Px 610 [x0, (xI x1), (xI x2), (xI x3), (xI x4), (xI x5), (xI x6)] ∧
(let v51 : X := Ff 602 [x0, (xI (x1 + v10.i)), (xI (x2 + v12.i)), (xI x3), (xI (x4 + v10.i)), (xI (x5 + v12.i)), (xI x6), (xI 2), (xI x11)]; let v52 : X := Ff 602 [x0, (xI v15.i), (xI (v18.i + v36.i)), (xI v21.i), (xI v24.i), (xI (v27.i + v36.i)), (xI v30.i), (xI 2), (xI x11)]; ((((((x1 + v10.i) = v15.i) ∧ (((x2 + v12.i) = (v18.i + v36.i)) ∧ (((x3 + v51.i) = (v21.i + v52.i)) ∧ (((x4 + v10.i) = v24.i) ∧ (((x5 + v12.i) = (v27.i + v36.i)) ∧ ((x6 + v51.i) = (v30.i + v52.i))))))) ∧ ((v12.i = v36.i) ∧ (v51.i = v52.i))) →
(Px 610 [x0, (xI x1), (xI x2), (xI x3), (xI x4), (xI x5), (xI x6)] ∧
(let v56 : X := Ff 601 [x0, (xI x1), (xI x2), (xI x3), (xI x4), (xI x5), (xI x6)]; (((¬ (v56.b = true)) →
(let v59 : X := Ff 604 [(xI x1), (xI x2), (xI x3), (xI x4), (xI x5), (xI x6), (xI 2), (xI (-1))]; let v60 : X := Ff 605 [(xI x1), (xI x2), (xI x3), (xI x4), (xI x5), (xI x6), (xI 2), (xI (-1))]; let v61 : X := Ff 606 [(xI x1), (xI x2), (xI x3), (xI x4), (xI x5), (xI x6), (xI 2), (xI (-1))]; let v62 : X := Ff 607 [(xI x1), (xI x2), (xI x3), (xI x4), (xI x5), (xI x6), (xI 2), (xI (-1))]; let v63 : X := Ff 608 [(xI x1), (xI x2), (xI x3), (xI x4), (xI x5), (xI x6), (xI 2), (xI (-1))]; let v64 : X := Ff 609 [(xI x1), (xI x2), (xI x3), (xI x4), (xI x5), (xI x6), (xI 2), (xI (-1))]; Px 610 [x0, (xI v59.i), (xI v60.i), (xI v61.i), (xI v62.i), (xI v63.i), (xI v64.i)])) ∧
(let v65 : X := Ff 601 [x0, (xI x1), (xI x2), (xI (x3 + (-1))), (xI x4), (xI x5), (xI (x6 + (-1)))]; let v66 : X := Ff 604 [(xI x1), (xI x2), (xI x3), (xI x4), (xI x5), (xI x6), (xI 2), (xI (-1))]; let v67 : X := Ff 605 [(xI x1), (xI x2), (xI x3), (xI x4), (xI x5), (xI x6), (xI 2), (xI (-1))]; let v68 : X := Ff 606 [(xI x1), (xI x2), (xI x3), (xI x4), (xI x5), (xI x6), (xI 2), (xI (-1))]; let v69 : X := Ff 607 [(xI x1), (xI x2), (xI x3), (xI x4), (xI x5), (xI x6), (xI 2), (xI (-1))]; let v70 : X := Ff 608 [(xI x1), (xI x2), (xI x3), (xI x4), (xI x5), (xI x6), (xI 2), (xI (-1))]; let v71 : X := Ff 609 [(xI x1), (xI x2), (xI x3), (xI x4), (xI x5), (xI x6), (xI 2), (xI (-1))]; let v72 : X := Ff 601 [x0, (xI v66.i), (xI v67.i), (xI v68.i), (xI v69.i), (xI v70.i), (xI v71.i)]; ((((!v56.b) && v65.b) == ((!v56.b) && v72.b)) = true)))))) ∧
((¬ ((((x1 + v10.i) = v15.i) ∧ (((x2 + v12.i) = (v18.i + v36.i)) ∧ (((x3 + v51.i) = (v21.i + v52.i)) ∧ (((x4 + v10.i) = v24.i) ∧ (((x5 + v12.i) = (v27.i + v36.i)) ∧ ((x6 + v51.i) = (v30.i + v52.i))))))) ∧ ((v12.i = v36.i) ∧ (v51.i = v52.i)))) →
(false = true))))))))))))))))))))))))))))))))))))))))))))))))))) ∧
((¬ (v0.b = true)) →
(true = true))))
noncomputable def sh : List RSh := (shTs Try.prog [22, 26, 3, 3, 24]).getD []
attribute [irreducible] sh
theorem link (x0 : X) (x1 : Int) (x2 : Int) (x3 : Int) (x4 : Int) (x5 : Int) (x6 : Int) (x7 : Int) (x8 : Int) (x9 : Int) (x10 : Int) (x11 : Int) : (walkR Try.prog (cfN N41 none [cSane, cMv] R41 lpSlides sumL) Try.f3 400 sh).law { ρ0 with x := fun j => [x0, xI x1, xI x2, xI x3, xI x4, xI x5, xI x6, xI x7, xI x8, xI x9, xI x10, xI x11].getD j (xI 0) } = lawP x0 x1 x2 x3 x4 x5 x6 x7 x8 x9 x10 x11 := by kernel_rfl
set_option maxHeartbeats 4000000 in
theorem lawP_ok (x0 : X) (x1 : Int) (x2 : Int) (x3 : Int) (x4 : Int) (x5 : Int) (x6 : Int) (x7 : Int) (x8 : Int) (x9 : Int) (x10 : Int) (x11 : Int) (g0 : 0 ≤ x0.i ∧ x0.i ≤ 9223372036854775807 ∧ RowOk [.int .i64 (-9223372036854775808) (9223372036854775807), .int .i64 (-9223372036854775808) (9223372036854775807), .int .i64 (-9223372036854775808) (9223372036854775807), .int .i64 (-9223372036854775808) (9223372036854775807), .int .i64 (-9223372036854775808) (9223372036854775807), .int .i64 (-9223372036854775808) (9223372036854775807)] x0.r x0.i.toNat) (g1 : -9223372036854775808 ≤ x1 ∧ x1 ≤ 9223372036854775807) (g2 : -9223372036854775808 ≤ x2 ∧ x2 ≤ 9223372036854775807) (g3 : -9223372036854775808 ≤ x3 ∧ x3 ≤ 9223372036854775807) (g4 : -9223372036854775808 ≤ x4 ∧ x4 ≤ 9223372036854775807) (g5 : -9223372036854775808 ≤ x5 ∧ x5 ≤ 9223372036854775807) (g6 : -9223372036854775808 ≤ x6 ∧ x6 ≤ 9223372036854775807) (g7 : -9223372036854775808 ≤ x7 ∧ x7 ≤ 9223372036854775807) (g8 : -9223372036854775808 ≤ x8 ∧ x8 ≤ 9223372036854775807) (g9 : -9223372036854775808 ≤ x9 ∧ x9 ≤ 9223372036854775807) (g10 : -9223372036854775808 ≤ x10 ∧ x10 ≤ 9223372036854775807) (g11 : -9223372036854775808 ≤ x11 ∧ x11 ≤ 9223372036854775807) : lawP x0 x1 x2 x3 x4 x5 x6 x7 x8 x9 x10 x11 := by
  unfold lawP
  intro v0
  refine And.intro ?_ ?_
  · intro h2
    refine And.intro ?_ ?_
    · intro h4
      rfl -- #0
    intro h5
    refine And.intro ?_ ?_
    · intro h7
      rfl -- #1
    intro h8
    refine andI ?_ fun o9 => ?_
    · exact h2 -- #2
    intro v10
    have r10 : -64 ≤ v10.i ∧ v10.i ≤ 64 := sl_rng (by show -64 ≤ x9 ∧ x9 ≤ 64; omega)
    refine andI ?_ fun o11 => ?_
    · exact h2 -- #3
    intro v12
    have r12 : -64 ≤ v12.i ∧ v12.i ≤ 64 := sl_rng (by show -64 ≤ x10 ∧ x10 ≤ 64; omega)
    refine andI ?_ fun o13 => ?_
    · exact h2 -- #4
    refine andI ?_ fun o14 => ?_
    · exact h2 -- #5
    intro v15
    have e15 : v15.i = x1 + v10.i := rfl
    refine andI ?_ fun o16 => ?_
    · omega -- #6
    refine andI ?_ fun o17 => ?_
    · omega -- #7
    intro v18
    have e18 : v18.i = x2 := rfl
    refine andI ?_ fun o19 => ?_
    · omega -- #8
    refine andI ?_ fun o20 => ?_
    · omega -- #9
    intro v21
    have e21 : v21.i = x3 := rfl
    refine andI ?_ fun o22 => ?_
    · omega -- #10
    refine andI ?_ fun o23 => ?_
    · omega -- #11
    intro v24
    have e24 : v24.i = x4 + v10.i := rfl
    refine andI ?_ fun o25 => ?_
    · omega -- #12
    refine andI ?_ fun o26 => ?_
    · omega -- #13
    intro v27
    have e27 : v27.i = x5 := rfl
    refine andI ?_ fun o28 => ?_
    · omega -- #14
    refine andI ?_ fun o29 => ?_
    · omega -- #15
    intro v30
    have e30 : v30.i = x6 := rfl
    refine andI ?_ fun o31 => ?_
    · omega -- #16
    refine andI ?_ fun o32 => ?_
    · omega -- #17
    refine andI ?_ fun o33 => ?_
    · exact h2 -- #18
    refine andI ?_ fun o34 => ?_
    · omega -- #19
    refine andI ?_ fun o35 => ?_
    · omega -- #20
    intro v36
    have e36 : v36 = v12 := rfl
    rw [← e36] at r12
    refine andI ?_ fun o37 => ?_
    · omega -- #21
    refine andI ?_ fun o38 => ?_
    · omega -- #22
    refine andI ?_ fun o39 => ?_
    · omega -- #23
    refine andI ?_ fun o40 => ?_
    · omega -- #24
    refine andI ?_ fun o41 => ?_
    · omega -- #25
    refine andI ?_ fun o42 => ?_
    · omega -- #26
    refine andI ?_ fun o43 => ?_
    · omega -- #27
    refine andI ?_ fun o44 => ?_
    · omega -- #28
    refine andI ?_ fun o45 => ?_
    · omega -- #29
    refine andI ?_ fun o46 => ?_
    · omega -- #30
    refine andI ?_ fun o47 => ?_
    · exact h2 -- #31
    refine andI ?_ fun o48 => ?_
    · exact h2 -- #32
    refine andI ?_ fun o49 => ?_
    · exact h2 -- #33
    refine andI ?_ fun o50 => ?_
    · exact h2 -- #34
    intro v51
    intro v52
    have e52 : v52 = v51 := rfl
    refine And.intro ?_ ?_
    · intro h54
      refine andI ?_ fun o55 => ?_
      · exact h2 -- #35
      intro v56
      refine And.intro ?_ ?_
      · intro h58
        intro v59
        intro v60
        intro v61
        intro v62
        intro v63
        intro v64
        exact h2 -- #36
      intro v65
      intro v66
      intro v67
      intro v68
      intro v69
      intro v70
      intro v71
      intro v72
      exact beq_self_eq_true ((!v56.b) && v65.b) -- #37
    intro h73
    exact absurd ⟨⟨rfl, rfl, rfl, rfl, rfl, rfl⟩, rfl, rfl⟩ h73 -- #38
  intro h74
  rfl -- #39

/-! ### The frame -/
theorem shape_flat : flatR sh = [.row [.int .i64 (-9223372036854775808) (9223372036854775807), .int .i64 (-9223372036854775808) (9223372036854775807), .int .i64 (-9223372036854775808) (9223372036854775807), .int .i64 (-9223372036854775808) (9223372036854775807), .int .i64 (-9223372036854775808) (9223372036854775807), .int .i64 (-9223372036854775808) (9223372036854775807)] 9223372036854775807, .int .i64 (-9223372036854775808) 9223372036854775807, .int .i64 (-9223372036854775808) 9223372036854775807, .int .i64 (-9223372036854775808) 9223372036854775807, .int .i64 (-9223372036854775808) 9223372036854775807, .int .i64 (-9223372036854775808) 9223372036854775807, .int .i64 (-9223372036854775808) 9223372036854775807, .int .i64 (-9223372036854775808) 9223372036854775807, .int .i64 (-9223372036854775808) 9223372036854775807, .int .i64 (-9223372036854775808) 9223372036854775807, .int .i64 (-9223372036854775808) 9223372036854775807, .int .i64 (-9223372036854775808) 9223372036854775807] := by kernel_rfl
theorem lawful (ds : Ds) (hr : rshX sh ds) : (walkR Try.prog (cfN N41 none [cSane, cMv] R41 lpSlides sumL) Try.f3 400 sh).law { ρ0 with x := fun j => ds.getD j (xI 0) } := by
  have hr := rshX_flat hr
  rw [shape_flat] at hr
  match ds, hr with
  | [d0, d1, d2, d3, d4, d5, d6, d7, d8, d9, d10, d11], hr =>
    obtain ⟨l0, ⟨e1, l1, u1⟩, ⟨e2, l2, u2⟩, ⟨e3, l3, u3⟩, ⟨e4, l4, u4⟩, ⟨e5, l5, u5⟩, ⟨e6, l6, u6⟩, ⟨e7, l7, u7⟩, ⟨e8, l8, u8⟩, ⟨e9, l9, u9⟩, ⟨e10, l10, u10⟩, ⟨e11, l11, u11⟩, _⟩ := hr
    generalize d0 = x0 at *
    generalize d1.i = x1 at *
    generalize d2.i = x2 at *
    generalize d3.i = x3 at *
    generalize d4.i = x4 at *
    generalize d5.i = x5 at *
    generalize d6.i = x6 at *
    generalize d7.i = x7 at *
    generalize d8.i = x8 at *
    generalize d9.i = x9 at *
    generalize d10.i = x10 at *
    generalize d11.i = x11 at *
    subst e1 e2 e3 e4 e5 e6 e7 e8 e9 e10 e11
    exact Eq.mpr (link x0 x1 x2 x3 x4 x5 x6 x7 x8 x9 x10 x11) (lawP_ok x0 x1 x2 x3 x4 x5 x6 x7 x8 x9 x10 x11 l0 ⟨l1, u1⟩ ⟨l2, u2⟩ ⟨l3, u3⟩ ⟨l4, u4⟩ ⟨l5, u5⟩ ⟨l6, u6⟩ ⟨l7, u7⟩ ⟨l8, u8⟩ ⟨l9, u9⟩ ⟨l10, u10⟩ ⟨l11, u11⟩)
theorem shape {H : Type} {ds : List (DataW H)} (h : ds.length = 5) : Rows.collideMovesAsSpecifiedSpec.fn H ds = { results := [.lit (.bool true)], args := ds } := by
  match ds, h with
  | [d1, d2, d3, d4, d5], _ => rfl
theorem calls {H : Type} {enc : TypeId × Value → H} (W : World) (base : Nat) (args : Array Value) (ds : List (DataW H)) (p : List MemPlace) (hval : ∀ (j : Nat) t v, Try.f3.params[j]? = some t → args[j]? = some v → Value.okWide Try.prog W .any base t v)
    (hA : DataW.TrodAll enc Try.prog W 0 (fun _ => true) true Try.f3.params.toList args.toList ds p) (hg : GlobOk ρ0.g W.heap.size W) : Calls Try.prog 3 args W fun e w' => e = .returned (.bool true) ∧ Below W.heap.size W w' := by
  rw [Try.params3] at hA hval
  have hs : shTs Try.prog [22, 26, 3, 3, 24] = some sh := by
    have : (shTs Try.prog [22, 26, 3, 3, 24]).isSome = true := by kernel_rfl
    obtain ⟨s, h⟩ := Option.isSome_iff_exists.1 this
    unfold sh
    rw [h]; rfl
  obtain ⟨ds', hr⟩ := args_rel hA (fun i t v ht hv => hval i t v (by simpa using ht) (by simpa using hv)) hs
  have := law_callsR (L41s_ok) Try.func3 rfl 400 hg hr lawful
  simpa using this
set_option maxRecDepth 100000 in
theorem lifted (os : Os) (started : os.Started) (H : Type) (enc : TypeId × Value → H) :
    ReturnsInHanded {} Try.checked os 3 .any (Rows.collideMovesAsSpecifiedSpec.pre6 enc Try.prog Try.f3 Rows.collideMovesAsSpecifiedRow.domain false) (Rows.collideMovesAsSpecifiedSpec.post enc Try.prog Try.f3 false true false false) := by
  refine returnsInHanded_of_change (C := Try.checked) own started (by kernel_rfl) Try.func3
    (ChangeSpec.witness6 (enc := enc) (C := Try.checked) false ⟨#[], #[((Try.prog.info? 22).bind (·.zero)).getD undef, ((Try.prog.info? 26).bind (·.zero)).getD undef, ((Try.prog.info? 3).bind (·.zero)).getD undef, ((Try.prog.info? 3).bind (·.zero)).getD undef, ((Try.prog.info? 24).bind (·.zero)).getD undef], []⟩ 8 (by kernel_rfl) (by kernel_rfl) (by kernel_rfl) (by kernel_rfl)) ?_
  intro W base args ds gs before hval hW _ _
  have hW0 := hW
  obtain ⟨p, q, hA, hV, _⟩ := hW0
  have hlen : ds.length = 5 := (trodAll_len hA).trans (by kernel_rfl)
  refine (calls W base args ds p hval hA (glob_ok W)).mono fun e W' ⟨he, hb⟩ => ?_
  subst he
  exact ⟨_, rfl, law_post kids slices (by rw [Try.params3]; decide +kernel) rfl rfl Try.underlying4 (shape hlen) hW hb⟩

theorem over : Rows.CollideMovesAsSpecifiedSaid :=
  OpenClaim.holds_of_wide 3 Try.f3 rfl rfl rfl rfl rfl rfl rfl ⟨rfl, rfl, rfl, rfl, rfl⟩ rfl rfl rfl rfl rfl (by kernel_rfl) Try.func3 (by kernel_rfl)
    (of_decide_eq_true (by kernel_rfl)) (by unfold Func.isWrapper; first | (rw [if_pos (by decide +kernel)]; kernel_rfl) | (rw [if_neg (by decide +kernel)]; exact ⟨rfl, rfl⟩))
    (fun os started H enc _ => lifted os started H enc)

/-- The statement. -/
theorem proved : Rows.CollideMovesAsSpecifiedSaid := over
#print axioms proved
end Go.Proofs.Ytokicaoapclicaa.collideMovesAsSpecified
