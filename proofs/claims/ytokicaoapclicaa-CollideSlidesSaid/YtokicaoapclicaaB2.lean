/- Proved: CollideSlides: the statement 'CollideSlidesSaid' of this seat, for every input that it names; no condition besides. -/
import Derived.Test.YtokicaoapclicaaC41T
import Derived.Test.YtokicaoapclicaaRows
import Derived.ProofKit
import Derived.LaidMore
import Derived.Stop.Joined
namespace Go.Proofs.Ytokicaoapclicaa.collideSlides
open Go Go.ChangeShapes Go.WideShapes Go.ChangeAt Go.RowKit Vc
set_option linter.unusedVariables false


/-- The law's walk, as the machine leaves it. -/
def lawP (x0 : X) (x1 : Int) (x2 : Int) (x3 : Int) (x4 : Int) (x5 : Int) (x6 : Int) (x7 : Int) (x8 : Int) : Prop :=
(let v0 : X := Ff 600 [x0]; (((v0.b = true) →
((((¬ (((((((-1000) ≤ x1) ∧ ((-1000) ≤ x2)) ∧ ((-1000) ≤ x3)) ∧ (x1 ≤ 1000)) ∧ (x2 ≤ 1000)) ∧ (x3 ≤ 1000))) ∨ (¬ (((((((-1000) ≤ x4) ∧ ((-1000) ≤ x5)) ∧ ((-1000) ≤ x6)) ∧ (x4 ≤ 1000)) ∧ (x5 ≤ 1000)) ∧ (x6 ≤ 1000)))) →
(true = true)) ∧
((¬ ((¬ (((((((-1000) ≤ x1) ∧ ((-1000) ≤ x2)) ∧ ((-1000) ≤ x3)) ∧ (x1 ≤ 1000)) ∧ (x2 ≤ 1000)) ∧ (x3 ≤ 1000))) ∨ (¬ (((((((-1000) ≤ x4) ∧ ((-1000) ≤ x5)) ∧ ((-1000) ≤ x6)) ∧ (x4 ≤ 1000)) ∧ (x5 ≤ 1000)) ∧ (x6 ≤ 1000))))) →
((((((x8 < (-64)) ∨ (64 < x8)) ∨ (x7 < 0)) ∨ (2 < x7)) →
(true = true)) ∧
((¬ ((((x8 < (-64)) ∨ (64 < x8)) ∨ (x7 < 0)) ∨ (2 < x7))) →
(Px 610 [x0, (xI x1), (xI x2), (xI x3), (xI x4), (xI x5), (xI x6), (xI x7), (xI x8)] ∧
(let v10 : X := Ff 601 [x0, (xI x1), (xI x2), (xI x3), (xI x4), (xI x5), (xI x6)]; (((v10.b = true) →
(let v13 : X := Ff 602 [x0, (xI x1), (xI x2), (xI x3), (xI x4), (xI x5), (xI x6), (xI x7), (xI x8)]; (v13.i = 0))) ∧
((¬ (v10.b = true)) →
(let v15 : X := Ff 602 [x0, (xI x1), (xI x2), (xI x3), (xI x4), (xI x5), (xI x6), (xI x7), (xI x8)]; (((((v15.i * (bif (decide (x8 < 0)) then (-1) else 1)) < 0) ∨ ((x8 * (bif (decide (x8 < 0)) then (-1) else 1)) < (v15.i * (bif (decide (x8 < 0)) then (-1) else 1)))) →
(false = true)) ∧
((¬ (((v15.i * (bif (decide (x8 < 0)) then (-1) else 1)) < 0) ∨ ((x8 * (bif (decide (x8 < 0)) then (-1) else 1)) < (v15.i * (bif (decide (x8 < 0)) then (-1) else 1))))) →
(Px 640 [x0, (xI x1), (xI x2), (xI x3), (xI x4), (xI x5), (xI x6), (xI x7), (xI x8), (xI 0)] ∧
(∀ x20 : X, ((((-64) ≤ x20.i) ∧ (x20.i ≤ 64)) →
(Px 640 [x0, (xI x1), (xI x2), (xI x3), (xI x4), (xI x5), (xI x6), (xI x7), (xI x8), x20] →
(((¬ (x20.i = v15.i)) →
(let v24 : X := Ff 604 [(xI x1), (xI x2), (xI x3), (xI x4), (xI x5), (xI x6), (xI x7), (xI (x20.i + (bif (decide (x8 < 0)) then (-1) else 1)))]; let v25 : X := Ff 605 [(xI x1), (xI x2), (xI x3), (xI x4), (xI x5), (xI x6), (xI x7), (xI (x20.i + (bif (decide (x8 < 0)) then (-1) else 1)))]; let v26 : X := Ff 606 [(xI x1), (xI x2), (xI x3), (xI x4), (xI x5), (xI x6), (xI x7), (xI (x20.i + (bif (decide (x8 < 0)) then (-1) else 1)))]; let v27 : X := Ff 607 [(xI x1), (xI x2), (xI x3), (xI x4), (xI x5), (xI x6), (xI x7), (xI (x20.i + (bif (decide (x8 < 0)) then (-1) else 1)))]; let v28 : X := Ff 608 [(xI x1), (xI x2), (xI x3), (xI x4), (xI x5), (xI x6), (xI x7), (xI (x20.i + (bif (decide (x8 < 0)) then (-1) else 1)))]; let v29 : X := Ff 609 [(xI x1), (xI x2), (xI x3), (xI x4), (xI x5), (xI x6), (xI x7), (xI (x20.i + (bif (decide (x8 < 0)) then (-1) else 1)))]; let v30 : X := Ff 601 [x0, (xI v24.i), (xI v25.i), (xI v26.i), (xI v27.i), (xI v28.i), (xI v29.i)]; (((v30.b = true) →
(false = true)) ∧
((¬ (v30.b = true)) →
(((-64) ≤ (x20.i + (bif (decide (x8 < 0)) then (-1) else 1))) ∧
(((x20.i + (bif (decide (x8 < 0)) then (-1) else 1)) ≤ 64) ∧
(Px 640 [x0, (xI x1), (xI x2), (xI x3), (xI x4), (xI x5), (xI x6), (xI x7), (xI x8), (xI (x20.i + (bif (decide (x8 < 0)) then (-1) else 1)))] ∧
(let v37 : X := Ff 658 [x0, (xI x1), (xI x2), (xI x3), (xI x4), (xI x5), (xI x6), (xI x7), (xI x8), (xI (x20.i + (bif (decide (x8 < 0)) then (-1) else 1)))]; let v38 : X := Ff 658 [x0, (xI x1), (xI x2), (xI x3), (xI x4), (xI x5), (xI x6), (xI x7), (xI x8), x20]; ((v37.i < v38.i) ∧
(0 < v38.i)))))))))) ∧
((x20.i = v15.i) →
(let v41 : X := Ff 604 [(xI x1), (xI x2), (xI x3), (xI x4), (xI x5), (xI x6), (xI x7), (xI v15.i)]; let v42 : X := Ff 605 [(xI x1), (xI x2), (xI x3), (xI x4), (xI x5), (xI x6), (xI x7), (xI v15.i)]; let v43 : X := Ff 606 [(xI x1), (xI x2), (xI x3), (xI x4), (xI x5), (xI x6), (xI x7), (xI v15.i)]; let v44 : X := Ff 607 [(xI x1), (xI x2), (xI x3), (xI x4), (xI x5), (xI x6), (xI x7), (xI v15.i)]; let v45 : X := Ff 608 [(xI x1), (xI x2), (xI x3), (xI x4), (xI x5), (xI x6), (xI x7), (xI v15.i)]; let v46 : X := Ff 609 [(xI x1), (xI x2), (xI x3), (xI x4), (xI x5), (xI x6), (xI x7), (xI v15.i)]; let v47 : X := Ff 601 [x0, (xI (v41.i + ((bif (decide (x7 = 0)) then 1 else 0) * (bif (decide (x8 < 0)) then (-1) else 1)))), (xI (v42.i + ((bif (decide (x7 = 0)) then 0 else (bif (decide (x7 = 1)) then 1 else 0)) * (bif (decide (x8 < 0)) then (-1) else 1)))), (xI (v43.i + ((bif (decide (x7 = 0)) then 0 else (bif (decide (x7 = 1)) then 0 else 1)) * (bif (decide (x8 < 0)) then (-1) else 1)))), (xI (v44.i + ((bif (decide (x7 = 0)) then 1 else 0) * (bif (decide (x8 < 0)) then (-1) else 1)))), (xI (v45.i + ((bif (decide (x7 = 0)) then 0 else (bif (decide (x7 = 1)) then 1 else 0)) * (bif (decide (x8 < 0)) then (-1) else 1)))), (xI (v46.i + ((bif (decide (x7 = 0)) then 0 else (bif (decide (x7 = 1)) then 0 else 1)) * (bif (decide (x8 < 0)) then (-1) else 1))))]; ((((v15.i = x8) ∨ (v47.b = true)) →
((-2000) ≤ v41.i)) ∧
((((v15.i = x8) ∨ (v47.b = true)) →
(v41.i ≤ 2000)) ∧
((((v15.i = x8) ∨ (v47.b = true)) →
((-2000) ≤ v42.i)) ∧
((((v15.i = x8) ∨ (v47.b = true)) →
(v42.i ≤ 2000)) ∧
((((v15.i = x8) ∨ (v47.b = true)) →
((-2000) ≤ v43.i)) ∧
((((v15.i = x8) ∨ (v47.b = true)) →
(v43.i ≤ 2000)) ∧
((((v15.i = x8) ∨ (v47.b = true)) →
((-2000) ≤ v44.i)) ∧
((((v15.i = x8) ∨ (v47.b = true)) →
(v44.i ≤ 2000)) ∧
((((v15.i = x8) ∨ (v47.b = true)) →
((-2000) ≤ v45.i)) ∧
((((v15.i = x8) ∨ (v47.b = true)) →
(v45.i ≤ 2000)) ∧
((((v15.i = x8) ∨ (v47.b = true)) →
((-2000) ≤ v46.i)) ∧
((((v15.i = x8) ∨ (v47.b = true)) →
(v46.i ≤ 2000)) ∧
((((v15.i = x8) ∨ (v47.b = true)) →
 Px 610 [x0, (xI v41.i), (xI v42.i), (xI v43.i), (xI v44.i), (xI v45.i), (xI v46.i), (xI x7), (xI (0 - v15.i))]) ∧
(let v74 : X := Ff 602 [x0, (xI v41.i), (xI v42.i), (xI v43.i), (xI v44.i), (xI v45.i), (xI v46.i), (xI x7), (xI (0 - v15.i))]; (((v15.i = x8) ∨ (v47.b = true)) ∧ (v74.i = (0 - v15.i)))))))))))))))))))))))))))))))))))) ∧
((¬ (v0.b = true)) →
(true = true))))
noncomputable def sh : List RSh := (shTs Try.prog [22, 26, 3, 3]).getD []
attribute [irreducible] sh
theorem link (x0 : X) (x1 : Int) (x2 : Int) (x3 : Int) (x4 : Int) (x5 : Int) (x6 : Int) (x7 : Int) (x8 : Int) : (walkR Try.prog (cfN N41 none [cSane, cMv] R41 lpSlides sumL) Try.f5 400 sh).law { ρ0 with x := fun j => [x0, xI x1, xI x2, xI x3, xI x4, xI x5, xI x6, xI x7, xI x8].getD j (xI 0) } = lawP x0 x1 x2 x3 x4 x5 x6 x7 x8 := by kernel_rfl
set_option maxHeartbeats 4000000 in
theorem lawP_ok (x0 : X) (x1 : Int) (x2 : Int) (x3 : Int) (x4 : Int) (x5 : Int) (x6 : Int) (x7 : Int) (x8 : Int) (g0 : 0 ≤ x0.i ∧ x0.i ≤ 9223372036854775807 ∧ RowOk [.int .i64 (-9223372036854775808) (9223372036854775807), .int .i64 (-9223372036854775808) (9223372036854775807), .int .i64 (-9223372036854775808) (9223372036854775807), .int .i64 (-9223372036854775808) (9223372036854775807), .int .i64 (-9223372036854775808) (9223372036854775807), .int .i64 (-9223372036854775808) (9223372036854775807)] x0.r x0.i.toNat) (g1 : -9223372036854775808 ≤ x1 ∧ x1 ≤ 9223372036854775807) (g2 : -9223372036854775808 ≤ x2 ∧ x2 ≤ 9223372036854775807) (g3 : -9223372036854775808 ≤ x3 ∧ x3 ≤ 9223372036854775807) (g4 : -9223372036854775808 ≤ x4 ∧ x4 ≤ 9223372036854775807) (g5 : -9223372036854775808 ≤ x5 ∧ x5 ≤ 9223372036854775807) (g6 : -9223372036854775808 ≤ x6 ∧ x6 ≤ 9223372036854775807) (g7 : -9223372036854775808 ≤ x7 ∧ x7 ≤ 9223372036854775807) (g8 : -9223372036854775808 ≤ x8 ∧ x8 ≤ 9223372036854775807) : lawP x0 x1 x2 x3 x4 x5 x6 x7 x8 := by
  unfold lawP
  intro v0
  refine And.intro ?_ ?_
  · intro h2
    refine And.intro ?_ ?_
    · intro h4
      rfl -- #0
    intro h5
    have q5 : (-1000 ≤ x1 ∧ x1 ≤ 1000) ∧ (-1000 ≤ x2 ∧ x2 ≤ 1000) ∧ (-1000 ≤ x3 ∧ x3 ≤ 1000) ∧ (-1000 ≤ x4 ∧ x4 ≤ 1000) ∧ (-1000 ≤ x5 ∧ x5 ≤ 1000) ∧ (-1000 ≤ x6 ∧ x6 ≤ 1000) := by omega
    refine And.intro ?_ ?_
    · intro h7
      rfl -- #1
    intro h8
    have q8 : 0 ≤ x7 ∧ x7 ≤ 2 := by omega
    have d8 : -64 ≤ x8 ∧ x8 ≤ 64 := by omega
    refine andI ?_ fun o9 => ?_
    · exact h2 -- #2
    intro v10
    refine And.intro ?_ ?_
    · intro h12
      intro v13
      exact sl_out (.inr (.inr h12)) -- #3
    intro h14
    intro v15
    have n14 : ¬ ovB (lstX deX x0) ⟨x1, x2, x3, x4, x5, x6⟩ = true := h14
    have s15 : (x8 < 0 ∧ x8 ≤ v15.i ∧ v15.i ≤ 0) ∨ (¬ x8 < 0 ∧ 0 ≤ v15.i ∧ v15.i ≤ x8) := sl_sign q8 n14
    have r15 : -64 ≤ v15.i ∧ v15.i ≤ 64 := by omega
    have st8 : ((bif (decide (x8 < 0)) then (-1) else 1) : Int) = stB x8 := rfl
    have sn8 : (x8 < 0 → stB x8 = -1) ∧ (¬ x8 < 0 → stB x8 = 1) := ⟨stB_neg, stB_pos⟩
    refine And.intro ?_ ?_
    · intro h17
      skip -- #4
      rw [st8] at h17
      exfalso
      by_cases hd : x8 < 0
      · rw [sn8.1 hd] at h17
        omega
      · rw [sn8.2 hd] at h17
        omega
    intro h18
    refine andI ?_ fun o19 => ?_
    · skip -- #5
      show (0 ≤ 0 ∧ 0 ≤ v15.i) ∨ (v15.i ≤ 0 ∧ 0 ≤ 0)
      omega
    intro x20
    intro h20
    intro p21
    have p21 : (0 ≤ x20.i ∧ x20.i ≤ v15.i) ∨ (v15.i ≤ x20.i ∧ x20.i ≤ 0) := p21
    refine And.intro ?_ ?_
    · intro h23
      have k23 : (0 ≤ x20.i + stB x8 ∧ x20.i + stB x8 ≤ v15.i) ∨ (v15.i ≤ x20.i + stB x8 ∧ x20.i + stB x8 ≤ 0) := by omega
      intro v24
      intro v25
      intro v26
      intro v27
      intro v28
      intro v29
      intro v30
      refine And.intro ?_ ?_
      · intro h32
        exact absurd h32 (sl_no q8 n14 k23) -- #6
      intro h33
      refine andI ?_ fun o34 => ?_
      · skip -- #7
        rw [st8]
        omega
      refine andI ?_ fun o35 => ?_
      · skip -- #8
        rw [st8]
        omega
      refine andI ?_ fun o36 => ?_
      · exact k23 -- #9
      intro v37
      intro v38
      refine andI ?_ fun o39 => ?_
      · skip -- #10
        show 1 + ((v15.i - (x20.i + stB x8)).natAbs : Int) < 1 + ((v15.i - x20.i).natAbs : Int)
        omega
      skip -- #11
      show 0 < 1 + ((v15.i - x20.i).natAbs : Int)
      omega
    intro h40
    intro v41
    intro v42
    intro v43
    intro v44
    intro v45
    intro v46
    have r46 := mv_rng (q := ⟨x1, x2, x3, x4, x5, x6⟩) (x := x7) q5 r15
    intro v47
    refine And.intro ?_ ?_
    · intro h49
      exact r46.1.1 -- #12
    refine And.intro ?_ ?_
    · intro h51
      exact r46.1.2 -- #13
    refine And.intro ?_ ?_
    · intro h53
      exact r46.2.1.1 -- #14
    refine And.intro ?_ ?_
    · intro h55
      exact r46.2.1.2 -- #15
    refine And.intro ?_ ?_
    · intro h57
      exact r46.2.2.1.1 -- #16
    refine And.intro ?_ ?_
    · intro h59
      exact r46.2.2.1.2 -- #17
    refine And.intro ?_ ?_
    · intro h61
      exact r46.2.2.2.1.1 -- #18
    refine And.intro ?_ ?_
    · intro h63
      exact r46.2.2.2.1.2 -- #19
    refine And.intro ?_ ?_
    · intro h65
      exact r46.2.2.2.2.1.1 -- #20
    refine And.intro ?_ ?_
    · intro h67
      exact r46.2.2.2.2.1.2 -- #21
    refine And.intro ?_ ?_
    · intro h69
      exact r46.2.2.2.2.2.1 -- #22
    refine And.intro ?_ ?_
    · intro h71
      exact r46.2.2.2.2.2.2 -- #23
    refine And.intro ?_ ?_
    · intro h73
      exact h2 -- #24
    intro v74
    skip -- #25
    refine ⟨?_, sl_back (q := ⟨x1, x2, x3, x4, x5, x6⟩) q8 n14⟩
    refine (sl_stop q8 n14).imp id fun h => ?_
    rw [← mv_add, ← mv_lit] at h
    exact h
  intro h75
  rfl -- #26

/-! ### The frame -/
theorem shape_flat : flatR sh = [.row [.int .i64 (-9223372036854775808) (9223372036854775807), .int .i64 (-9223372036854775808) (9223372036854775807), .int .i64 (-9223372036854775808) (9223372036854775807), .int .i64 (-9223372036854775808) (9223372036854775807), .int .i64 (-9223372036854775808) (9223372036854775807), .int .i64 (-9223372036854775808) (9223372036854775807)] 9223372036854775807, .int .i64 (-9223372036854775808) 9223372036854775807, .int .i64 (-9223372036854775808) 9223372036854775807, .int .i64 (-9223372036854775808) 9223372036854775807, .int .i64 (-9223372036854775808) 9223372036854775807, .int .i64 (-9223372036854775808) 9223372036854775807, .int .i64 (-9223372036854775808) 9223372036854775807, .int .i64 (-9223372036854775808) 9223372036854775807, .int .i64 (-9223372036854775808) 9223372036854775807] := by kernel_rfl
theorem lawful (ds : Ds) (hr : rshX sh ds) : (walkR Try.prog (cfN N41 none [cSane, cMv] R41 lpSlides sumL) Try.f5 400 sh).law { ρ0 with x := fun j => ds.getD j (xI 0) } := by
  have hr := rshX_flat hr
  rw [shape_flat] at hr
  match ds, hr with
  | [d0, d1, d2, d3, d4, d5, d6, d7, d8], hr =>
    obtain ⟨l0, ⟨e1, l1, u1⟩, ⟨e2, l2, u2⟩, ⟨e3, l3, u3⟩, ⟨e4, l4, u4⟩, ⟨e5, l5, u5⟩, ⟨e6, l6, u6⟩, ⟨e7, l7, u7⟩, ⟨e8, l8, u8⟩, _⟩ := hr
    generalize d0 = x0 at *
    generalize d1.i = x1 at *
    generalize d2.i = x2 at *
    generalize d3.i = x3 at *
    generalize d4.i = x4 at *
    generalize d5.i = x5 at *
    generalize d6.i = x6 at *
    generalize d7.i = x7 at *
    generalize d8.i = x8 at *
    subst e1 e2 e3 e4 e5 e6 e7 e8
    exact Eq.mpr (link x0 x1 x2 x3 x4 x5 x6 x7 x8) (lawP_ok x0 x1 x2 x3 x4 x5 x6 x7 x8 l0 ⟨l1, u1⟩ ⟨l2, u2⟩ ⟨l3, u3⟩ ⟨l4, u4⟩ ⟨l5, u5⟩ ⟨l6, u6⟩ ⟨l7, u7⟩ ⟨l8, u8⟩)
theorem shape {H : Type} {ds : List (DataW H)} (h : ds.length = 4) : Rows.collideSlidesSpec.fn H ds = { results := [.lit (.bool true)], args := ds } := by
  match ds, h with
  | [d1, d2, d3, d4], _ => rfl
theorem calls {H : Type} {enc : TypeId × Value → H} (W : World) (base : Nat) (args : Array Value) (ds : List (DataW H)) (p : List MemPlace) (hval : ∀ (j : Nat) t v, Try.f5.params[j]? = some t → args[j]? = some v → Value.okWide Try.prog W .any base t v)
    (hA : DataW.TrodAll enc Try.prog W 0 (fun _ => true) true Try.f5.params.toList args.toList ds p) (hg : GlobOk ρ0.g W.heap.size W) : Calls Try.prog 5 args W fun e w' => e = .returned (.bool true) ∧ Below W.heap.size W w' := by
  rw [Try.params5] at hA hval
  have hs : shTs Try.prog [22, 26, 3, 3] = some sh := by
    have : (shTs Try.prog [22, 26, 3, 3]).isSome = true := by kernel_rfl
    obtain ⟨s, h⟩ := Option.isSome_iff_exists.1 this
    unfold sh
    rw [h]; rfl
  obtain ⟨ds', hr⟩ := args_rel hA (fun i t v ht hv => hval i t v (by simpa using ht) (by simpa using hv)) hs
  have := law_callsR (L41s_ok) Try.func5 rfl 400 hg hr lawful
  simpa using this
set_option maxRecDepth 100000 in
theorem lifted (os : Os) (started : os.Started) (H : Type) (enc : TypeId × Value → H) :
    ReturnsInHanded {} Try.checked os 5 .any (Rows.collideSlidesSpec.pre6 enc Try.prog Try.f5 Rows.collideSlidesRow.domain false) (Rows.collideSlidesSpec.post enc Try.prog Try.f5 false true false false) := by
  refine returnsInHanded_of_change (C := Try.checked) own started (by kernel_rfl) Try.func5
    (ChangeSpec.witness6 (enc := enc) (C := Try.checked) false ⟨#[], #[((Try.prog.info? 22).bind (·.zero)).getD undef, ((Try.prog.info? 26).bind (·.zero)).getD undef, ((Try.prog.info? 3).bind (·.zero)).getD undef, ((Try.prog.info? 3).bind (·.zero)).getD undef], []⟩ 8 (by kernel_rfl) (by kernel_rfl) (by kernel_rfl) (by kernel_rfl)) ?_
  intro W base args ds gs before hval hW _ _
  have hW0 := hW
  obtain ⟨p, q, hA, hV, _⟩ := hW0
  have hlen : ds.length = 4 := (trodAll_len hA).trans (by kernel_rfl)
  refine (calls W base args ds p hval hA (glob_ok W)).mono fun e W' ⟨he, hb⟩ => ?_
  subst he
  exact ⟨_, rfl, law_post kids slices (by rw [Try.params5]; decide +kernel) rfl rfl Try.underlying4 (shape hlen) hW hb⟩

theorem over : Rows.CollideSlidesSaid :=
  OpenClaim.holds_of_wide 5 Try.f5 rfl rfl rfl rfl rfl rfl rfl ⟨rfl, rfl, rfl, rfl, rfl⟩ rfl rfl rfl rfl rfl (by kernel_rfl) Try.func5 (by kernel_rfl)
    (of_decide_eq_true (by kernel_rfl)) (by unfold Func.isWrapper; first | (rw [if_pos (by decide +kernel)]; kernel_rfl) | (rw [if_neg (by decide +kernel)]; exact ⟨rfl, rfl⟩))
    (fun os started H enc _ => lifted os started H enc)

/-- The statement. -/
theorem proved : Rows.CollideSlidesSaid := over
#print axioms proved
end Go.Proofs.Ytokicaoapclicaa.collideSlides
