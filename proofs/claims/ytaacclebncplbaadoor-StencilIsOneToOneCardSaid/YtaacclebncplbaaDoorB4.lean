/- Proved: StencilIsOneToOne: the statement 'StencilIsOneToOneCardSaid' of this seat, for every input that it names; no condition besides. -/
import Derived.Test.YtaacclebncplbaaDoorC20T
import Derived.Test.YtaacclebncplbaaDoorC20N
import Derived.Test.YtaacclebncplbaaDoorRows
import Derived.Test.YtaacclebncplbaaDoorCards
import Derived.Test.YtaacclebncplbaaDoorTie
import Derived.SevenTiedAt
import Derived.ProofKit
import Derived.LaidMore
import Derived.Stop.Joined
namespace Go.Proofs.YtaacclebncplbaaDoor.stencilIsOneToOne
open Go Go.ChangeShapes Go.WideShapes Go.ChangeAt Go.RowKit Vc
set_option linter.unusedVariables false
def lawP (x0 x1 x2 x3 x4 x5 x6 x7 x8 x9 : Int) : Prop :=
(((((¬ ((((((((((-1000) ≤ x0) ∧ ((-1000) ≤ x1)) ∧ ((-1000) ≤ x2)) ∧ (x0 ≤ 1000)) ∧ (x1 ≤ 1000)) ∧ (x2 ≤ 1000)) ∧ (((((((-1000) ≤ x3) ∧ ((-1000) ≤ x4)) ∧ ((-1000) ≤ x5)) ∧ (x3 ≤ 1000)) ∧ (x4 ≤ 1000)) ∧ (x5 ≤ 1000))) ∧ ((((((((-1000) ≤ x7) ∧ ((-1000) ≤ x8)) ∧ ((-1000) ≤ x9)) ∧ (x7 ≤ 1000)) ∧ (x8 ≤ 1000)) ∧ (x9 ≤ 1000)) ∧ (((((((-1000) ≤ x7) ∧ ((-1000) ≤ x8)) ∧ ((-1000) ≤ x9)) ∧ (x7 ≤ 1000)) ∧ (x8 ≤ 1000)) ∧ (x9 ≤ 1000)))) ∧ ((IntKind.wrap Go.IntKind.i64 ((IntKind.wrap Go.IntKind.i64 ((bif (((decide (x3 ≤ x0)) || (decide (x4 ≤ x1))) || (decide (x5 ≤ x2))) then 0 else (IntKind.wrap Go.IntKind.i64 (x3 - x0))) * (bif (((decide (x3 ≤ x0)) || (decide (x4 ≤ x1))) || (decide (x5 ≤ x2))) then 0 else (IntKind.wrap Go.IntKind.i64 (x4 - x1))))) * (bif (((decide (x3 ≤ x0)) || (decide (x4 ≤ x1))) || (decide (x5 ≤ x2))) then 0 else (IntKind.wrap Go.IntKind.i64 (x5 - x2))))) ≤ 520))) ∨ (x6 < 0)) ∨ (47 < x6)) →
(true = true)) ∧
((¬ (((¬ ((((((((((-1000) ≤ x0) ∧ ((-1000) ≤ x1)) ∧ ((-1000) ≤ x2)) ∧ (x0 ≤ 1000)) ∧ (x1 ≤ 1000)) ∧ (x2 ≤ 1000)) ∧ (((((((-1000) ≤ x3) ∧ ((-1000) ≤ x4)) ∧ ((-1000) ≤ x5)) ∧ (x3 ≤ 1000)) ∧ (x4 ≤ 1000)) ∧ (x5 ≤ 1000))) ∧ ((((((((-1000) ≤ x7) ∧ ((-1000) ≤ x8)) ∧ ((-1000) ≤ x9)) ∧ (x7 ≤ 1000)) ∧ (x8 ≤ 1000)) ∧ (x9 ≤ 1000)) ∧ (((((((-1000) ≤ x7) ∧ ((-1000) ≤ x8)) ∧ ((-1000) ≤ x9)) ∧ (x7 ≤ 1000)) ∧ (x8 ≤ 1000)) ∧ (x9 ≤ 1000)))) ∧ ((IntKind.wrap Go.IntKind.i64 ((IntKind.wrap Go.IntKind.i64 ((bif (((decide (x3 ≤ x0)) || (decide (x4 ≤ x1))) || (decide (x5 ≤ x2))) then 0 else (IntKind.wrap Go.IntKind.i64 (x3 - x0))) * (bif (((decide (x3 ≤ x0)) || (decide (x4 ≤ x1))) || (decide (x5 ≤ x2))) then 0 else (IntKind.wrap Go.IntKind.i64 (x4 - x1))))) * (bif (((decide (x3 ≤ x0)) || (decide (x4 ≤ x1))) || (decide (x5 ≤ x2))) then 0 else (IntKind.wrap Go.IntKind.i64 (x5 - x2))))) ≤ 520))) ∨ (x6 < 0)) ∨ (47 < x6))) →
(Px 1080 [xI x0, xI x1, xI x2, xI x3, xI x4, xI x5, xI x6, xI x7, xI x8, xI x9] ∧
(let v4 := Ff 1000 [xI x0, xI x1, xI x2, xI x3, xI x4, xI x5, xI x6, xI x7, xI x8, xI x9]; let v5 := Ff 1001 [xI x0, xI x1, xI x2, xI x3, xI x4, xI x5, xI x6, xI x7, xI x8, xI x9]; let v6 := Ff 1002 [xI x0, xI x1, xI x2, xI x3, xI x4, xI x5, xI x6, xI x7, xI x8, xI x9]; let v7 := Ff 1003 [xI x0, xI x1, xI x2, xI x3, xI x4, xI x5, xI x6, xI x7, xI x8, xI x9]; let v8 := Ff 1004 [xI x0, xI x1, xI x2, xI x3, xI x4, xI x5, xI x6, xI x7, xI x8, xI x9]; let v9 := Ff 1005 [xI x0, xI x1, xI x2, xI x3, xI x4, xI x5, xI x6, xI x7, xI x8, xI x9]; let v10 := Ff 210 [xI v4.i, xI v5.i, xI v6.i, xI v7.i, xI v8.i, xI v9.i]; let v11 := Ff 210 [xI x0, xI x1, xI x2, xI x3, xI x4, xI x5]; (((¬ (v10.i = v11.i)) →
(false = true)) ∧
((v10.i = v11.i) →
(Px 1078 [xI 0] ∧
(∀ x20 : X, (((0 ≤ x20.i) ∧ (x20.i ≤ 2097152)) →
(Px 1078 [x20] →
(((x20.i < v11.i) →
(let v20 := Ff 270 [xI x0, xI x1, xI x2, xI x3, xI x4, xI x5, xI x20.i]; let v21 := Ff 271 [xI x0, xI x1, xI x2, xI x3, xI x4, xI x5, xI x20.i]; let v22 := Ff 272 [xI x0, xI x1, xI x2, xI x3, xI x4, xI x5, xI x20.i]; (Px 1081 [xI x0, xI x1, xI x2, xI x3, xI x4, xI x5, xI x6, xI x7, xI x8, xI x9, xI v20.i, xI v21.i, xI v22.i] ∧
(let v24 := Ff 1010 [xI x0, xI x1, xI x2, xI x3, xI x4, xI x5, xI x6, xI x7, xI x8, xI x9, xI v20.i, xI v21.i, xI v22.i]; let v25 := Ff 1011 [xI x0, xI x1, xI x2, xI x3, xI x4, xI x5, xI x6, xI x7, xI x8, xI x9, xI v20.i, xI v21.i, xI v22.i]; let v26 := Ff 1012 [xI x0, xI x1, xI x2, xI x3, xI x4, xI x5, xI x6, xI x7, xI x8, xI x9, xI v20.i, xI v21.i, xI v22.i]; (Px 1082 [xI x0, xI x1, xI x2, xI x3, xI x4, xI x5, xI x6, xI x7, xI x8, xI x9, xI v24.i, xI v25.i, xI v26.i] ∧
(let v28 := Ff 1013 [xI x0, xI x1, xI x2, xI x3, xI x4, xI x5, xI x6, xI x7, xI x8, xI x9, xI v20.i, xI v21.i, xI v22.i]; let v29 := Ff 201 [xI v24.i, xI v25.i, xI v26.i, xI v4.i, xI v5.i, xI v6.i, xI v7.i, xI v8.i, xI v9.i]; let v30 := Ff 1023 [xI x0, xI x1, xI x2, xI x3, xI x4, xI x5, xI x6, xI x7, xI x8, xI x9, xI v24.i, xI v25.i, xI v26.i]; let v31 := Ff 1020 [xI x0, xI x1, xI x2, xI x3, xI x4, xI x5, xI x6, xI x7, xI x8, xI x9, xI v24.i, xI v25.i, xI v26.i]; let v32 := Ff 1021 [xI x0, xI x1, xI x2, xI x3, xI x4, xI x5, xI x6, xI x7, xI x8, xI x9, xI v24.i, xI v25.i, xI v26.i]; let v33 := Ff 1022 [xI x0, xI x1, xI x2, xI x3, xI x4, xI x5, xI x6, xI x7, xI x8, xI x9, xI v24.i, xI v25.i, xI v26.i]; ((((((¬ (v28.b = true)) ∨ (¬ (v29.b = true))) ∨ (¬ (v30.b = true))) ∨ (¬ ((v31.i = v20.i) ∧ ((v32.i = v21.i) ∧ (v33.i = v22.i))))) →
(false = true)) ∧
((¬ ((((¬ (v28.b = true)) ∨ (¬ (v29.b = true))) ∨ (¬ (v30.b = true))) ∨ (¬ ((v31.i = v20.i) ∧ ((v32.i = v21.i) ∧ (v33.i = v22.i)))))) →
(let v37 := Ff 270 [xI v4.i, xI v5.i, xI v6.i, xI v7.i, xI v8.i, xI v9.i, xI x20.i]; let v38 := Ff 271 [xI v4.i, xI v5.i, xI v6.i, xI v7.i, xI v8.i, xI v9.i, xI x20.i]; let v39 := Ff 272 [xI v4.i, xI v5.i, xI v6.i, xI v7.i, xI v8.i, xI v9.i, xI x20.i]; (Px 1082 [xI x0, xI x1, xI x2, xI x3, xI x4, xI x5, xI x6, xI x7, xI x8, xI x9, xI v37.i, xI v38.i, xI v39.i] ∧
(let v41 := Ff 1020 [xI x0, xI x1, xI x2, xI x3, xI x4, xI x5, xI x6, xI x7, xI x8, xI x9, xI v37.i, xI v38.i, xI v39.i]; let v42 := Ff 1021 [xI x0, xI x1, xI x2, xI x3, xI x4, xI x5, xI x6, xI x7, xI x8, xI x9, xI v37.i, xI v38.i, xI v39.i]; let v43 := Ff 1022 [xI x0, xI x1, xI x2, xI x3, xI x4, xI x5, xI x6, xI x7, xI x8, xI x9, xI v37.i, xI v38.i, xI v39.i]; (Px 1081 [xI x0, xI x1, xI x2, xI x3, xI x4, xI x5, xI x6, xI x7, xI x8, xI x9, xI v41.i, xI v42.i, xI v43.i] ∧
(let v45 := Ff 1023 [xI x0, xI x1, xI x2, xI x3, xI x4, xI x5, xI x6, xI x7, xI x8, xI x9, xI v37.i, xI v38.i, xI v39.i]; let v46 := Ff 1013 [xI x0, xI x1, xI x2, xI x3, xI x4, xI x5, xI x6, xI x7, xI x8, xI x9, xI v41.i, xI v42.i, xI v43.i]; let v47 := Ff 1010 [xI x0, xI x1, xI x2, xI x3, xI x4, xI x5, xI x6, xI x7, xI x8, xI x9, xI v41.i, xI v42.i, xI v43.i]; let v48 := Ff 1011 [xI x0, xI x1, xI x2, xI x3, xI x4, xI x5, xI x6, xI x7, xI x8, xI x9, xI v41.i, xI v42.i, xI v43.i]; let v49 := Ff 1012 [xI x0, xI x1, xI x2, xI x3, xI x4, xI x5, xI x6, xI x7, xI x8, xI x9, xI v41.i, xI v42.i, xI v43.i]; (((((¬ (v45.b = true)) ∨ (¬ (v46.b = true))) ∨ (¬ ((v47.i = v37.i) ∧ ((v48.i = v38.i) ∧ (v49.i = v39.i))))) →
(false = true)) ∧
((¬ (((¬ (v45.b = true)) ∨ (¬ (v46.b = true))) ∨ (¬ ((v47.i = v37.i) ∧ ((v48.i = v38.i) ∧ (v49.i = v39.i)))))) →
(((x20.i + 1) ≤ 2097152) ∧
(Px 1078 [(xI (x20.i + 1))] ∧
(let v55 := Ff 1078 [(xI (x20.i + 1))]; let v56 := Ff 1078 [x20]; ((v55.i < v56.i) ∧
(0 < v56.i)))))))))))))))))))) ∧
((¬ (x20.i < v11.i)) →
(true = true)))))))))))))
noncomputable def sh : List RSh := (shTs Tryd.prog [25, 3, 23]).getD []
attribute [irreducible] sh
theorem link (x0 x1 x2 x3 x4 x5 x6 x7 x8 x9 : Int) : (walkR Tryd.prog (cfG none L20 R20 lpOne sumC) Tryd.f4 1600 sh).law { ρ0 with x := fun j => [xI x0, xI x1, xI x2, xI x3, xI x4, xI x5, xI x6, xI x7, xI x8, xI x9].getD j (xI 0) } = lawP x0 x1 x2 x3 x4 x5 x6 x7 x8 x9 := by kernel_rfl
set_option maxHeartbeats 4000000 in
theorem lawP_ok (x0 x1 x2 x3 x4 x5 x6 x7 x8 x9 : Int) (g0 : -9223372036854775808 ≤ x0 ∧ x0 ≤ 9223372036854775807) (g1 : -9223372036854775808 ≤ x1 ∧ x1 ≤ 9223372036854775807) (g2 : -9223372036854775808 ≤ x2 ∧ x2 ≤ 9223372036854775807) (g3 : -9223372036854775808 ≤ x3 ∧ x3 ≤ 9223372036854775807) (g4 : -9223372036854775808 ≤ x4 ∧ x4 ≤ 9223372036854775807) (g5 : -9223372036854775808 ≤ x5 ∧ x5 ≤ 9223372036854775807) (g6 : -9223372036854775808 ≤ x6 ∧ x6 ≤ 9223372036854775807) (g7 : -9223372036854775808 ≤ x7 ∧ x7 ≤ 9223372036854775807) (g8 : -9223372036854775808 ≤ x8 ∧ x8 ≤ 9223372036854775807) (g9 : -9223372036854775808 ≤ x9 ∧ x9 ≤ 9223372036854775807) : lawP x0 x1 x2 x3 x4 x5 x6 x7 x8 x9 := by
  unfold lawP
  refine And.intro ?_ ?_
  · intro h1
    rfl
  intro h2
  have hb : nB 1000 (bxI x0 x1 x2 x3 x4 x5) := by
    show ((-1000 ≤ x0 ∧ x0 ≤ 1000) ∧ (-1000 ≤ x1 ∧ x1 ≤ 1000) ∧ (-1000 ≤ x2 ∧ x2 ≤ 1000)) ∧ (-1000 ≤ x3 ∧ x3 ≤ 1000) ∧ (-1000 ≤ x4 ∧ x4 ≤ 1000) ∧ (-1000 ≤ x5 ∧ x5 ≤ 1000)
    omega
  have ha : nP 1000 (x7, x8, x9) := by
    show (-1000 ≤ x7 ∧ x7 ≤ 1000) ∧ (-1000 ≤ x8 ∧ x8 ≤ 1000) ∧ (-1000 ≤ x9 ∧ x9 ≤ 1000)
    omega
  have hk : inT x6 := by
    show 0 ≤ x6 ∧ x6 < 48
    omega
  have hw := Decidable.not_not.1 (not_or.1 (not_or.1 h2).1).1
  have hV : (bxI x0 x1 x2 x3 x4 x5).vol ≤ 520 := vol_wr hb hw.2
  refine andI ?_ fun o3 => ?_
  · exact ⟨nB_mono hb (by decide), nP_mono ha (by decide)⟩
  intro v4 v5 v6 v7 v8 v9 v10 v11
  have e11 : v10.i = v11.i := tg_vol hk
  refine And.intro ?_ ?_
  · intro h13
    exact absurd e11 h13
  intro h14
  refine andI ?_ fun o15 => ?_
  · exact Int.le_refl _
  intro x20 h16 p17
  refine And.intro ?_ ?_
  · intro h19
    have hP : (bxI x0 x1 x2 x3 x4 x5).has ((bxI x0 x1 x2 x3 x4 x5).at x20.i) = true := at_has h16.1 h19
    have hR : (tg2 (bxI x0 x1 x2 x3 x4 x5) x6 (x7, x8, x9)).has ((tg2 (bxI x0 x1 x2 x3 x4 x5) x6 (x7, x8, x9)).at x20.i) = true := at_has h16.1 (by rw [tg_vol hk]; exact h19)
    intro v20 v21 v22
    refine andI ?_ fun o23 => ?_
    · exact ⟨nB_mono hb (by decide), nP_mono ha (by decide)⟩
    intro v24 v25 v26
    refine andI ?_ fun o27 => ?_
    · exact ⟨nB_mono hb (by decide), nP_mono ha (by decide)⟩
    intro v28 v29 v30 v31 v32 v33
    have e28 : v28.b = true := congrArg Prod.snd (pl_ad (a := (x7, x8, x9)) hk hP)
    have e29 : v29.b = true := tg_has (a := (x7, x8, x9)) hk hP
    have e30 := sr_pl (a := (x7, x8, x9)) hk hP
    refine And.intro ?_ ?_
    · intro h35
      rcases h35 with ((h | h) | h) | h
      · exact absurd e28 h
      · exact absurd e29 h
      · exact absurd (congrArg Prod.snd e30) h
      · exact absurd ⟨congrArg (fun t => t.1.1) e30, congrArg (fun t => t.1.2.1) e30, congrArg (fun t => t.1.2.2) e30⟩ h
    intro h36 v37 v38 v39
    refine andI ?_ fun o40 => ?_
    · exact ⟨nB_mono hb (by decide), nP_mono ha (by decide)⟩
    intro v41 v42 v43
    refine andI ?_ fun o44 => ?_
    · exact ⟨nB_mono hb (by decide), nP_mono ha (by decide)⟩
    intro v45 v46 v47 v48 v49
    obtain ⟨y, hy⟩ := tg_sr (a := (x7, x8, x9)) hk hR
    obtain ⟨y1, y2, y3⟩ := pl_sr hy
    have e1 : (sr2 (bxI x0 x1 x2 x3 x4 x5) x6 (x7, x8, x9) ((tg2 (bxI x0 x1 x2 x3 x4 x5) x6 (x7, x8, x9)).at x20.i)).1 = y := congrArg Prod.fst hy
    rw [← e1] at y3
    refine And.intro ?_ ?_
    · intro h51
      rcases h51 with (h | h) | h
      · exact absurd (congrArg Prod.snd hy) h
      · exact absurd (congrArg Prod.snd y3) h
      · exact absurd ⟨congrArg (fun t => t.1.1) y3, congrArg (fun t => t.1.2.1) y3, congrArg (fun t => t.1.2.2) y3⟩ h
    intro h52
    refine andI ?_ fun o53 => ?_
    · have : x20.i < (bxI x0 x1 x2 x3 x4 x5).vol := h19
      omega
    refine andI ?_ fun o54 => ?_
    · show 0 ≤ x20.i + 1
      omega
    intro v55 v56
    refine andI ?_ fun o57 => ?_
    · show 3000000 - (x20.i + 1) < 3000000 - x20.i
      omega
    show 0 < 3000000 - x20.i
    omega
  intro h58
  rfl
theorem shape_flat : flatR sh = [.int .i64 (-9223372036854775808) 9223372036854775807, .int .i64 (-9223372036854775808) 9223372036854775807, .int .i64 (-9223372036854775808) 9223372036854775807, .int .i64 (-9223372036854775808) 9223372036854775807, .int .i64 (-9223372036854775808) 9223372036854775807, .int .i64 (-9223372036854775808) 9223372036854775807, .int .i64 (-9223372036854775808) 9223372036854775807, .int .i64 (-9223372036854775808) 9223372036854775807, .int .i64 (-9223372036854775808) 9223372036854775807, .int .i64 (-9223372036854775808) 9223372036854775807] := by kernel_rfl
theorem lawful (ds : Ds) (hr : rshX sh ds) : (walkR Tryd.prog (cfG none L20 R20 lpOne sumC) Tryd.f4 1600 sh).law { ρ0 with x := fun j => ds.getD j (xI 0) } := by
  have hr := rshX_flat hr
  rw [shape_flat] at hr
  match ds, hr with
  | [d0, d1, d2, d3, d4, d5, d6, d7, d8, d9], hr =>
    obtain ⟨⟨e0, l0, u0⟩, ⟨e1, l1, u1⟩, ⟨e2, l2, u2⟩, ⟨e3, l3, u3⟩, ⟨e4, l4, u4⟩, ⟨e5, l5, u5⟩, ⟨e6, l6, u6⟩, ⟨e7, l7, u7⟩, ⟨e8, l8, u8⟩, ⟨e9, l9, u9⟩, _⟩ := hr
    generalize d0.i = x0, d1.i = x1, d2.i = x2, d3.i = x3, d4.i = x4, d5.i = x5, d6.i = x6, d7.i = x7, d8.i = x8, d9.i = x9 at *
    subst e0 e1 e2 e3 e4 e5 e6 e7 e8 e9
    exact Eq.mpr (link x0 x1 x2 x3 x4 x5 x6 x7 x8 x9) (lawP_ok x0 x1 x2 x3 x4 x5 x6 x7 x8 x9 ⟨l0, u0⟩ ⟨l1, u1⟩ ⟨l2, u2⟩ ⟨l3, u3⟩ ⟨l4, u4⟩ ⟨l5, u5⟩ ⟨l6, u6⟩ ⟨l7, u7⟩ ⟨l8, u8⟩ ⟨l9, u9⟩)
theorem shape {H : Type} {ds : List (DataW H)} (h : ds.length = 3) : Rows.stencilIsOneToOneSpec.fn H ds = { results := [.lit (.bool true)], args := ds } := by
  match ds, h with
  | [d1, d2, d3], _ => rfl
set_option maxRecDepth 100000 in
theorem calls {H : Type} {enc : TypeId × Value → H} (W : World) (base : Nat) (args : Array Value) (ds : List (DataW H)) (p : List MemPlace) (hval : ∀ (j : Nat) t v, Tryd.f4.params[j]? = some t → args[j]? = some v → Value.okWide Tryd.prog W .any base t v)
    (hA : DataW.TrodAll enc Tryd.prog W 0 (fun _ => true) true Tryd.f4.params.toList args.toList ds p) (hg : GlobOk ρ0.g W.heap.size W) : Calls Tryd.prog 4 args W fun e w' => e = .returned (.bool true) ∧ Below W.heap.size W w' := by
  rw [Tryd.params4] at hA hval
  have hs : shTs Tryd.prog [25, 3, 23] = some sh := by
    have : (shTs Tryd.prog [25, 3, 23]).isSome = true := by kernel_rfl
    obtain ⟨s, h⟩ := Option.isSome_iff_exists.1 this
    unfold sh
    rw [h]; rfl
  obtain ⟨ds', hr⟩ := args_rel hA (fun i t v ht hv => hval i t v (by simpa using ht) (by simpa using hv)) hs
  have := law_callsR (L20_ok) Tryd.func4 rfl 1600 hg hr lawful
  simpa using this
set_option maxRecDepth 100000 in
theorem lifted (os : Os) (started : os.Started) (H : Type) (enc : TypeId × Value → H) :
    ReturnsInHanded {} Tryd.checked os 4 .any (fun w args => (Rows.stencilIsOneToOneSpec.pre enc Tryd.prog Tryd.f4 [] false w args ∧ laidMetH Tryd.prog [("voxel/point.axes", Rows.laid_voxel_point_axes)] w) ∧ sizedMet enc Tryd.prog Tryd.f4 (OpenSpec.ofChange Rows.stencilIsOneToOneSpec) false w args)
      (Rows.stencilIsOneToOneSpec.post enc Tryd.prog Tryd.f4 false true false false) := by
  refine returnsInHanded_of_change_and (C := Tryd.checked) (X := fun w _ => laidMetH Tryd.prog [("voxel/point.axes", Rows.laid_voxel_point_axes)] w) (fun _ _ _ hh h => h.of_heap hh) own started (by kernel_rfl) Tryd.func4
    (ChangeSpec.witness_shaped (enc := enc) (C := Tryd.checked) (os := os) (X := fun w _ => laidMetH Tryd.prog [("voxel/point.axes", Rows.laid_voxel_point_axes)] w) false (World.doorLaid Tryd.prog 400 os) #[((Tryd.prog.info? 25).bind (·.zero)).getD undef, ((Tryd.prog.info? 3).bind (·.zero)).getD undef, ((Tryd.prog.info? 23).bind (·.zero)).getD undef] 8 rfl (World.shaped_of_RefB (by kernel_rfl) (by kernel_rfl)) (by kernel_rfl) (by kernel_rfl) (by kernel_rfl) (door_met os _)) ?_
  intro W base args ds gs before hval hW _ _ hL _
  have hW0 := hW
  obtain ⟨p, q, hA, hV, _⟩ := hW0
  have hlen : ds.length = 3 := (trodAll_len hA).trans (by kernel_rfl)
  refine (calls W base args ds p hval hA (glob_ok hL)).mono fun e W' ⟨he, hb⟩ => ?_
  subst he
  exact ⟨_, rfl, law_post kids slices (by rw [Tryd.params4]; decide +kernel) rfl rfl Tryd.underlying4 (shape hlen) hW hb⟩
theorem over : Rows.StencilIsOneToOneSaid :=
  OpenClaim.holds_of_wide 4 Tryd.f4 rfl rfl rfl rfl rfl rfl rfl ⟨rfl, rfl, rfl, rfl, rfl⟩ rfl rfl rfl rfl rfl (by kernel_rfl) Tryd.func4 (by kernel_rfl)
    (of_decide_eq_true (by kernel_rfl)) (by unfold Func.isWrapper; first | (rw [if_pos (by decide +kernel)]; kernel_rfl) | (rw [if_neg (by decide +kernel)]; exact ⟨rfl, rfl⟩))
    (fun os started H enc _ => lifted os started H enc)
theorem proved : Rows.StencilIsOneToOneCardSaid :=
  Claim7.holds_tied_plain_at .later [] [.data] true (true, "9bfe27fa9d84c254ff0571e75aaabbc0b0d4bc58d3ea5bd9174ceb37d1b9be15") false
    over (fun _ h => by cases h) (by kernel_rfl) (fun _ h => by cases h) stencilIsOneToOne_row_tie rfl ⟨rfl, rfl⟩ (by kernel_rfl) rfl
    (fun f fn hf hfn => by
      obtain rfl : f = 4 := Option.some.inj ((show Tryd.prog.funcNamed "voxel/voxellaw20.StencilIsOneToOne" = some 4 by kernel_rfl).symm.trans hf) |>.symm
      obtain rfl : fn = Tryd.f4 := (Option.some.inj (Tryd.func4.symm.trans hfn)).symm
      exact ⟨by kernel_rfl, fun j t ht => by
        rw [Tryd.params4] at ht
        have hm : t ∈ [25, 3, 23] := by simpa using Array.mem_of_getElem? ht
        have hall : ([25, 3, 23].all fun u => !Tryd.prog.wantsStandIn u) = true := by kernel_rfl
        exact (show Tryd.prog.wantsStandIn t = false by simpa using List.all_eq_true.1 hall t hm)⟩)
    (by kernel_rfl)
#print axioms proved
end Go.Proofs.YtaacclebncplbaaDoor.stencilIsOneToOne
