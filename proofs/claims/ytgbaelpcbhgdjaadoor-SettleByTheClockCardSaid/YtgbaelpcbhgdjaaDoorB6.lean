/- Proved: SettleByTheClock: the statement 'SettleByTheClockCardSaid' of this seat, for every input that it names; no condition besides. -/
import Derived.Test.YtgbaelpcbhgdjaaDoorC30T
import Derived.Test.YtgbaelpcbhgdjaaDoorC30O
import Derived.Test.YtgbaelpcbhgdjaaDoorRows
import Derived.Test.YtgbaelpcbhgdjaaDoorCards
import Derived.Test.YtgbaelpcbhgdjaaDoorTie
import Derived.SevenTiedAt
import Derived.ProofKit
import Derived.LaidMore
import Derived.Stop.Joined
namespace Go.Proofs.YtgbaelpcbhgdjaaDoor.settleByTheClock
open Go Go.ChangeShapes Go.WideShapes Go.ChangeAt Go.RowKit Vc
set_option linter.unusedVariables false


/-- The law's walk, as the machine leaves it. -/
def lawP (x0 : Int) (x1 : Int) (x2 : Int) (x3 : Int) (x4 : Int) (x5 : Int) (x6 : X) (x7 : X) (x8 : Int) (x9 : Int) : Prop :=
(let v0 : X := Ff 861 [(xI x0), (xI x1), (xI x2), (xI x3), (xI x4), (xI x5), x6, x7]; (((((¬ (v0.b = true)) ∨ (x8 < (-1000000))) ∨ (1000000 < x8)) →
(true = true)) ∧
((¬ (((¬ (v0.b = true)) ∨ (x8 < (-1000000))) ∨ (1000000 < x8))) →
(Px 710 [(xI x0), (xI x1), (xI x2), (xI x3), (xI x4), (xI x5), x6, x7, (xI x8)] ∧
(Px 710 [(xI x0), (xI x1), (xI x2), (xI x3), (xI x4), (xI x5), x6, x7, (xI (x8 + (4 * x9)))] ∧
(let v6 : X := Ff 820 [(xI x0), (xI x1), (xI x2), (xI x3), (xI x4), (xI x5), x6, x7, (xI x8)]; let v7 : X := Ff 821 [(xI x0), (xI x1), (xI x2), (xI x3), (xI x4), (xI x5), x6, x7, (xI x8)]; let v8 : X := Ff 822 [(xI x0), (xI x1), (xI x2), (xI x3), (xI x4), (xI x5), x6, x7, (xI x8)]; let v9 : X := Ff 823 [(xI x0), (xI x1), (xI x2), (xI x3), (xI x4), (xI x5), x6, x7, (xI x8)]; let v10 : X := Ff 824 [(xI x0), (xI x1), (xI x2), (xI x3), (xI x4), (xI x5), x6, x7, (xI x8)]; let v11 : X := Ff 825 [(xI x0), (xI x1), (xI x2), (xI x3), (xI x4), (xI x5), x6, x7, (xI x8)]; let v12 : X := Ff 826 [(xI x0), (xI x1), (xI x2), (xI x3), (xI x4), (xI x5), x6, x7, (xI x8)]; let v13 : X := Ff 820 [(xI x0), (xI x1), (xI x2), (xI x3), (xI x4), (xI x5), x6, x7, (xI (x8 + (4 * x9)))]; let v14 : X := Ff 821 [(xI x0), (xI x1), (xI x2), (xI x3), (xI x4), (xI x5), x6, x7, (xI (x8 + (4 * x9)))]; let v15 : X := Ff 822 [(xI x0), (xI x1), (xI x2), (xI x3), (xI x4), (xI x5), x6, x7, (xI (x8 + (4 * x9)))]; let v16 : X := Ff 823 [(xI x0), (xI x1), (xI x2), (xI x3), (xI x4), (xI x5), x6, x7, (xI (x8 + (4 * x9)))]; let v17 : X := Ff 824 [(xI x0), (xI x1), (xI x2), (xI x3), (xI x4), (xI x5), x6, x7, (xI (x8 + (4 * x9)))]; let v18 : X := Ff 825 [(xI x0), (xI x1), (xI x2), (xI x3), (xI x4), (xI x5), x6, x7, (xI (x8 + (4 * x9)))]; let v19 : X := Ff 826 [(xI x0), (xI x1), (xI x2), (xI x3), (xI x4), (xI x5), x6, x7, (xI (x8 + (4 * x9)))]; let v20 : X := Ff 715 [(xI v6.i), (xI v7.i), (xI v8.i), (xI v9.i), (xI v10.i), (xI v11.i), v12, (xI v13.i), (xI v14.i), (xI v15.i), (xI v16.i), (xI v17.i), (xI v18.i), v19]; let v21 : X := Ff 827 [(xI x0), (xI x1), (xI x2), (xI x3), (xI x4), (xI x5), x6, x7, (xI x8)]; let v22 : X := Ff 827 [(xI x0), (xI x1), (xI x2), (xI x3), (xI x4), (xI x5), x6, x7, (xI (x8 + (4 * x9)))]; ((((¬ (v20.b = true)) ∨ (¬ (v21.i = v22.i))) →
(false = true)) ∧
((¬ ((¬ (v20.b = true)) ∨ (¬ (v21.i = v22.i)))) →
(((v21.i = 0) →
(true = true)) ∧
((¬ (v21.i = 0)) →
(Px 878 [(xI x0), (xI x1), (xI x2), (xI x3), (xI x4), (xI x5), x6, x7, (xI x8), (xI 10000)] ∧
(Px 878 [(xI v6.i), (xI v7.i), (xI v8.i), (xI v9.i), (xI v10.i), (xI v11.i), v12, x7, (xI (x8 + 1)), (xI 9999)] ∧
(let v31 : X := Ff 840 [(xI x0), (xI x1), (xI x2), (xI x3), (xI x4), (xI x5), x6, x7, (xI x8), (xI 10000)]; let v32 : X := Ff 841 [(xI x0), (xI x1), (xI x2), (xI x3), (xI x4), (xI x5), x6, x7, (xI x8), (xI 10000)]; let v33 : X := Ff 842 [(xI x0), (xI x1), (xI x2), (xI x3), (xI x4), (xI x5), x6, x7, (xI x8), (xI 10000)]; let v34 : X := Ff 843 [(xI x0), (xI x1), (xI x2), (xI x3), (xI x4), (xI x5), x6, x7, (xI x8), (xI 10000)]; let v35 : X := Ff 844 [(xI x0), (xI x1), (xI x2), (xI x3), (xI x4), (xI x5), x6, x7, (xI x8), (xI 10000)]; let v36 : X := Ff 845 [(xI x0), (xI x1), (xI x2), (xI x3), (xI x4), (xI x5), x6, x7, (xI x8), (xI 10000)]; let v37 : X := Ff 846 [(xI x0), (xI x1), (xI x2), (xI x3), (xI x4), (xI x5), x6, x7, (xI x8), (xI 10000)]; let v38 : X := Ff 840 [(xI v6.i), (xI v7.i), (xI v8.i), (xI v9.i), (xI v10.i), (xI v11.i), v12, x7, (xI (x8 + 1)), (xI 9999)]; let v39 : X := Ff 841 [(xI v6.i), (xI v7.i), (xI v8.i), (xI v9.i), (xI v10.i), (xI v11.i), v12, x7, (xI (x8 + 1)), (xI 9999)]; let v40 : X := Ff 842 [(xI v6.i), (xI v7.i), (xI v8.i), (xI v9.i), (xI v10.i), (xI v11.i), v12, x7, (xI (x8 + 1)), (xI 9999)]; let v41 : X := Ff 843 [(xI v6.i), (xI v7.i), (xI v8.i), (xI v9.i), (xI v10.i), (xI v11.i), v12, x7, (xI (x8 + 1)), (xI 9999)]; let v42 : X := Ff 844 [(xI v6.i), (xI v7.i), (xI v8.i), (xI v9.i), (xI v10.i), (xI v11.i), v12, x7, (xI (x8 + 1)), (xI 9999)]; let v43 : X := Ff 845 [(xI v6.i), (xI v7.i), (xI v8.i), (xI v9.i), (xI v10.i), (xI v11.i), v12, x7, (xI (x8 + 1)), (xI 9999)]; let v44 : X := Ff 846 [(xI v6.i), (xI v7.i), (xI v8.i), (xI v9.i), (xI v10.i), (xI v11.i), v12, x7, (xI (x8 + 1)), (xI 9999)]; let v45 : X := Ff 715 [(xI v31.i), (xI v32.i), (xI v33.i), (xI v34.i), (xI v35.i), (xI v36.i), v37, (xI v38.i), (xI v39.i), (xI v40.i), (xI v41.i), (xI v42.i), (xI v43.i), v44]; let v46 : X := Ff 847 [(xI x0), (xI x1), (xI x2), (xI x3), (xI x4), (xI x5), x6, x7, (xI x8), (xI 10000)]; let v47 : X := Ff 847 [(xI v6.i), (xI v7.i), (xI v8.i), (xI v9.i), (xI v10.i), (xI v11.i), v12, x7, (xI (x8 + 1)), (xI 9999)]; let v48 : X := Ff 848 [(xI x0), (xI x1), (xI x2), (xI x3), (xI x4), (xI x5), x6, x7, (xI x8), (xI 10000)]; let v49 : X := Ff 848 [(xI v6.i), (xI v7.i), (xI v8.i), (xI v9.i), (xI v10.i), (xI v11.i), v12, x7, (xI (x8 + 1)), (xI 9999)]; (((v45.b = true) ∧ (v46.i = (v47.i + 1))) ∧ (v48.i = v49.i)))))))))))))))
noncomputable def sh : List RSh := (shTs Tryd.prog [28, 29, 3, 5]).getD []
attribute [irreducible] sh
theorem link (x0 : Int) (x1 : Int) (x2 : Int) (x3 : Int) (x4 : Int) (x5 : Int) (x6 : X) (x7 : X) (x8 : Int) (x9 : Int) : (walkR Tryd.prog (cfG none L30 R30 [] sumL) Tryd.f8 600 sh).law { ρ0 with x := fun j => [xI x0, xI x1, xI x2, xI x3, xI x4, xI x5, x6, x7, xI x8, xI x9].getD j (xI 0) } = lawP x0 x1 x2 x3 x4 x5 x6 x7 x8 x9 := by kernel_rfl
set_option maxHeartbeats 4000000 in
theorem lawP_ok (x0 : Int) (x1 : Int) (x2 : Int) (x3 : Int) (x4 : Int) (x5 : Int) (x6 : X) (x7 : X) (x8 : Int) (x9 : Int) (g0 : -9223372036854775808 ≤ x0 ∧ x0 ≤ 9223372036854775807) (g1 : -9223372036854775808 ≤ x1 ∧ x1 ≤ 9223372036854775807) (g2 : -9223372036854775808 ≤ x2 ∧ x2 ≤ 9223372036854775807) (g3 : -9223372036854775808 ≤ x3 ∧ x3 ≤ 9223372036854775807) (g4 : -9223372036854775808 ≤ x4 ∧ x4 ≤ 9223372036854775807) (g5 : -9223372036854775808 ≤ x5 ∧ x5 ≤ 9223372036854775807) (g6 : 0 ≤ x6.i ∧ x6.i ≤ 9223372036854775807 ∧ RowOk [.int .i64 (-9223372036854775808) (9223372036854775807)] x6.r x6.i.toNat) (g7 : 0 ≤ x7.i ∧ x7.i ≤ 9223372036854775807 ∧ RowOk [.str (9223372036854775807), .bool, .bool, .bool, .int .i64 (-9223372036854775808) (9223372036854775807), .int .i64 (-9223372036854775808) (9223372036854775807), .int .i64 (-9223372036854775808) (9223372036854775807), .int .i64 (-9223372036854775808) (9223372036854775807)] x7.r x7.i.toNat) (g8 : -9223372036854775808 ≤ x8 ∧ x8 ≤ 9223372036854775807) (g9 : 0 ≤ x9 ∧ x9 ≤ 255) : lawP x0 x1 x2 x3 x4 x5 x6 x7 x8 x9 := by
  unfold lawP
  intro v0
  refine And.intro ?_ ?_
  · intro h2
    rfl -- #0
  intro h3
  have h3' : fewS (grX (xI x0) (xI x1) (xI x2) (xI x3) (xI x4) (xI x5) x6) x7 = true := Decidable.byContradiction fun hc => h3 (.inl (.inl hc))
  obtain ⟨f1, f2, gv, ft⟩ := few_iff.1 h3'
  have ht := tab_ok ft
  refine andI ?_ fun o4 => ?_
  · exact gv -- #1
  refine andI ?_ fun o5 => ?_
  · exact gv -- #2
  intro v6
  intro v7
  intro v8
  intro v9
  intro v10
  intro v11
  intro v12
  have hs : lstX deI v12 = rndL (bxI x0 x1 x2 x3 x4 x5) x7 x8 (lstX deI x6) := lstX_rowG (enc := enI) (dec := deI) (fun _ => rfl) _
  intro v13
  intro v14
  intro v15
  intro v16
  intro v17
  intro v18
  intro v19
  have hs2 : lstX deI v19 = rndL (bxI x0 x1 x2 x3 x4 x5) x7 (x8 + 4 * x9) (lstX deI x6) := lstX_rowG (enc := enI) (dec := deI) (fun _ => rfl) _
  have hk : x8 % 4 = (x8 + 4 * x9) % 4 := by omega
  intro v20
  intro v21
  intro v22
  refine And.intro ?_ ?_
  · intro h24
    skip -- #3
    exfalso
    rcases h24 with h | h
    · refine h (eqG_iff.2 ⟨⟨rfl, rfl, rfl, rfl, rfl, rfl⟩, ?_⟩)
      rw [hs, hs2]
      exact rndL_tick hk
    · exact h (congrArg Prod.snd (rnd_tick hk _))
  intro h25
  refine And.intro ?_ ?_
  · intro h27
    rfl -- #4
  intro h28
  refine andI ?_ fun o29 => ?_
  · exact ⟨gv, ft⟩ -- #5
  refine andI ?_ fun o30 => ?_
  · skip -- #6
    refine ⟨?_, ft⟩
    show validG ⟨bxI x0 x1 x2 x3 x4 x5, lstX deI v12⟩ = true
    rw [hs]
    exact val_rnd ht gv
  intro v31
  intro v32
  intro v33
  intro v34
  intro v35
  intro v36
  intro v37
  intro v38
  intro v39
  intro v40
  intro v41
  intro v42
  intro v43
  intro v44
  intro v45
  intro v46
  intro v47
  intro v48
  intro v49
  have hc := set_clock (k := x8) (most := 10000) ht gv (by omega) h28
  rw [← hs, show (10000 : Int) - 1 = 9999 by omega] at hc
  have hB : bxI v6.i v7.i v8.i v9.i v10.i v11.i = bxI x0 x1 x2 x3 x4 x5 := rfl
  have e37 : lstX deI v37 = (setR (bxI x0 x1 x2 x3 x4 x5) x7 x8 10000 (lstX deI x6)).1 := f846
  have e44 : lstX deI v44 = (setR (bxI v6.i v7.i v8.i v9.i v10.i v11.i) x7 (x8 + 1) 9999 (lstX deI v12)).1 := f846
  have e46 : v46.i = (setR (bxI x0 x1 x2 x3 x4 x5) x7 x8 10000 (lstX deI x6)).2.1 := f847
  have e47 : v47.i = (setR (bxI v6.i v7.i v8.i v9.i v10.i v11.i) x7 (x8 + 1) 9999 (lstX deI v12)).2.1 := f847
  have e48 : v48.i = (setR (bxI x0 x1 x2 x3 x4 x5) x7 x8 10000 (lstX deI x6)).2.2 := f848
  have e49 : v49.i = (setR (bxI v6.i v7.i v8.i v9.i v10.i v11.i) x7 (x8 + 1) 9999 (lstX deI v12)).2.2 := f848
  rw [hB] at e44 e47 e49
  rw [hc] at e37 e46 e48
  skip -- #7
  refine ⟨⟨eqG_iff.2 ⟨⟨(show v31.i = x0 from rfl).trans (show x0 = v38.i from rfl), (show v32.i = x1 from rfl).trans (show x1 = v39.i from rfl), (show v33.i = x2 from rfl).trans (show x2 = v40.i from rfl), (show v34.i = x3 from rfl).trans (show x3 = v41.i from rfl), (show v35.i = x4 from rfl).trans (show x4 = v42.i from rfl), (show v36.i = x5 from rfl).trans (show x5 = v43.i from rfl)⟩, ?_⟩, ?_⟩, ?_⟩
  · rw [e37, e44]
  · rw [e46, e47]
  · rw [e48, e49]

/-! ### The frame -/
theorem shape_flat : flatR sh = [.int .i64 (-9223372036854775808) 9223372036854775807, .int .i64 (-9223372036854775808) 9223372036854775807, .int .i64 (-9223372036854775808) 9223372036854775807, .int .i64 (-9223372036854775808) 9223372036854775807, .int .i64 (-9223372036854775808) 9223372036854775807, .int .i64 (-9223372036854775808) 9223372036854775807, .row [.int .i64 (-9223372036854775808) (9223372036854775807)] 9223372036854775807, .row [.str (9223372036854775807), .bool, .bool, .bool, .int .i64 (-9223372036854775808) (9223372036854775807), .int .i64 (-9223372036854775808) (9223372036854775807), .int .i64 (-9223372036854775808) (9223372036854775807), .int .i64 (-9223372036854775808) (9223372036854775807)] 9223372036854775807, .int .i64 (-9223372036854775808) 9223372036854775807, .int .u8 (0) 255] := by kernel_rfl
theorem lawful (ds : Ds) (hr : rshX sh ds) : (walkR Tryd.prog (cfG none L30 R30 [] sumL) Tryd.f8 600 sh).law { ρ0 with x := fun j => ds.getD j (xI 0) } := by
  have hr := rshX_flat hr
  rw [shape_flat] at hr
  match ds, hr with
  | [d0, d1, d2, d3, d4, d5, d6, d7, d8, d9], hr =>
    obtain ⟨⟨e0, l0, u0⟩, ⟨e1, l1, u1⟩, ⟨e2, l2, u2⟩, ⟨e3, l3, u3⟩, ⟨e4, l4, u4⟩, ⟨e5, l5, u5⟩, l6, l7, ⟨e8, l8, u8⟩, ⟨e9, l9, u9⟩, _⟩ := hr
    generalize d0.i = x0 at *
    generalize d1.i = x1 at *
    generalize d2.i = x2 at *
    generalize d3.i = x3 at *
    generalize d4.i = x4 at *
    generalize d5.i = x5 at *
    generalize d6 = x6 at *
    generalize d7 = x7 at *
    generalize d8.i = x8 at *
    generalize d9.i = x9 at *
    subst e0 e1 e2 e3 e4 e5 e8 e9
    exact Eq.mpr (link x0 x1 x2 x3 x4 x5 x6 x7 x8 x9) (lawP_ok x0 x1 x2 x3 x4 x5 x6 x7 x8 x9 ⟨l0, u0⟩ ⟨l1, u1⟩ ⟨l2, u2⟩ ⟨l3, u3⟩ ⟨l4, u4⟩ ⟨l5, u5⟩ l6 l7 ⟨l8, u8⟩ ⟨l9, u9⟩)
theorem shape {H : Type} {ds : List (DataW H)} (h : ds.length = 4) : Rows.settleByTheClockSpec.fn H ds = { results := [.lit (.bool true)], args := ds } := by
  match ds, h with
  | [d1, d2, d3, d4], _ => rfl
theorem calls {H : Type} {enc : TypeId × Value → H} (W : World) (base : Nat) (args : Array Value) (ds : List (DataW H)) (p : List MemPlace) (hval : ∀ (j : Nat) t v, Tryd.f8.params[j]? = some t → args[j]? = some v → Value.okWide Tryd.prog W .any base t v)
    (hA : DataW.TrodAll enc Tryd.prog W 0 (fun _ => true) true Tryd.f8.params.toList args.toList ds p) (hg : GlobOk ρ0.g W.heap.size W) : Calls Tryd.prog 8 args W fun e w' => e = .returned (.bool true) ∧ Below W.heap.size W w' := by
  rw [Tryd.params8] at hA hval
  have hs : shTs Tryd.prog [28, 29, 3, 5] = some sh := by
    have : (shTs Tryd.prog [28, 29, 3, 5]).isSome = true := by kernel_rfl
    obtain ⟨s, h⟩ := Option.isSome_iff_exists.1 this
    unfold sh
    rw [h]; rfl
  obtain ⟨ds', hr⟩ := args_rel hA (fun i t v ht hv => hval i t v (by simpa using ht) (by simpa using hv)) hs
  have := law_callsR (L30_ok) Tryd.func8 rfl 600 hg hr lawful
  simpa using this
set_option maxRecDepth 100000 in
theorem lifted (os : Os) (started : os.Started) (H : Type) (enc : TypeId × Value → H) :
    ReturnsInHanded {} Tryd.checked os 8 .any (fun w args => (Rows.settleByTheClockSpec.pre enc Tryd.prog Tryd.f8 [] false w args ∧ laidMetH Tryd.prog [("voxel/settle.directions", Rows.laid_voxel_settle_directions)] w) ∧ sizedMet enc Tryd.prog Tryd.f8 (OpenSpec.ofChange Rows.settleByTheClockSpec) false w args)
      (Rows.settleByTheClockSpec.post enc Tryd.prog Tryd.f8 false true false false) := by
  refine returnsInHanded_of_change_and (C := Tryd.checked) (X := fun w _ => laidMetH Tryd.prog [("voxel/settle.directions", Rows.laid_voxel_settle_directions)] w) (fun _ _ _ hh h => h.of_heap hh) own started (by kernel_rfl) Tryd.func8
    (ChangeSpec.witness_shaped (enc := enc) (C := Tryd.checked) (os := os) (X := fun w _ => laidMetH Tryd.prog [("voxel/settle.directions", Rows.laid_voxel_settle_directions)] w) false (World.doorLaid Tryd.prog 400 os) #[((Tryd.prog.info? 28).bind (·.zero)).getD undef, ((Tryd.prog.info? 29).bind (·.zero)).getD undef, ((Tryd.prog.info? 3).bind (·.zero)).getD undef, ((Tryd.prog.info? 5).bind (·.zero)).getD undef] 8 rfl (World.shaped_of_RefB (by kernel_rfl) (by kernel_rfl)) (by kernel_rfl) (by kernel_rfl) (by kernel_rfl) (door_met os _)) ?_
  intro W base args ds gs before hval hW _ _ hL _
  have hW0 := hW
  obtain ⟨p, q, hA, hV, _⟩ := hW0
  have hlen : ds.length = 4 := (trodAll_len hA).trans (by kernel_rfl)
  refine (calls W base args ds p hval hA (glob_ok hL)).mono fun e W' ⟨he, hb⟩ => ?_
  subst he
  exact ⟨_, rfl, law_post kids slices (by rw [Tryd.params8]; decide +kernel) rfl rfl Tryd.underlying4 (shape hlen) hW hb⟩

theorem over : Rows.SettleByTheClockSaid :=
  OpenClaim.holds_of_wide 8 Tryd.f8 rfl rfl rfl rfl rfl rfl rfl ⟨rfl, rfl, rfl, rfl, rfl⟩ rfl rfl rfl rfl rfl (by kernel_rfl) Tryd.func8 (by kernel_rfl)
    (of_decide_eq_true (by kernel_rfl)) (by unfold Func.isWrapper; first | (rw [if_pos (by decide +kernel)]; kernel_rfl) | (rw [if_neg (by decide +kernel)]; exact ⟨rfl, rfl⟩))
    (fun os started H enc _ => lifted os started H enc)

/-- The statement: the row, its listed variable tied to the program's text. -/
theorem proved : Rows.SettleByTheClockCardSaid :=
  Claim7.holds_tied_plain_at .later [] [.data] true (true, "7617442a9ef1c376c4056c972e7147e4eacf4a41aa3cf2f69184f577ce24d48a") false
    over (fun _ h => by cases h) (by kernel_rfl) (fun _ h => by cases h) settleByTheClock_row_tie rfl ⟨rfl, rfl⟩ (by kernel_rfl) rfl
    (fun f fn hf hfn => by
      obtain rfl : f = 8 := Option.some.inj ((show Tryd.prog.funcNamed "voxel/voxellaw30.SettleByTheClock" = some 8 by kernel_rfl).symm.trans hf) |>.symm
      obtain rfl : fn = Tryd.f8 := (Option.some.inj (Tryd.func8.symm.trans hfn)).symm
      exact ⟨by kernel_rfl, fun j t ht => by
        rw [Tryd.params8] at ht
        have hm : t ∈ [28, 29, 3, 5] := by simpa using Array.mem_of_getElem? ht
        have hall : ([28, 29, 3, 5].all fun u => !Tryd.prog.wantsStandIn u) = true := by kernel_rfl
        exact (show Tryd.prog.wantsStandIn t = false by simpa using List.all_eq_true.1 hall t hm)⟩)
    (by kernel_rfl)
#print axioms proved
end Go.Proofs.YtgbaelpcbhgdjaaDoor.settleByTheClock
