/- Proved: SettleEnds: the statement 'SettleEndsCardSaid' of this seat, for every input that it names; no condition besides. -/
import Derived.Test.YtgbaelpcbhgdjaaDoorC30T
import Derived.Test.YtgbaelpcbhgdjaaDoorC30O
import Derived.Test.YtgbaelpcbhgdjaaDoorRows
import Derived.Test.YtgbaelpcbhgdjaaDoorCards
import Derived.Test.YtgbaelpcbhgdjaaDoorTie
import Derived.SevenTiedAt
import Derived.ProofKit
import Derived.LaidMore
import Derived.Stop.Joined
namespace Go.Proofs.YtgbaelpcbhgdjaaDoor.settleEnds
open Go Go.ChangeShapes Go.WideShapes Go.ChangeAt Go.RowKit Vc
set_option linter.unusedVariables false


/-- The law's walk, as the machine leaves it. -/
def lawP (x0 : Int) (x1 : Int) (x2 : Int) (x3 : Int) (x4 : Int) (x5 : Int) (x6 : X) (x7 : X) (x8 : Int) (x9 : Int) : Prop :=
(let v0 : X := Ff 861 [(xI x0), (xI x1), (xI x2), (xI x3), (xI x4), (xI x5), x6, x7]; (((¬ (v0.b = true)) →
(true = true)) ∧
((v0.b = true) →
(Px 710 [(xI x0), (xI x1), (xI x2), (xI x3), (xI x4), (xI x5), x6, x7] ∧
(let v5 : X := Ff 850 [(xI x0), (xI x1), (xI x2), (xI x3), (xI x4), (xI x5), x6, x7]; (Px 878 [(xI x0), (xI x1), (xI x2), (xI x3), (xI x4), (xI x5), x6, x7, (xI x8), (xI (v5.i + x9))] ∧
(let v7 : X := Ff 848 [(xI x0), (xI x1), (xI x2), (xI x3), (xI x4), (xI x5), x6, x7, (xI x8), (xI (v5.i + x9))]; let v8 : X := Ff 847 [(xI x0), (xI x1), (xI x2), (xI x3), (xI x4), (xI x5), x6, x7, (xI x8), (xI (v5.i + x9))]; (((¬ ((¬ (v7.i = 0)) ∨ ((v5.i + x9) < v8.i))) →
(let v11 : X := Ff 840 [(xI x0), (xI x1), (xI x2), (xI x3), (xI x4), (xI x5), x6, x7, (xI x8), (xI (v5.i + x9))]; let v12 : X := Ff 841 [(xI x0), (xI x1), (xI x2), (xI x3), (xI x4), (xI x5), x6, x7, (xI x8), (xI (v5.i + x9))]; let v13 : X := Ff 842 [(xI x0), (xI x1), (xI x2), (xI x3), (xI x4), (xI x5), x6, x7, (xI x8), (xI (v5.i + x9))]; let v14 : X := Ff 843 [(xI x0), (xI x1), (xI x2), (xI x3), (xI x4), (xI x5), x6, x7, (xI x8), (xI (v5.i + x9))]; let v15 : X := Ff 844 [(xI x0), (xI x1), (xI x2), (xI x3), (xI x4), (xI x5), x6, x7, (xI x8), (xI (v5.i + x9))]; let v16 : X := Ff 845 [(xI x0), (xI x1), (xI x2), (xI x3), (xI x4), (xI x5), x6, x7, (xI x8), (xI (v5.i + x9))]; let v17 : X := Ff 846 [(xI x0), (xI x1), (xI x2), (xI x3), (xI x4), (xI x5), x6, x7, (xI x8), (xI (v5.i + x9))]; Px 710 [(xI v11.i), (xI v12.i), (xI v13.i), (xI v14.i), (xI v15.i), (xI v16.i), v17, x7])) ∧
(let v18 : X := Ff 840 [(xI x0), (xI x1), (xI x2), (xI x3), (xI x4), (xI x5), x6, x7, (xI x8), (xI (v5.i + x9))]; let v19 : X := Ff 841 [(xI x0), (xI x1), (xI x2), (xI x3), (xI x4), (xI x5), x6, x7, (xI x8), (xI (v5.i + x9))]; let v20 : X := Ff 842 [(xI x0), (xI x1), (xI x2), (xI x3), (xI x4), (xI x5), x6, x7, (xI x8), (xI (v5.i + x9))]; let v21 : X := Ff 843 [(xI x0), (xI x1), (xI x2), (xI x3), (xI x4), (xI x5), x6, x7, (xI x8), (xI (v5.i + x9))]; let v22 : X := Ff 844 [(xI x0), (xI x1), (xI x2), (xI x3), (xI x4), (xI x5), x6, x7, (xI x8), (xI (v5.i + x9))]; let v23 : X := Ff 845 [(xI x0), (xI x1), (xI x2), (xI x3), (xI x4), (xI x5), x6, x7, (xI x8), (xI (v5.i + x9))]; let v24 : X := Ff 846 [(xI x0), (xI x1), (xI x2), (xI x3), (xI x4), (xI x5), x6, x7, (xI x8), (xI (v5.i + x9))]; let v25 : X := Ff 860 [(xI v18.i), (xI v19.i), (xI v20.i), (xI v21.i), (xI v22.i), (xI v23.i), v24, x7]; (((((¬ (v7.i = 0)) ∨ ((v5.i + x9) < v8.i)) ∨ (¬ (v25.b = true))) →
(false = true)) ∧
((¬ (((¬ (v7.i = 0)) ∨ ((v5.i + x9) < v8.i)) ∨ (¬ (v25.b = true)))) →
(Px 878 [(xI v18.i), (xI v19.i), (xI v20.i), (xI v21.i), (xI v22.i), (xI v23.i), v24, x7, (xI x8), (xI 0)] ∧
(let v30 : X := Ff 840 [(xI v18.i), (xI v19.i), (xI v20.i), (xI v21.i), (xI v22.i), (xI v23.i), v24, x7, (xI x8), (xI 0)]; let v31 : X := Ff 841 [(xI v18.i), (xI v19.i), (xI v20.i), (xI v21.i), (xI v22.i), (xI v23.i), v24, x7, (xI x8), (xI 0)]; let v32 : X := Ff 842 [(xI v18.i), (xI v19.i), (xI v20.i), (xI v21.i), (xI v22.i), (xI v23.i), v24, x7, (xI x8), (xI 0)]; let v33 : X := Ff 843 [(xI v18.i), (xI v19.i), (xI v20.i), (xI v21.i), (xI v22.i), (xI v23.i), v24, x7, (xI x8), (xI 0)]; let v34 : X := Ff 844 [(xI v18.i), (xI v19.i), (xI v20.i), (xI v21.i), (xI v22.i), (xI v23.i), v24, x7, (xI x8), (xI 0)]; let v35 : X := Ff 845 [(xI v18.i), (xI v19.i), (xI v20.i), (xI v21.i), (xI v22.i), (xI v23.i), v24, x7, (xI x8), (xI 0)]; let v36 : X := Ff 846 [(xI v18.i), (xI v19.i), (xI v20.i), (xI v21.i), (xI v22.i), (xI v23.i), v24, x7, (xI x8), (xI 0)]; let v37 : X := Ff 715 [(xI v30.i), (xI v31.i), (xI v32.i), (xI v33.i), (xI v34.i), (xI v35.i), v36, (xI v18.i), (xI v19.i), (xI v20.i), (xI v21.i), (xI v22.i), (xI v23.i), v24]; let v38 : X := Ff 847 [(xI v18.i), (xI v19.i), (xI v20.i), (xI v21.i), (xI v22.i), (xI v23.i), v24, x7, (xI x8), (xI 0)]; let v39 : X := Ff 848 [(xI v18.i), (xI v19.i), (xI v20.i), (xI v21.i), (xI v22.i), (xI v23.i), v24, x7, (xI x8), (xI 0)]; (((((v37.b = true) ∧ (v38.i = 0)) ∧ (v39.i = 0)) →
 Px 710 [(xI x0), (xI x1), (xI x2), (xI x3), (xI x4), (xI x5), x6, x7]) ∧
(((((v37.b = true) ∧ (v38.i = 0)) ∧ (v39.i = 0)) →
 Px 710 [(xI v18.i), (xI v19.i), (xI v20.i), (xI v21.i), (xI v22.i), (xI v23.i), v24, x7]) ∧
(let v44 : X := Ff 850 [(xI v18.i), (xI v19.i), (xI v20.i), (xI v21.i), (xI v22.i), (xI v23.i), v24, x7]; ((((v37.b = true) ∧ (v38.i = 0)) ∧ (v39.i = 0)) ∧ (v44.i ≤ v5.i))))))))))))))))))
noncomputable def sh : List RSh := (shTs Tryd.prog [28, 29, 3, 5]).getD []
attribute [irreducible] sh
theorem link (x0 : Int) (x1 : Int) (x2 : Int) (x3 : Int) (x4 : Int) (x5 : Int) (x6 : X) (x7 : X) (x8 : Int) (x9 : Int) : (walkR Tryd.prog (cfG none L30 R30 [] sumL) Tryd.f7 600 sh).law { ρ0 with x := fun j => [xI x0, xI x1, xI x2, xI x3, xI x4, xI x5, x6, x7, xI x8, xI x9].getD j (xI 0) } = lawP x0 x1 x2 x3 x4 x5 x6 x7 x8 x9 := by kernel_rfl
set_option maxHeartbeats 4000000 in
theorem lawP_ok (x0 : Int) (x1 : Int) (x2 : Int) (x3 : Int) (x4 : Int) (x5 : Int) (x6 : X) (x7 : X) (x8 : Int) (x9 : Int) (g0 : -9223372036854775808 ≤ x0 ∧ x0 ≤ 9223372036854775807) (g1 : -9223372036854775808 ≤ x1 ∧ x1 ≤ 9223372036854775807) (g2 : -9223372036854775808 ≤ x2 ∧ x2 ≤ 9223372036854775807) (g3 : -9223372036854775808 ≤ x3 ∧ x3 ≤ 9223372036854775807) (g4 : -9223372036854775808 ≤ x4 ∧ x4 ≤ 9223372036854775807) (g5 : -9223372036854775808 ≤ x5 ∧ x5 ≤ 9223372036854775807) (g6 : 0 ≤ x6.i ∧ x6.i ≤ 9223372036854775807 ∧ RowOk [.int .i64 (-9223372036854775808) (9223372036854775807)] x6.r x6.i.toNat) (g7 : 0 ≤ x7.i ∧ x7.i ≤ 9223372036854775807 ∧ RowOk [.str (9223372036854775807), .bool, .bool, .bool, .int .i64 (-9223372036854775808) (9223372036854775807), .int .i64 (-9223372036854775808) (9223372036854775807), .int .i64 (-9223372036854775808) (9223372036854775807), .int .i64 (-9223372036854775808) (9223372036854775807)] x7.r x7.i.toNat) (g8 : -9223372036854775808 ≤ x8 ∧ x8 ≤ 9223372036854775807) (g9 : 0 ≤ x9 ∧ x9 ≤ 255) : lawP x0 x1 x2 x3 x4 x5 x6 x7 x8 x9 := by
  unfold lawP
  intro v0
  refine And.intro ?_ ?_
  · intro h2
    rfl -- #0
  intro h3
  obtain ⟨f1, f2, gv, ft⟩ := few_iff.1 (show fewS (grX (xI x0) (xI x1) (xI x2) (xI x3) (xI x4) (xI x5) x6) x7 = true from h3)
  have ht := tab_ok ft
  refine andI ?_ fun o4 => ?_
  · exact gv -- #1
  intro v5
  refine andI ?_ fun o6 => ?_
  · exact ⟨gv, ft⟩ -- #2
  intro v7
  intro v8
  obtain ⟨m0, m1, m2, m3, m4⟩ := set_most (k := x8) (most := v5.i + x9) ht gv (show v5.i ≤ v5.i + x9 by omega)
  refine And.intro ?_ ?_
  · intro h10
    intro v11
    intro v12
    intro v13
    intro v14
    intro v15
    intro v16
    intro v17
    have hs : lstX deI v17 = (setR (bxI x0 x1 x2 x3 x4 x5) x7 x8 (v5.i + x9) (lstX deI x6)).1 := lstX_rowG (enc := enI) (dec := deI) (fun _ => rfl) _
    skip -- #3
    show validG ⟨bxI x0 x1 x2 x3 x4 x5, lstX deI v17⟩ = true
    rw [hs]
    exact m3
  intro v18
  intro v19
  intro v20
  intro v21
  intro v22
  intro v23
  intro v24
  have hs : lstX deI v24 = (setR (bxI x0 x1 x2 x3 x4 x5) x7 x8 (v5.i + x9) (lstX deI x6)).1 := lstX_rowG (enc := enI) (dec := deI) (fun _ => rfl) _
  have gv2 : validG ⟨bxI x0 x1 x2 x3 x4 x5, lstX deI v24⟩ = true := by rw [hs]; exact m3
  have m2' : stlL (bxI x0 x1 x2 x3 x4 x5) x7 (lstX deI v24) = true := by rw [hs]; exact m2
  intro v25
  refine And.intro ?_ ?_
  · intro h27
    skip -- #4
    exfalso
    rcases h27 with (h | h) | h
    · exact h m0
    · exact absurd m1 (by show ¬ v8.i ≤ v5.i + x9; omega)
    · exact h m2'
  intro h28
  refine andI ?_ fun o29 => ?_
  · exact ⟨gv2, ft⟩ -- #5
  intro v30
  intro v31
  intro v32
  intro v33
  intro v34
  intro v35
  intro v36
  have hs2 : lstX deI v36 = (setR (bxI x0 x1 x2 x3 x4 x5) x7 x8 0 (lstX deI v24)).1 := lstX_rowG (enc := enI) (dec := deI) (fun _ => rfl) _
  have hR : setR (bxI x0 x1 x2 x3 x4 x5) x7 x8 0 (lstX deI v24) = (lstX deI v24, 0, 0) := set_stl m2'
  intro v37
  intro v38
  intro v39
  refine And.intro ?_ ?_
  · intro h41
    exact gv -- #6
  refine And.intro ?_ ?_
  · intro h43
    exact gv2 -- #7
  intro v44
  skip -- #8
  refine ⟨⟨⟨eqG_iff.2 ⟨⟨rfl, rfl, rfl, rfl, rfl, rfl⟩, ?_⟩, congrArg (fun x => x.2.1) hR⟩, congrArg (fun x => x.2.2) hR⟩, ?_⟩
  · rw [hs2, hR]
  · show potL (bxI x0 x1 x2 x3 x4 x5) x7 (lstX deI v24) ≤ potL (bxI x0 x1 x2 x3 x4 x5) x7 (lstX deI x6)
    rw [hs]
    exact m4

/-! ### The frame -/
theorem shape_flat : flatR sh = [.int .i64 (-9223372036854775808) 9223372036854775807, .int .i64 (-9223372036854775808) 9223372036854775807, .int .i64 (-9223372036854775808) 9223372036854775807, .int .i64 (-9223372036854775808) 9223372036854775807, .int .i64 (-9223372036854775808) 9223372036854775807, .int .i64 (-9223372036854775808) 9223372036854775807, .row [.int .i64 (-9223372036854775808) (9223372036854775807)] 9223372036854775807, .row [.str (9223372036854775807), .bool, .bool, .bool, .int .i64 (-9223372036854775808) (9223372036854775807), .int .i64 (-9223372036854775808) (9223372036854775807), .int .i64 (-9223372036854775808) (9223372036854775807), .int .i64 (-9223372036854775808) (9223372036854775807)] 9223372036854775807, .int .i64 (-9223372036854775808) 9223372036854775807, .int .u8 (0) 255] := by kernel_rfl
theorem lawful (ds : Ds) (hr : rshX sh ds) : (walkR Tryd.prog (cfG none L30 R30 [] sumL) Tryd.f7 600 sh).law { ρ0 with x := fun j => ds.getD j (xI 0) } := by
  have hr := rshX_flat hr
  rw [shape_flat] at hr
  match ds, hr with
  | [d0, d1, d2, d3, d4, d5, d6, d7, d8, d9], hr =>
    obtain ⟨⟨e0, l0, u0⟩, ⟨e1, l1, u1⟩, ⟨e2, l2, u2⟩, ⟨e3, l3, u3⟩, ⟨e4, l4, u4⟩, ⟨e5, l5, u5⟩, l6, l7, ⟨e8, l8, u8⟩, ⟨e9, l9, u9⟩, _⟩ := hr
    generalize d0.i = x0 at *
    generalize d1.i = x1 at *
    generalize d2.i = x2 at *
    generalize d3.i = x3 at *
    generalize d4.i = x4 at *
    generalize d5.i = x5 at *
    generalize d6 = x6 at *
    generalize d7 = x7 at *
    generalize d8.i = x8 at *
    generalize d9.i = x9 at *
    subst e0 e1 e2 e3 e4 e5 e8 e9
    exact Eq.mpr (link x0 x1 x2 x3 x4 x5 x6 x7 x8 x9) (lawP_ok x0 x1 x2 x3 x4 x5 x6 x7 x8 x9 ⟨l0, u0⟩ ⟨l1, u1⟩ ⟨l2, u2⟩ ⟨l3, u3⟩ ⟨l4, u4⟩ ⟨l5, u5⟩ l6 l7 ⟨l8, u8⟩ ⟨l9, u9⟩)
theorem shape {H : Type} {ds : List (DataW H)} (h : ds.length = 4) : Rows.settleEndsSpec.fn H ds = { results := [.lit (.bool true)], args := ds } := by
  match ds, h with
  | [d1, d2, d3, d4], _ => rfl
theorem calls {H : Type} {enc : TypeId × Value → H} (W : World) (base : Nat) (args : Array Value) (ds : List (DataW H)) (p : List MemPlace) (hval : ∀ (j : Nat) t v, Tryd.f7.params[j]? = some t → args[j]? = some v → Value.okWide Tryd.prog W .any base t v)
    (hA : DataW.TrodAll enc Tryd.prog W 0 (fun _ => true) true Tryd.f7.params.toList args.toList ds p) (hg : GlobOk ρ0.g W.heap.size W) : Calls Tryd.prog 7 args W fun e w' => e = .returned (.bool true) ∧ Below W.heap.size W w' := by
  rw [Tryd.params7] at hA hval
  have hs : shTs Tryd.prog [28, 29, 3, 5] = some sh := by
    have : (shTs Tryd.prog [28, 29, 3, 5]).isSome = true := by kernel_rfl
    obtain ⟨s, h⟩ := Option.isSome_iff_exists.1 this
    unfold sh
    rw [h]; rfl
  obtain ⟨ds', hr⟩ := args_rel hA (fun i t v ht hv => hval i t v (by simpa using ht) (by simpa using hv)) hs
  have := law_callsR (L30_ok) Tryd.func7 rfl 600 hg hr lawful
  simpa using this
set_option maxRecDepth 100000 in
theorem lifted (os : Os) (started : os.Started) (H : Type) (enc : TypeId × Value → H) :
    ReturnsInHanded {} Tryd.checked os 7 .any (fun w args => (Rows.settleEndsSpec.pre enc Tryd.prog Tryd.f7 [] false w args ∧ laidMetH Tryd.prog [("voxel/settle.directions", Rows.laid_voxel_settle_directions)] w) ∧ sizedMet enc Tryd.prog Tryd.f7 (OpenSpec.ofChange Rows.settleEndsSpec) false w args)
      (Rows.settleEndsSpec.post enc Tryd.prog Tryd.f7 false true false false) := by
  refine returnsInHanded_of_change_and (C := Tryd.checked) (X := fun w _ => laidMetH Tryd.prog [("voxel/settle.directions", Rows.laid_voxel_settle_directions)] w) (fun _ _ _ hh h => h.of_heap hh) own started (by kernel_rfl) Tryd.func7
    (ChangeSpec.witness_shaped (enc := enc) (C := Tryd.checked) (os := os) (X := fun w _ => laidMetH Tryd.prog [("voxel/settle.directions", Rows.laid_voxel_settle_directions)] w) false (World.doorLaid Tryd.prog 400 os) #[((Tryd.prog.info? 28).bind (·.zero)).getD undef, ((Tryd.prog.info? 29).bind (·.zero)).getD undef, ((Tryd.prog.info? 3).bind (·.zero)).getD undef, ((Tryd.prog.info? 5).bind (·.zero)).getD undef] 8 rfl (World.shaped_of_RefB (by kernel_rfl) (by kernel_rfl)) (by kernel_rfl) (by kernel_rfl) (by kernel_rfl) (door_met os _)) ?_
  intro W base args ds gs before hval hW _ _ hL _
  have hW0 := hW
  obtain ⟨p, q, hA, hV, _⟩ := hW0
  have hlen : ds.length = 4 := (trodAll_len hA).trans (by kernel_rfl)
  refine (calls W base args ds p hval hA (glob_ok hL)).mono fun e W' ⟨he, hb⟩ => ?_
  subst he
  exact ⟨_, rfl, law_post kids slices (by rw [Tryd.params7]; decide +kernel) rfl rfl Tryd.underlying4 (shape hlen) hW hb⟩

theorem over : Rows.SettleEndsSaid :=
  OpenClaim.holds_of_wide 7 Tryd.f7 rfl rfl rfl rfl rfl rfl rfl ⟨rfl, rfl, rfl, rfl, rfl⟩ rfl rfl rfl rfl rfl (by kernel_rfl) Tryd.func7 (by kernel_rfl)
    (of_decide_eq_true (by kernel_rfl)) (by unfold Func.isWrapper; first | (rw [if_pos (by decide +kernel)]; kernel_rfl) | (rw [if_neg (by decide +kernel)]; exact ⟨rfl, rfl⟩))
    (fun os started H enc _ => lifted os started H enc)

/-- The statement: the row, its listed variable tied to the program's text. -/
theorem proved : Rows.SettleEndsCardSaid :=
  Claim7.holds_tied_plain_at .later [] [.data] true (true, "7617442a9ef1c376c4056c972e7147e4eacf4a41aa3cf2f69184f577ce24d48a") false
    over (fun _ h => by cases h) (by kernel_rfl) (fun _ h => by cases h) settleEnds_row_tie rfl ⟨rfl, rfl⟩ (by kernel_rfl) rfl
    (fun f fn hf hfn => by
      obtain rfl : f = 7 := Option.some.inj ((show Tryd.prog.funcNamed "voxel/voxellaw30.SettleEnds" = some 7 by kernel_rfl).symm.trans hf) |>.symm
      obtain rfl : fn = Tryd.f7 := (Option.some.inj (Tryd.func7.symm.trans hfn)).symm
      exact ⟨by kernel_rfl, fun j t ht => by
        rw [Tryd.params7] at ht
        have hm : t ∈ [28, 29, 3, 5] := by simpa using Array.mem_of_getElem? ht
        have hall : ([28, 29, 3, 5].all fun u => !Tryd.prog.wantsStandIn u) = true := by kernel_rfl
        exact (show Tryd.prog.wantsStandIn t = false by simpa using List.all_eq_true.1 hall t hm)⟩)
    (by kernel_rfl)
#print axioms proved
end Go.Proofs.YtgbaelpcbhgdjaaDoor.settleEnds
