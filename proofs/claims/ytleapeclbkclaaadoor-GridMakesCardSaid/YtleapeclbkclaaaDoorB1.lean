/- Proved: GridMakes: the statement 'GridMakesCardSaid' of this seat, for every input that it names; no condition besides. -/
import Derived.Test.YtleapeclbkclaaaDoorC07V
import Derived.Test.YtleapeclbkclaaaDoorC07Z
import Derived.Test.YtleapeclbkclaaaDoorRows
import Derived.Test.YtleapeclbkclaaaDoorCards
import Derived.Test.YtleapeclbkclaaaDoorTie
import Derived.SevenTiedAt
import Derived.ProofKit
import Derived.LaidMore
import Derived.Stop.Joined
namespace Go.Proofs.YtleapeclbkclaaaDoor.gridMakes
open Go Go.ChangeShapes Go.WideShapes Go.ChangeAt Go.RowKit Vc
set_option linter.unusedVariables false


/-- The law's walk, as the machine leaves it. -/
def lawP (x0 : Int) (x1 : Int) (x2 : Int) (x3 : Int) (x4 : Int) (x5 : Int) (x6 : X) (x7 : Int) (x8 : Int) (x9 : Int) (x10 : Int) (x11 : Int) (x12 : Int) (x13 : Int) : Prop :=
((((1000 < x6.i) ∨ ((((((((-1048575) ≤ x7) ∧ (x7 ≤ 1048575)) ∧ (((-1048575) ≤ x8) ∧ (x8 ≤ 1048575))) ∧ (((-1048575) ≤ x9) ∧ (x9 ≤ 1048575))) ∧ (((((-1048575) ≤ x10) ∧ (x10 ≤ 1048575)) ∧ (((-1048575) ≤ x11) ∧ (x11 ≤ 1048575))) ∧ (((-1048575) ≤ x12) ∧ (x12 ≤ 1048575)))) ∧ (5000 < (IntKind.wrap Go.IntKind.i64 ((IntKind.wrap Go.IntKind.i64 ((bif (((decide (x10 ≤ x7)) || (decide (x11 ≤ x8))) || (decide (x12 ≤ x9))) then 0 else (IntKind.wrap Go.IntKind.i64 (x10 - x7))) * (bif (((decide (x10 ≤ x7)) || (decide (x11 ≤ x8))) || (decide (x12 ≤ x9))) then 0 else (IntKind.wrap Go.IntKind.i64 (x11 - x8))))) * (bif (((decide (x10 ≤ x7)) || (decide (x11 ≤ x8))) || (decide (x12 ≤ x9))) then 0 else (IntKind.wrap Go.IntKind.i64 (x12 - x9))))))) ∧ ((IntKind.wrap Go.IntKind.i64 ((IntKind.wrap Go.IntKind.i64 ((bif (((decide (x10 ≤ x7)) || (decide (x11 ≤ x8))) || (decide (x12 ≤ x9))) then 0 else (IntKind.wrap Go.IntKind.i64 (x10 - x7))) * (bif (((decide (x10 ≤ x7)) || (decide (x11 ≤ x8))) || (decide (x12 ≤ x9))) then 0 else (IntKind.wrap Go.IntKind.i64 (x11 - x8))))) * (bif (((decide (x10 ≤ x7)) || (decide (x11 ≤ x8))) || (decide (x12 ≤ x9))) then 0 else (IntKind.wrap Go.IntKind.i64 (x12 - x9))))) ≤ 2097152))) →
(true = true)) ∧
((¬ ((1000 < x6.i) ∨ ((((((((-1048575) ≤ x7) ∧ (x7 ≤ 1048575)) ∧ (((-1048575) ≤ x8) ∧ (x8 ≤ 1048575))) ∧ (((-1048575) ≤ x9) ∧ (x9 ≤ 1048575))) ∧ (((((-1048575) ≤ x10) ∧ (x10 ≤ 1048575)) ∧ (((-1048575) ≤ x11) ∧ (x11 ≤ 1048575))) ∧ (((-1048575) ≤ x12) ∧ (x12 ≤ 1048575)))) ∧ (5000 < (IntKind.wrap Go.IntKind.i64 ((IntKind.wrap Go.IntKind.i64 ((bif (((decide (x10 ≤ x7)) || (decide (x11 ≤ x8))) || (decide (x12 ≤ x9))) then 0 else (IntKind.wrap Go.IntKind.i64 (x10 - x7))) * (bif (((decide (x10 ≤ x7)) || (decide (x11 ≤ x8))) || (decide (x12 ≤ x9))) then 0 else (IntKind.wrap Go.IntKind.i64 (x11 - x8))))) * (bif (((decide (x10 ≤ x7)) || (decide (x11 ≤ x8))) || (decide (x12 ≤ x9))) then 0 else (IntKind.wrap Go.IntKind.i64 (x12 - x9))))))) ∧ ((IntKind.wrap Go.IntKind.i64 ((IntKind.wrap Go.IntKind.i64 ((bif (((decide (x10 ≤ x7)) || (decide (x11 ≤ x8))) || (decide (x12 ≤ x9))) then 0 else (IntKind.wrap Go.IntKind.i64 (x10 - x7))) * (bif (((decide (x10 ≤ x7)) || (decide (x11 ≤ x8))) || (decide (x12 ≤ x9))) then 0 else (IntKind.wrap Go.IntKind.i64 (x11 - x8))))) * (bif (((decide (x10 ≤ x7)) || (decide (x11 ≤ x8))) || (decide (x12 ≤ x9))) then 0 else (IntKind.wrap Go.IntKind.i64 (x12 - x9))))) ≤ 2097152)))) →
(let v3 : X := Ff 900 [(xI x7), (xI x8), (xI x9), (xI x10), (xI x11), (xI x12), (xI x13)]; let v4 : X := Ff 901 [(xI x7), (xI x8), (xI x9), (xI x10), (xI x11), (xI x12), (xI x13)]; let v5 : X := Ff 902 [(xI x7), (xI x8), (xI x9), (xI x10), (xI x11), (xI x12), (xI x13)]; let v6 : X := Ff 903 [(xI x7), (xI x8), (xI x9), (xI x10), (xI x11), (xI x12), (xI x13)]; let v7 : X := Ff 904 [(xI x7), (xI x8), (xI x9), (xI x10), (xI x11), (xI x12), (xI x13)]; let v8 : X := Ff 905 [(xI x7), (xI x8), (xI x9), (xI x10), (xI x11), (xI x12), (xI x13)]; let v9 : X := Ff 906 [(xI x7), (xI x8), (xI x9), (xI x10), (xI x11), (xI x12), (xI x13)]; let v10 : X := Ff 715 [(xI v3.i), (xI v4.i), (xI v5.i), (xI v6.i), (xI v7.i), (xI v8.i), v9, (xI v3.i), (xI v4.i), (xI v5.i), (xI v6.i), (xI v7.i), (xI v8.i), v9]; (((¬ (v10.b = true)) →
(false = true)) ∧
((v10.b = true) →
(let v14 : X := Ff 700 [(xI x0), (xI x1), (xI x2), (xI x3), (xI x4), (xI x5), x6]; (((¬ (v14.b = true)) →
(true = true)) ∧
((v14.b = true) →
(Px 710 [(xI x0), (xI x1), (xI x2), (xI x3), (xI x4), (xI x5), x6, (xI x7), (xI x8), (xI x9), (xI x10), (xI x11), (xI x12)] ∧
(Px 710 [(xI x0), (xI x1), (xI x2), (xI x3), (xI x4), (xI x5), x6, (xI x7), (xI x8), (xI x9), (xI x10), (xI x11), (xI x12)] ∧
(let v20 : X := Ff 960 [(xI x0), (xI x1), (xI x2), (xI x3), (xI x4), (xI x5), x6, (xI x7), (xI x8), (xI x9), (xI x10), (xI x11), (xI x12)]; let v21 : X := Ff 961 [(xI x0), (xI x1), (xI x2), (xI x3), (xI x4), (xI x5), x6, (xI x7), (xI x8), (xI x9), (xI x10), (xI x11), (xI x12)]; let v22 : X := Ff 962 [(xI x0), (xI x1), (xI x2), (xI x3), (xI x4), (xI x5), x6, (xI x7), (xI x8), (xI x9), (xI x10), (xI x11), (xI x12)]; let v23 : X := Ff 963 [(xI x0), (xI x1), (xI x2), (xI x3), (xI x4), (xI x5), x6, (xI x7), (xI x8), (xI x9), (xI x10), (xI x11), (xI x12)]; let v24 : X := Ff 964 [(xI x0), (xI x1), (xI x2), (xI x3), (xI x4), (xI x5), x6, (xI x7), (xI x8), (xI x9), (xI x10), (xI x11), (xI x12)]; let v25 : X := Ff 965 [(xI x0), (xI x1), (xI x2), (xI x3), (xI x4), (xI x5), x6, (xI x7), (xI x8), (xI x9), (xI x10), (xI x11), (xI x12)]; let v26 : X := Ff 966 [(xI x0), (xI x1), (xI x2), (xI x3), (xI x4), (xI x5), x6, (xI x7), (xI x8), (xI x9), (xI x10), (xI x11), (xI x12)]; let v27 : X := Ff 715 [(xI v20.i), (xI v21.i), (xI v22.i), (xI v23.i), (xI v24.i), (xI v25.i), v26, (xI v20.i), (xI v21.i), (xI v22.i), (xI v23.i), (xI v24.i), (xI v25.i), v26]; (v27.b = true))))))))))))
noncomputable def sh : List RSh := (shTs Tryd.prog [28, 25, 3]).getD []
attribute [irreducible] sh
theorem link (x0 : Int) (x1 : Int) (x2 : Int) (x3 : Int) (x4 : Int) (x5 : Int) (x6 : X) (x7 : Int) (x8 : Int) (x9 : Int) (x10 : Int) (x11 : Int) (x12 : Int) (x13 : Int) : (walkR Tryd.prog (cfG none L07 R07 [] sumC) Tryd.f3 600 sh).law { ρ0 with x := fun j => [xI x0, xI x1, xI x2, xI x3, xI x4, xI x5, x6, xI x7, xI x8, xI x9, xI x10, xI x11, xI x12, xI x13].getD j (xI 0) } = lawP x0 x1 x2 x3 x4 x5 x6 x7 x8 x9 x10 x11 x12 x13 := by kernel_rfl
set_option maxHeartbeats 4000000 in
theorem lawP_ok (x0 : Int) (x1 : Int) (x2 : Int) (x3 : Int) (x4 : Int) (x5 : Int) (x6 : X) (x7 : Int) (x8 : Int) (x9 : Int) (x10 : Int) (x11 : Int) (x12 : Int) (x13 : Int) (g0 : -9223372036854775808 ≤ x0 ∧ x0 ≤ 9223372036854775807) (g1 : -9223372036854775808 ≤ x1 ∧ x1 ≤ 9223372036854775807) (g2 : -9223372036854775808 ≤ x2 ∧ x2 ≤ 9223372036854775807) (g3 : -9223372036854775808 ≤ x3 ∧ x3 ≤ 9223372036854775807) (g4 : -9223372036854775808 ≤ x4 ∧ x4 ≤ 9223372036854775807) (g5 : -9223372036854775808 ≤ x5 ∧ x5 ≤ 9223372036854775807) (g6 : 0 ≤ x6.i ∧ x6.i ≤ 9223372036854775807 ∧ RowOk [.int .i64 (-9223372036854775808) (9223372036854775807)] x6.r x6.i.toNat) (g7 : -9223372036854775808 ≤ x7 ∧ x7 ≤ 9223372036854775807) (g8 : -9223372036854775808 ≤ x8 ∧ x8 ≤ 9223372036854775807) (g9 : -9223372036854775808 ≤ x9 ∧ x9 ≤ 9223372036854775807) (g10 : -9223372036854775808 ≤ x10 ∧ x10 ≤ 9223372036854775807) (g11 : -9223372036854775808 ≤ x11 ∧ x11 ≤ 9223372036854775807) (g12 : -9223372036854775808 ≤ x12 ∧ x12 ≤ 9223372036854775807) (g13 : -9223372036854775808 ≤ x13 ∧ x13 ≤ 9223372036854775807) : lawP x0 x1 x2 x3 x4 x5 x6 x7 x8 x9 x10 x11 x12 x13 := by
  unfold lawP
  refine And.intro ?_ ?_
  · intro h1
    rfl -- #0
  intro h2
  intro v3
  intro v4
  intro v5
  intro v6
  intro v7
  intro v8
  intro v9
  intro v10
  refine And.intro ?_ ?_
  · intro h12
    exact absurd eqG_self h12 -- #1
  intro h13
  intro v14
  refine And.intro ?_ ?_
  · intro h16
    rfl -- #2
  intro h17
  refine andI ?_ fun o18 => ?_
  · exact h17 -- #3
  refine andI ?_ fun o19 => ?_
  · exact h17 -- #4
  intro v20
  intro v21
  intro v22
  intro v23
  intro v24
  intro v25
  intro v26
  intro v27
  exact eqG_self -- #5

/-! ### The frame -/
theorem shape_flat : flatR sh = [.int .i64 (-9223372036854775808) 9223372036854775807, .int .i64 (-9223372036854775808) 9223372036854775807, .int .i64 (-9223372036854775808) 9223372036854775807, .int .i64 (-9223372036854775808) 9223372036854775807, .int .i64 (-9223372036854775808) 9223372036854775807, .int .i64 (-9223372036854775808) 9223372036854775807, .row [.int .i64 (-9223372036854775808) (9223372036854775807)] 9223372036854775807, .int .i64 (-9223372036854775808) 9223372036854775807, .int .i64 (-9223372036854775808) 9223372036854775807, .int .i64 (-9223372036854775808) 9223372036854775807, .int .i64 (-9223372036854775808) 9223372036854775807, .int .i64 (-9223372036854775808) 9223372036854775807, .int .i64 (-9223372036854775808) 9223372036854775807, .int .i64 (-9223372036854775808) 9223372036854775807] := by kernel_rfl
theorem lawful (ds : Ds) (hr : rshX sh ds) : (walkR Tryd.prog (cfG none L07 R07 [] sumC) Tryd.f3 600 sh).law { ρ0 with x := fun j => ds.getD j (xI 0) } := by
  have hr := rshX_flat hr
  rw [shape_flat] at hr
  match ds, hr with
  | [d0, d1, d2, d3, d4, d5, d6, d7, d8, d9, d10, d11, d12, d13], hr =>
    obtain ⟨⟨e0, l0, u0⟩, ⟨e1, l1, u1⟩, ⟨e2, l2, u2⟩, ⟨e3, l3, u3⟩, ⟨e4, l4, u4⟩, ⟨e5, l5, u5⟩, l6, ⟨e7, l7, u7⟩, ⟨e8, l8, u8⟩, ⟨e9, l9, u9⟩, ⟨e10, l10, u10⟩, ⟨e11, l11, u11⟩, ⟨e12, l12, u12⟩, ⟨e13, l13, u13⟩, _⟩ := hr
    generalize d0.i = x0 at *
    generalize d1.i = x1 at *
    generalize d2.i = x2 at *
    generalize d3.i = x3 at *
    generalize d4.i = x4 at *
    generalize d5.i = x5 at *
    generalize d6 = x6 at *
    generalize d7.i = x7 at *
    generalize d8.i = x8 at *
    generalize d9.i = x9 at *
    generalize d10.i = x10 at *
    generalize d11.i = x11 at *
    generalize d12.i = x12 at *
    generalize d13.i = x13 at *
    subst e0 e1 e2 e3 e4 e5 e7 e8 e9 e10 e11 e12 e13
    exact Eq.mpr (link x0 x1 x2 x3 x4 x5 x6 x7 x8 x9 x10 x11 x12 x13) (lawP_ok x0 x1 x2 x3 x4 x5 x6 x7 x8 x9 x10 x11 x12 x13 ⟨l0, u0⟩ ⟨l1, u1⟩ ⟨l2, u2⟩ ⟨l3, u3⟩ ⟨l4, u4⟩ ⟨l5, u5⟩ l6 ⟨l7, u7⟩ ⟨l8, u8⟩ ⟨l9, u9⟩ ⟨l10, u10⟩ ⟨l11, u11⟩ ⟨l12, u12⟩ ⟨l13, u13⟩)
theorem shape {H : Type} {ds : List (DataW H)} (h : ds.length = 3) : Rows.gridMakesSpec.fn H ds = { results := [.lit (.bool true)], args := ds } := by
  match ds, h with
  | [d1, d2, d3], _ => rfl
set_option maxRecDepth 100000 in
theorem calls {H : Type} {enc : TypeId × Value → H} (W : World) (base : Nat) (args : Array Value) (ds : List (DataW H)) (p : List MemPlace) (hval : ∀ (j : Nat) t v, Tryd.f3.params[j]? = some t → args[j]? = some v → Value.okWide Tryd.prog W .any base t v)
    (hA : DataW.TrodAll enc Tryd.prog W 0 (fun _ => true) true Tryd.f3.params.toList args.toList ds p) (hg : GlobOk ρ0.g W.heap.size W) : Calls Tryd.prog 3 args W fun e w' => e = .returned (.bool true) ∧ Below W.heap.size W w' := by
  rw [Tryd.params3] at hA hval
  have hs : shTs Tryd.prog [28, 25, 3] = some sh := by
    have : (shTs Tryd.prog [28, 25, 3]).isSome = true := by kernel_rfl
    obtain ⟨s, h⟩ := Option.isSome_iff_exists.1 this
    unfold sh
    rw [h]; rfl
  obtain ⟨ds', hr⟩ := args_rel hA (fun i t v ht hv => hval i t v (by simpa using ht) (by simpa using hv)) hs
  have := law_callsR (L07_ok) Tryd.func3 rfl 600 hg hr lawful
  simpa using this
set_option maxRecDepth 100000 in
theorem lifted (os : Os) (started : os.Started) (H : Type) (enc : TypeId × Value → H) :
    ReturnsInHanded {} Tryd.checked os 3 .any (fun w args => (Rows.gridMakesSpec.pre enc Tryd.prog Tryd.f3 [] false w args ∧ laidMetH Tryd.prog [("voxel/point.axes", Rows.laid_voxel_point_axes)] w) ∧ sizedMet enc Tryd.prog Tryd.f3 (OpenSpec.ofChange Rows.gridMakesSpec) false w args)
      (Rows.gridMakesSpec.post enc Tryd.prog Tryd.f3 false true false false) := by
  refine returnsInHanded_of_change_and (C := Tryd.checked) (X := fun w _ => laidMetH Tryd.prog [("voxel/point.axes", Rows.laid_voxel_point_axes)] w) (fun _ _ _ hh h => h.of_heap hh) own started (by kernel_rfl) Tryd.func3
    (ChangeSpec.witness_shaped (enc := enc) (C := Tryd.checked) (os := os) (X := fun w _ => laidMetH Tryd.prog [("voxel/point.axes", Rows.laid_voxel_point_axes)] w) false (World.doorLaid Tryd.prog 400 os) #[((Tryd.prog.info? 28).bind (·.zero)).getD undef, ((Tryd.prog.info? 25).bind (·.zero)).getD undef, ((Tryd.prog.info? 3).bind (·.zero)).getD undef] 8 rfl (World.shaped_of_RefB (by kernel_rfl) (by kernel_rfl)) (by kernel_rfl) (by kernel_rfl) (by kernel_rfl) (door_met os _)) ?_
  intro W base args ds gs before hval hW _ _ hL _
  have hW0 := hW
  obtain ⟨p, q, hA, hV, _⟩ := hW0
  have hlen : ds.length = 3 := (trodAll_len hA).trans (by kernel_rfl)
  refine (calls W base args ds p hval hA (glob_ok hL)).mono fun e W' ⟨he, hb⟩ => ?_
  subst he
  exact ⟨_, rfl, law_post kids slices (by rw [Tryd.params3]; decide +kernel) rfl rfl Tryd.underlying4 (shape hlen) hW hb⟩

theorem over : Rows.GridMakesSaid :=
  OpenClaim.holds_of_wide 3 Tryd.f3 rfl rfl rfl rfl rfl rfl rfl ⟨rfl, rfl, rfl, rfl, rfl⟩ rfl rfl rfl rfl rfl (by kernel_rfl) Tryd.func3 (by kernel_rfl)
    (of_decide_eq_true (by kernel_rfl)) (by unfold Func.isWrapper; first | (rw [if_pos (by decide +kernel)]; kernel_rfl) | (rw [if_neg (by decide +kernel)]; exact ⟨rfl, rfl⟩))
    (fun os started H enc _ => lifted os started H enc)

/-- The statement: the row, its listed variable tied to the program's text. -/
theorem proved : Rows.GridMakesCardSaid :=
  Claim7.holds_tied_plain_at .later [] [.data] true (true, "127ed38f03d5299d2a50fe8d6cb549502e2ebfd838967b6e2d31f5f549e46494") false
    over (fun _ h => by cases h) (by kernel_rfl) (fun _ h => by cases h) gridMakes_row_tie rfl ⟨rfl, rfl⟩ (by kernel_rfl) rfl
    (fun f fn hf hfn => by
      obtain rfl : f = 3 := Option.some.inj ((show Tryd.prog.funcNamed "voxel/voxellaw07.GridMakes" = some 3 by kernel_rfl).symm.trans hf) |>.symm
      obtain rfl : fn = Tryd.f3 := (Option.some.inj (Tryd.func3.symm.trans hfn)).symm
      exact ⟨by kernel_rfl, fun j t ht => by
        rw [Tryd.params3] at ht
        have hm : t ∈ [28, 25, 3] := by simpa using Array.mem_of_getElem? ht
        have hall : ([28, 25, 3].all fun u => !Tryd.prog.wantsStandIn u) = true := by kernel_rfl
        exact (show Tryd.prog.wantsStandIn t = false by simpa using List.all_eq_true.1 hall t hm)⟩)
    (by kernel_rfl)
#print axioms proved
end Go.Proofs.YtleapeclbkclaaaDoor.gridMakes
