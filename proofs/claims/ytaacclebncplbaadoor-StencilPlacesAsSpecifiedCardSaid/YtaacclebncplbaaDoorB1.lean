/- Proved: StencilPlacesAsSpecified: the statement 'StencilPlacesAsSpecifiedCardSaid' of this seat, for every input that it names; no condition besides. -/
import Derived.Test.YtaacclebncplbaaDoorC20T
import Derived.Test.YtaacclebncplbaaDoorC20N
import Derived.Test.YtaacclebncplbaaDoorRows
import Derived.Test.YtaacclebncplbaaDoorCards
import Derived.Test.YtaacclebncplbaaDoorTie
import Derived.SevenTiedAt
import Derived.ProofKit
import Derived.LaidMore
import Derived.Stop.Joined
namespace Go.Proofs.YtaacclebncplbaaDoor.stencilPlacesAsSpecified
open Go Go.ChangeShapes Go.WideShapes Go.ChangeAt Go.RowKit Vc
set_option linter.unusedVariables false
def lawP (x0 x1 x2 x3 x4 x5 x6 x7 x8 x9 x10 x11 x12 : Int) : Prop :=
((((¬ ((((((((((-1000) ≤ x0) ∧ ((-1000) ≤ x1)) ∧ ((-1000) ≤ x2)) ∧ (x0 ≤ 1000)) ∧ (x1 ≤ 1000)) ∧ (x2 ≤ 1000)) ∧ (((((((-1000) ≤ x3) ∧ ((-1000) ≤ x4)) ∧ ((-1000) ≤ x5)) ∧ (x3 ≤ 1000)) ∧ (x4 ≤ 1000)) ∧ (x5 ≤ 1000))) ∧ ((((((((-1000) ≤ x7) ∧ ((-1000) ≤ x8)) ∧ ((-1000) ≤ x9)) ∧ (x7 ≤ 1000)) ∧ (x8 ≤ 1000)) ∧ (x9 ≤ 1000)) ∧ (((((((-1000) ≤ x7) ∧ ((-1000) ≤ x8)) ∧ ((-1000) ≤ x9)) ∧ (x7 ≤ 1000)) ∧ (x8 ≤ 1000)) ∧ (x9 ≤ 1000)))) ∧ ((IntKind.wrap Go.IntKind.i64 ((IntKind.wrap Go.IntKind.i64 ((bif (((decide (x3 ≤ x0)) || (decide (x4 ≤ x1))) || (decide (x5 ≤ x2))) then 0 else (IntKind.wrap Go.IntKind.i64 (x3 - x0))) * (bif (((decide (x3 ≤ x0)) || (decide (x4 ≤ x1))) || (decide (x5 ≤ x2))) then 0 else (IntKind.wrap Go.IntKind.i64 (x4 - x1))))) * (bif (((decide (x3 ≤ x0)) || (decide (x4 ≤ x1))) || (decide (x5 ≤ x2))) then 0 else (IntKind.wrap Go.IntKind.i64 (x5 - x2))))) ≤ 520))) ∨ (¬ ((((((((-1000) ≤ x10) ∧ ((-1000) ≤ x11)) ∧ ((-1000) ≤ x12)) ∧ (x10 ≤ 1000)) ∧ (x11 ≤ 1000)) ∧ (x12 ≤ 1000)) ∧ (((((((-1000) ≤ x10) ∧ ((-1000) ≤ x11)) ∧ ((-1000) ≤ x12)) ∧ (x10 ≤ 1000)) ∧ (x11 ≤ 1000)) ∧ (x12 ≤ 1000))))) →
(true = true)) ∧
((¬ ((¬ ((((((((((-1000) ≤ x0) ∧ ((-1000) ≤ x1)) ∧ ((-1000) ≤ x2)) ∧ (x0 ≤ 1000)) ∧ (x1 ≤ 1000)) ∧ (x2 ≤ 1000)) ∧ (((((((-1000) ≤ x3) ∧ ((-1000) ≤ x4)) ∧ ((-1000) ≤ x5)) ∧ (x3 ≤ 1000)) ∧ (x4 ≤ 1000)) ∧ (x5 ≤ 1000))) ∧ ((((((((-1000) ≤ x7) ∧ ((-1000) ≤ x8)) ∧ ((-1000) ≤ x9)) ∧ (x7 ≤ 1000)) ∧ (x8 ≤ 1000)) ∧ (x9 ≤ 1000)) ∧ (((((((-1000) ≤ x7) ∧ ((-1000) ≤ x8)) ∧ ((-1000) ≤ x9)) ∧ (x7 ≤ 1000)) ∧ (x8 ≤ 1000)) ∧ (x9 ≤ 1000)))) ∧ ((IntKind.wrap Go.IntKind.i64 ((IntKind.wrap Go.IntKind.i64 ((bif (((decide (x3 ≤ x0)) || (decide (x4 ≤ x1))) || (decide (x5 ≤ x2))) then 0 else (IntKind.wrap Go.IntKind.i64 (x3 - x0))) * (bif (((decide (x3 ≤ x0)) || (decide (x4 ≤ x1))) || (decide (x5 ≤ x2))) then 0 else (IntKind.wrap Go.IntKind.i64 (x4 - x1))))) * (bif (((decide (x3 ≤ x0)) || (decide (x4 ≤ x1))) || (decide (x5 ≤ x2))) then 0 else (IntKind.wrap Go.IntKind.i64 (x5 - x2))))) ≤ 520))) ∨ (¬ ((((((((-1000) ≤ x10) ∧ ((-1000) ≤ x11)) ∧ ((-1000) ≤ x12)) ∧ (x10 ≤ 1000)) ∧ (x11 ≤ 1000)) ∧ (x12 ≤ 1000)) ∧ (((((((-1000) ≤ x10) ∧ ((-1000) ≤ x11)) ∧ ((-1000) ≤ x12)) ∧ (x10 ≤ 1000)) ∧ (x11 ≤ 1000)) ∧ (x12 ≤ 1000)))))) →
(Px 1081 [xI x0, xI x1, xI x2, xI x3, xI x4, xI x5, xI x6, xI x7, xI x8, xI x9, xI x10, xI x11, xI x12] ∧
(Px 1081 [xI x0, xI x1, xI x2, xI x3, xI x4, xI x5, xI x6, xI x7, xI x8, xI x9, xI x10, xI x11, xI x12] ∧
(Px 1082 [xI x0, xI x1, xI x2, xI x3, xI x4, xI x5, xI x6, xI x7, xI x8, xI x9, xI x10, xI x11, xI x12] ∧
(Px 1082 [xI x0, xI x1, xI x2, xI x3, xI x4, xI x5, xI x6, xI x7, xI x8, xI x9, xI x10, xI x11, xI x12] ∧
(Px 1080 [xI x0, xI x1, xI x2, xI x3, xI x4, xI x5, xI x6, xI x7, xI x8, xI x9] ∧
(Px 1080 [xI x0, xI x1, xI x2, xI x3, xI x4, xI x5, xI x6, xI x7, xI x8, xI x9] ∧
(true = true)))))))))
noncomputable def sh : List RSh := (shTs Tryd.prog [25, 3, 23, 23]).getD []
attribute [irreducible] sh
theorem link (x0 x1 x2 x3 x4 x5 x6 x7 x8 x9 x10 x11 x12 : Int) : (walkR Tryd.prog (cfG none L20 R20 [] sumC) Tryd.f3 1600 sh).law { ρ0 with x := fun j => [xI x0, xI x1, xI x2, xI x3, xI x4, xI x5, xI x6, xI x7, xI x8, xI x9, xI x10, xI x11, xI x12].getD j (xI 0) } = lawP x0 x1 x2 x3 x4 x5 x6 x7 x8 x9 x10 x11 x12 := by kernel_rfl
set_option maxHeartbeats 4000000 in
theorem lawP_ok (x0 x1 x2 x3 x4 x5 x6 x7 x8 x9 x10 x11 x12 : Int) (g0 : -9223372036854775808 ≤ x0 ∧ x0 ≤ 9223372036854775807) (g1 : -9223372036854775808 ≤ x1 ∧ x1 ≤ 9223372036854775807) (g2 : -9223372036854775808 ≤ x2 ∧ x2 ≤ 9223372036854775807) (g3 : -9223372036854775808 ≤ x3 ∧ x3 ≤ 9223372036854775807) (g4 : -9223372036854775808 ≤ x4 ∧ x4 ≤ 9223372036854775807) (g5 : -9223372036854775808 ≤ x5 ∧ x5 ≤ 9223372036854775807) (g6 : -9223372036854775808 ≤ x6 ∧ x6 ≤ 9223372036854775807) (g7 : -9223372036854775808 ≤ x7 ∧ x7 ≤ 9223372036854775807) (g8 : -9223372036854775808 ≤ x8 ∧ x8 ≤ 9223372036854775807) (g9 : -9223372036854775808 ≤ x9 ∧ x9 ≤ 9223372036854775807) (g10 : -9223372036854775808 ≤ x10 ∧ x10 ≤ 9223372036854775807) (g11 : -9223372036854775808 ≤ x11 ∧ x11 ≤ 9223372036854775807) (g12 : -9223372036854775808 ≤ x12 ∧ x12 ≤ 9223372036854775807) : lawP x0 x1 x2 x3 x4 x5 x6 x7 x8 x9 x10 x11 x12 := by
  unfold lawP
  refine And.intro ?_ ?_
  · intro h1
    rfl
  intro h2
  have hb : nB 1000 (bxI x0 x1 x2 x3 x4 x5) := by
    show ((-1000 ≤ x0 ∧ x0 ≤ 1000) ∧ (-1000 ≤ x1 ∧ x1 ≤ 1000) ∧ (-1000 ≤ x2 ∧ x2 ≤ 1000)) ∧ (-1000 ≤ x3 ∧ x3 ≤ 1000) ∧ (-1000 ≤ x4 ∧ x4 ≤ 1000) ∧ (-1000 ≤ x5 ∧ x5 ≤ 1000)
    omega
  have ha : nP 1000 (x7, x8, x9) := by
    show (-1000 ≤ x7 ∧ x7 ≤ 1000) ∧ (-1000 ≤ x8 ∧ x8 ≤ 1000) ∧ (-1000 ≤ x9 ∧ x9 ≤ 1000)
    omega
  refine andI ?_ fun o3 => ?_
  · exact ⟨nB_mono hb (by decide), nP_mono ha (by decide)⟩
  refine andI ?_ fun o4 => ?_
  · exact ⟨nB_mono hb (by decide), nP_mono ha (by decide)⟩
  refine andI ?_ fun o5 => ?_
  · exact ⟨nB_mono hb (by decide), nP_mono ha (by decide)⟩
  refine andI ?_ fun o6 => ?_
  · exact ⟨nB_mono hb (by decide), nP_mono ha (by decide)⟩
  refine andI ?_ fun o7 => ?_
  · exact ⟨nB_mono hb (by decide), nP_mono ha (by decide)⟩
  refine andI ?_ fun o8 => ?_
  · exact ⟨nB_mono hb (by decide), nP_mono ha (by decide)⟩
  rfl
theorem shape_flat : flatR sh = [.int .i64 (-9223372036854775808) 9223372036854775807, .int .i64 (-9223372036854775808) 9223372036854775807, .int .i64 (-9223372036854775808) 9223372036854775807, .int .i64 (-9223372036854775808) 9223372036854775807, .int .i64 (-9223372036854775808) 9223372036854775807, .int .i64 (-9223372036854775808) 9223372036854775807, .int .i64 (-9223372036854775808) 9223372036854775807, .int .i64 (-9223372036854775808) 9223372036854775807, .int .i64 (-9223372036854775808) 9223372036854775807, .int .i64 (-9223372036854775808) 9223372036854775807, .int .i64 (-9223372036854775808) 9223372036854775807, .int .i64 (-9223372036854775808) 9223372036854775807, .int .i64 (-9223372036854775808) 9223372036854775807] := by kernel_rfl
theorem lawful (ds : Ds) (hr : rshX sh ds) : (walkR Tryd.prog (cfG none L20 R20 [] sumC) Tryd.f3 1600 sh).law { ρ0 with x := fun j => ds.getD j (xI 0) } := by
  have hr := rshX_flat hr
  rw [shape_flat] at hr
  match ds, hr with
  | [d0, d1, d2, d3, d4, d5, d6, d7, d8, d9, d10, d11, d12], hr =>
    obtain ⟨⟨e0, l0, u0⟩, ⟨e1, l1, u1⟩, ⟨e2, l2, u2⟩, ⟨e3, l3, u3⟩, ⟨e4, l4, u4⟩, ⟨e5, l5, u5⟩, ⟨e6, l6, u6⟩, ⟨e7, l7, u7⟩, ⟨e8, l8, u8⟩, ⟨e9, l9, u9⟩, ⟨e10, l10, u10⟩, ⟨e11, l11, u11⟩, ⟨e12, l12, u12⟩, _⟩ := hr
    generalize d0.i = x0, d1.i = x1, d2.i = x2, d3.i = x3, d4.i = x4, d5.i = x5, d6.i = x6, d7.i = x7, d8.i = x8, d9.i = x9, d10.i = x10, d11.i = x11, d12.i = x12 at *
    subst e0 e1 e2 e3 e4 e5 e6 e7 e8 e9 e10 e11 e12
    exact Eq.mpr (link x0 x1 x2 x3 x4 x5 x6 x7 x8 x9 x10 x11 x12) (lawP_ok x0 x1 x2 x3 x4 x5 x6 x7 x8 x9 x10 x11 x12 ⟨l0, u0⟩ ⟨l1, u1⟩ ⟨l2, u2⟩ ⟨l3, u3⟩ ⟨l4, u4⟩ ⟨l5, u5⟩ ⟨l6, u6⟩ ⟨l7, u7⟩ ⟨l8, u8⟩ ⟨l9, u9⟩ ⟨l10, u10⟩ ⟨l11, u11⟩ ⟨l12, u12⟩)
theorem shape {H : Type} {ds : List (DataW H)} (h : ds.length = 4) : Rows.stencilPlacesAsSpecifiedSpec.fn H ds = { results := [.lit (.bool true)], args := ds } := by
  match ds, h with
  | [d1, d2, d3, d4], _ => rfl
set_option maxRecDepth 100000 in
theorem calls {H : Type} {enc : TypeId × Value → H} (W : World) (base : Nat) (args : Array Value) (ds : List (DataW H)) (p : List MemPlace) (hval : ∀ (j : Nat) t v, Tryd.f3.params[j]? = some t → args[j]? = some v → Value.okWide Tryd.prog W .any base t v)
    (hA : DataW.TrodAll enc Tryd.prog W 0 (fun _ => true) true Tryd.f3.params.toList args.toList ds p) (hg : GlobOk ρ0.g W.heap.size W) : Calls Tryd.prog 3 args W fun e w' => e = .returned (.bool true) ∧ Below W.heap.size W w' := by
  rw [Tryd.params3] at hA hval
  have hs : shTs Tryd.prog [25, 3, 23, 23] = some sh := by
    have : (shTs Tryd.prog [25, 3, 23, 23]).isSome = true := by kernel_rfl
    obtain ⟨s, h⟩ := Option.isSome_iff_exists.1 this
    unfold sh
    rw [h]; rfl
  obtain ⟨ds', hr⟩ := args_rel hA (fun i t v ht hv => hval i t v (by simpa using ht) (by simpa using hv)) hs
  have := law_callsR (L20_ok) Tryd.func3 rfl 1600 hg hr lawful
  simpa using this
set_option maxRecDepth 100000 in
theorem lifted (os : Os) (started : os.Started) (H : Type) (enc : TypeId × Value → H) :
    ReturnsInHanded {} Tryd.checked os 3 .any (fun w args => (Rows.stencilPlacesAsSpecifiedSpec.pre enc Tryd.prog Tryd.f3 [] false w args ∧ laidMetH Tryd.prog [("voxel/point.axes", Rows.laid_voxel_point_axes)] w) ∧ sizedMet enc Tryd.prog Tryd.f3 (OpenSpec.ofChange Rows.stencilPlacesAsSpecifiedSpec) false w args)
      (Rows.stencilPlacesAsSpecifiedSpec.post enc Tryd.prog Tryd.f3 false true false false) := by
  refine returnsInHanded_of_change_and (C := Tryd.checked) (X := fun w _ => laidMetH Tryd.prog [("voxel/point.axes", Rows.laid_voxel_point_axes)] w) (fun _ _ _ hh h => h.of_heap hh) own started (by kernel_rfl) Tryd.func3
    (ChangeSpec.witness_shaped (enc := enc) (C := Tryd.checked) (os := os) (X := fun w _ => laidMetH Tryd.prog [("voxel/point.axes", Rows.laid_voxel_point_axes)] w) false (World.doorLaid Tryd.prog 400 os) #[((Tryd.prog.info? 25).bind (·.zero)).getD undef, ((Tryd.prog.info? 3).bind (·.zero)).getD undef, ((Tryd.prog.info? 23).bind (·.zero)).getD undef, ((Tryd.prog.info? 23).bind (·.zero)).getD undef] 8 rfl (World.shaped_of_RefB (by kernel_rfl) (by kernel_rfl)) (by kernel_rfl) (by kernel_rfl) (by kernel_rfl) (door_met os _)) ?_
  intro W base args ds gs before hval hW _ _ hL _
  have hW0 := hW
  obtain ⟨p, q, hA, hV, _⟩ := hW0
  have hlen : ds.length = 4 := (trodAll_len hA).trans (by kernel_rfl)
  refine (calls W base args ds p hval hA (glob_ok hL)).mono fun e W' ⟨he, hb⟩ => ?_
  subst he
  exact ⟨_, rfl, law_post kids slices (by rw [Tryd.params3]; decide +kernel) rfl rfl Tryd.underlying4 (shape hlen) hW hb⟩
theorem over : Rows.StencilPlacesAsSpecifiedSaid :=
  OpenClaim.holds_of_wide 3 Tryd.f3 rfl rfl rfl rfl rfl rfl rfl ⟨rfl, rfl, rfl, rfl, rfl⟩ rfl rfl rfl rfl rfl (by kernel_rfl) Tryd.func3 (by kernel_rfl)
    (of_decide_eq_true (by kernel_rfl)) (by unfold Func.isWrapper; first | (rw [if_pos (by decide +kernel)]; kernel_rfl) | (rw [if_neg (by decide +kernel)]; exact ⟨rfl, rfl⟩))
    (fun os started H enc _ => lifted os started H enc)
theorem proved : Rows.StencilPlacesAsSpecifiedCardSaid :=
  Claim7.holds_tied_plain_at .later [] [.data] true (true, "9bfe27fa9d84c254ff0571e75aaabbc0b0d4bc58d3ea5bd9174ceb37d1b9be15") false
    over (fun _ h => by cases h) (by kernel_rfl) (fun _ h => by cases h) stencilPlacesAsSpecified_row_tie rfl ⟨rfl, rfl⟩ (by kernel_rfl) rfl
    (fun f fn hf hfn => by
      obtain rfl : f = 3 := Option.some.inj ((show Tryd.prog.funcNamed "voxel/voxellaw20.StencilPlacesAsSpecified" = some 3 by kernel_rfl).symm.trans hf) |>.symm
      obtain rfl : fn = Tryd.f3 := (Option.some.inj (Tryd.func3.symm.trans hfn)).symm
      exact ⟨by kernel_rfl, fun j t ht => by
        rw [Tryd.params3] at ht
        have hm : t ∈ [25, 3, 23, 23] := by simpa using Array.mem_of_getElem? ht
        have hall : ([25, 3, 23, 23].all fun u => !Tryd.prog.wantsStandIn u) = true := by kernel_rfl
        exact (show Tryd.prog.wantsStandIn t = false by simpa using List.all_eq_true.1 hall t hm)⟩)
    (by kernel_rfl)
#print axioms proved
end Go.Proofs.YtaacclebncplbaaDoor.stencilPlacesAsSpecified
