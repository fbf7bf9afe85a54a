/- Proved: LightStepMatchesSpec: the statement 'LightStepMatchesSpecCardSaid' of this seat, for every input that it names; no condition besides. -/
import Derived.Test.YtelbilnnmmbmdaaDoorC33Tm
import Derived.Test.YtelbilnnmmbmdaaDoorRows
import Derived.Test.YtelbilnnmmbmdaaDoorCards
import Derived.Test.YtelbilnnmmbmdaaDoorTie
import Derived.SevenTiedAt
import Derived.ProofKit
import Derived.LaidMore
import Derived.Stop.Joined
namespace Go.Proofs.YtelbilnnmmbmdaaDoor.lightStepMatchesSpec
open Go Go.ChangeShapes Go.WideShapes Go.ChangeAt Go.RowKit Vc
set_option linter.unusedVariables false
def lawP (x0 x1 x2 x3 x4 x5 : Int) (x6 : X) (x7 : X) (x8 : X) (x9 : X) (x10 x11 x12 : Int) : Prop :=
(let v0 := Ff 1222 [x7]; let v1 := Ff 1202 [xI x0, xI x1, xI x2, xI x3, xI x4, xI x5, x6, x7, x8]; ((((¬ (((v0.b = true) ∧ (x6.i ≤ 1000)) ∧ (x8.i ≤ 1200))) ∨ (¬ (v1.i = 0))) →
(true = true)) ∧
((¬ ((¬ (((v0.b = true) ∧ (x6.i ≤ 1000)) ∧ (x8.i ≤ 1200))) ∨ (¬ (v1.i = 0)))) →
(let v5 := Ff 1211 [xI x6.i, x9]; (Px 1230 [xI x0, xI x1, xI x2, xI x3, xI x4, xI x5, x6, x7, x8, v5] ∧
(Px 1230 [xI x0, xI x1, xI x2, xI x3, xI x4, xI x5, x6, x7, x8, v5] ∧
(Px 1231 [xI x0, xI x1, xI x2, xI x3, xI x4, xI x5, x6, v5, xI x10, xI x11, xI x12] ∧
(let v9 := Ff 1200 [xI x0, xI x1, xI x2, xI x3, xI x4, xI x5, x6, x7, x8, v5]; let v10 := Ff 1209 [v9, v9]; (((v10.b = true) →
 Px 1230 [xI x0, xI x1, xI x2, xI x3, xI x4, xI x5, x6, x7, x8, v5]) ∧
(let v13 := Ff 1226 [xI x0, xI x1, xI x2, xI x3, xI x4, xI x5, x6, x7, x8, v5]; let v14 := Ff 1209 [v5, v9]; ((((v10.b = true) ∧ ((v13.b == v14.b) = true)) →
(Px 1231 [xI x0, xI x1, xI x2, xI x3, xI x4, xI x5, x6, v5, xI x10, xI x11, xI x12] ∧
(true = true))) ∧
((¬ ((v10.b = true) ∧ ((v13.b == v14.b) = true))) →
(false = true)))))))))))))
noncomputable def sh : List RSh := (shTs Tryd.prog [28, 29, 30, 33, 23]).getD []
attribute [irreducible] sh
theorem link (x0 x1 x2 x3 x4 x5 : Int) (x6 : X) (x7 : X) (x8 : X) (x9 : X) (x10 x11 x12 : Int) : (walkR Tryd.prog (cfG none L33 R33m [] sm33) Tryd.f4 600 sh).law { ρ0 with x := fun j => [xI x0, xI x1, xI x2, xI x3, xI x4, xI x5, x6, x7, x8, x9, xI x10, xI x11, xI x12].getD j (xI 0) } = lawP x0 x1 x2 x3 x4 x5 x6 x7 x8 x9 x10 x11 x12 := by kernel_rfl
set_option maxHeartbeats 4000000 in
theorem lawP_ok (x0 x1 x2 x3 x4 x5 : Int) (x6 : X) (x7 : X) (x8 : X) (x9 : X) (x10 x11 x12 : Int) (g0 : -9223372036854775808 ≤ x0 ∧ x0 ≤ 9223372036854775807) (g1 : -9223372036854775808 ≤ x1 ∧ x1 ≤ 9223372036854775807) (g2 : -9223372036854775808 ≤ x2 ∧ x2 ≤ 9223372036854775807) (g3 : -9223372036854775808 ≤ x3 ∧ x3 ≤ 9223372036854775807) (g4 : -9223372036854775808 ≤ x4 ∧ x4 ≤ 9223372036854775807) (g5 : -9223372036854775808 ≤ x5 ∧ x5 ≤ 9223372036854775807) (g6 : 0 ≤ x6.i ∧ x6.i ≤ 9223372036854775807 ∧ RowOk [.int .i64 (-9223372036854775808) (9223372036854775807)] x6.r x6.i.toNat) (g7 : 0 ≤ x7.i ∧ x7.i ≤ 9223372036854775807 ∧ RowOk [.str (9223372036854775807), .bool, .bool, .bool, .int .i64 (-9223372036854775808) (9223372036854775807), .int .i64 (-9223372036854775808) (9223372036854775807), .int .i64 (-9223372036854775808) (9223372036854775807), .int .i64 (-9223372036854775808) (9223372036854775807)] x7.r x7.i.toNat) (g8 : 0 ≤ x8.i ∧ x8.i ≤ 9223372036854775807 ∧ RowOk [.bool] x8.r x8.i.toNat) (g9 : 0 ≤ x9.i ∧ x9.i ≤ 9223372036854775807 ∧ RowOk [.int .i64 (-9223372036854775808) (9223372036854775807), .int .i64 (-9223372036854775808) (9223372036854775807), .int .i64 (-9223372036854775808) (9223372036854775807), .int .i64 (-9223372036854775808) (9223372036854775807)] x9.r x9.i.toNat) (g10 : -9223372036854775808 ≤ x10 ∧ x10 ≤ 9223372036854775807) (g11 : -9223372036854775808 ≤ x11 ∧ x11 ≤ 9223372036854775807) (g12 : -9223372036854775808 ≤ x12 ∧ x12 ≤ 9223372036854775807) : lawP x0 x1 x2 x3 x4 x5 x6 x7 x8 x9 x10 x11 x12 := by
 unfold lawP
 intro v0 v1
 refine And.intro ?_ ?_
 ·intro h3
  exact rfl
 intro h4
 have ok : okC (grX (xI x0) (xI x1) (xI x2) (xI x3) (xI x4) (xI x5) x6) x7 x8 = true := by
  refine Decidable.byContradiction fun hc => h4 (.inr fun h1 => ?_)
  have e : v1.i = 1 := if_neg hc
  omega
 obtain ⟨gv, ht, hkk, el, hv, hm⟩ := grok g6.1 ok
 intro v5
 refine andI ?_ fun o6 => ?_
 ·exact ⟨ok, rfl⟩
 refine andI ?_ fun o7 => ?_
 ·exact ⟨ok, rfl⟩
 refine andI ?_ fun o8 => ?_
 ·exact ⟨gv, rfl⟩
 intro v9 v10
 refine And.intro ?_ ?_
 ·intro h12
  exact ⟨ok, rfl⟩
 intro v13 v14
 refine And.intro ?_ ?_
 ·intro h16
  refine andI ?_ fun o17 => ?_
  ·exact ⟨gv, rfl⟩
  exact rfl
 intro h18
 refine absurd (And.intro sme_refl ?_) h18
 have e : v13.b = v14.b := sme_symm
 rw [e]
 exact beq_self_eq_true _
theorem shape_flat : flatR sh = [.int .i64 (-9223372036854775808) 9223372036854775807, .int .i64 (-9223372036854775808) 9223372036854775807, .int .i64 (-9223372036854775808) 9223372036854775807, .int .i64 (-9223372036854775808) 9223372036854775807, .int .i64 (-9223372036854775808) 9223372036854775807, .int .i64 (-9223372036854775808) 9223372036854775807, .row [.int .i64 (-9223372036854775808) (9223372036854775807)] 9223372036854775807, .row [.str (9223372036854775807), .bool, .bool, .bool, .int .i64 (-9223372036854775808) (9223372036854775807), .int .i64 (-9223372036854775808) (9223372036854775807), .int .i64 (-9223372036854775808) (9223372036854775807), .int .i64 (-9223372036854775808) (9223372036854775807)] 9223372036854775807, .row [.bool] 9223372036854775807, .row [.int .i64 (-9223372036854775808) (9223372036854775807), .int .i64 (-9223372036854775808) (9223372036854775807), .int .i64 (-9223372036854775808) (9223372036854775807), .int .i64 (-9223372036854775808) (9223372036854775807)] 9223372036854775807, .int .i64 (-9223372036854775808) 9223372036854775807, .int .i64 (-9223372036854775808) 9223372036854775807, .int .i64 (-9223372036854775808) 9223372036854775807] := by kernel_rfl
theorem lawful (ds : Ds) (hr : rshX sh ds) : (walkR Tryd.prog (cfG none L33 R33m [] sm33) Tryd.f4 600 sh).law { ρ0 with x := fun j => ds.getD j (xI 0) } := by
 have hr := rshX_flat hr
 rw [shape_flat] at hr
 match ds, hr with
 | [d0, d1, d2, d3, d4, d5, d6, d7, d8, d9, d10, d11, d12], hr =>
  obtain ⟨⟨e0, l0, u0⟩, ⟨e1, l1, u1⟩, ⟨e2, l2, u2⟩, ⟨e3, l3, u3⟩, ⟨e4, l4, u4⟩, ⟨e5, l5, u5⟩, l6, l7, l8, l9, ⟨e10, l10, u10⟩, ⟨e11, l11, u11⟩, ⟨e12, l12, u12⟩, _⟩ := hr
  generalize d0.i = x0, d1.i = x1, d2.i = x2, d3.i = x3, d4.i = x4, d5.i = x5, d6 = x6, d7 = x7, d8 = x8, d9 = x9, d10.i = x10, d11.i = x11, d12.i = x12 at *
  subst e0 e1 e2 e3 e4 e5 e10 e11 e12
  exact Eq.mpr (link x0 x1 x2 x3 x4 x5 x6 x7 x8 x9 x10 x11 x12) (lawP_ok x0 x1 x2 x3 x4 x5 x6 x7 x8 x9 x10 x11 x12 ⟨l0, u0⟩ ⟨l1, u1⟩ ⟨l2, u2⟩ ⟨l3, u3⟩ ⟨l4, u4⟩ ⟨l5, u5⟩ l6 l7 l8 l9 ⟨l10, u10⟩ ⟨l11, u11⟩ ⟨l12, u12⟩)
theorem shape {H : Type} {ds : List (DataW H)} (h : ds.length = 5) : Rows.lightStepMatchesSpecSpec.fn H ds = { results := [.lit (.bool true)], args := ds } := by
 match ds, h with
 | [d1, d2, d3, d4, d5], _ => rfl
set_option maxRecDepth 100000 in
theorem calls {H : Type} {enc : TypeId × Value → H} (W : World) (base : Nat) (args : Array Value) (ds : List (DataW H)) (p : List MemPlace) (hval : ∀ (j : Nat) t v, Tryd.f4.params[j]? = some t → args[j]? = some v → Value.okWide Tryd.prog W .any base t v)
 (hA : DataW.TrodAll enc Tryd.prog W 0 (fun _ => true) true Tryd.f4.params.toList args.toList ds p) (hg : GlobOk ρ0.g W.heap.size W) : Calls Tryd.prog 4 args W fun e w' => e = .returned (.bool true) ∧ Below W.heap.size W w' := by
 rw [Tryd.params4] at hA hval
 have hs : shTs Tryd.prog [28, 29, 30, 33, 23] = some sh := by
  have : (shTs Tryd.prog [28, 29, 30, 33, 23]).isSome = true := by kernel_rfl
  obtain ⟨s, h⟩ := Option.isSome_iff_exists.1 this
  unfold sh
  rw [h]; rfl
 obtain ⟨ds', hr⟩ := args_rel hA (fun i t v ht hv => hval i t v (by simpa using ht) (by simpa using hv)) hs
 have := law_callsR (L33m_ok) Tryd.func4 rfl 600 hg hr lawful
 simpa using this
set_option maxRecDepth 100000 in
theorem lifted (os : Os) (started : os.Started) (H : Type) (enc : TypeId × Value → H) :
 ReturnsInHanded {} Tryd.checked os 4 .any (fun w args => (Rows.lightStepMatchesSpecSpec.pre enc Tryd.prog Tryd.f4 [] false w args ∧ laidMetH Tryd.prog [("voxel/material.kinds", Rows.laid_voxel_material_kinds), ("voxel/light.steps", Rows.laid_voxel_light_steps)] w) ∧ sizedMet enc Tryd.prog Tryd.f4 (OpenSpec.ofChange Rows.lightStepMatchesSpecSpec) false w args)
  (Rows.lightStepMatchesSpecSpec.post enc Tryd.prog Tryd.f4 false true false false) := by
 refine returnsInHanded_of_change_and (C := Tryd.checked) (X := fun w _ => laidMetH Tryd.prog [("voxel/material.kinds", Rows.laid_voxel_material_kinds), ("voxel/light.steps", Rows.laid_voxel_light_steps)] w) (fun _ _ _ hh h => h.of_heap hh) own started (by kernel_rfl) Tryd.func4
  (ChangeSpec.witness_shaped (enc := enc) (C := Tryd.checked) (os := os) (X := fun w _ => laidMetH Tryd.prog [("voxel/material.kinds", Rows.laid_voxel_material_kinds), ("voxel/light.steps", Rows.laid_voxel_light_steps)] w) false (World.doorLaid Tryd.prog 400 os) #[((Tryd.prog.info? 28).bind (·.zero)).getD undef, ((Tryd.prog.info? 29).bind (·.zero)).getD undef, ((Tryd.prog.info? 30).bind (·.zero)).getD undef, ((Tryd.prog.info? 33).bind (·.zero)).getD undef, ((Tryd.prog.info? 23).bind (·.zero)).getD undef] 8 rfl (World.shaped_of_RefB (by kernel_rfl) (by kernel_rfl)) (by kernel_rfl) (by kernel_rfl) (by kernel_rfl) (door_met os _)) ?_
 intro W base args ds gs before hval hW _ _ hL _
 have hW0 := hW
 obtain ⟨p, q, hA, hV, _⟩ := hW0
 have hlen : ds.length = 5 := (trodAll_len hA).trans (by kernel_rfl)
 refine (calls W base args ds p hval hA (glob_ok hL)).mono fun e W' ⟨he, hb⟩ => ?_
 subst he
 exact ⟨_, rfl, law_post kids slices (by rw [Tryd.params4]; decide +kernel) rfl rfl Tryd.underlying4 (shape hlen) hW hb⟩
theorem over : Rows.LightStepMatchesSpecSaid :=
 OpenClaim.holds_of_wide 4 Tryd.f4 rfl rfl rfl rfl rfl rfl rfl ⟨rfl, rfl, rfl, rfl, rfl⟩ rfl rfl rfl rfl rfl (by kernel_rfl) Tryd.func4 (by kernel_rfl)
  (of_decide_eq_true (by kernel_rfl)) (by unfold Func.isWrapper; first | (rw [if_pos (by decide +kernel)]; kernel_rfl) | (rw [if_neg (by decide +kernel)]; exact ⟨rfl, rfl⟩))
  (fun os started H enc _ => lifted os started H enc)
theorem proved : Rows.LightStepMatchesSpecCardSaid :=
 Claim7.holds_tied_plain_at .later [] [.widerDeep, .data] true (true, "d519c5fa85da6a69a89afb756553c9a3747c4cf694668013adbe34bf2ce43f55") false
  over (fun _ h => by cases h) (by kernel_rfl) (fun _ h => by cases h) lightStepMatchesSpec_row_tie rfl ⟨rfl, rfl⟩ (by kernel_rfl) rfl
  (fun f fn hf hfn => by
    obtain rfl : f = 4 := Option.some.inj ((show Tryd.prog.funcNamed "voxel/voxellaw33.LightStepMatchesSpec" = some 4 by kernel_rfl).symm.trans hf) |>.symm
    obtain rfl : fn = Tryd.f4 := (Option.some.inj (Tryd.func4.symm.trans hfn)).symm
    exact ⟨by kernel_rfl, fun j t ht => by
     rw [Tryd.params4] at ht
     have hm : t ∈ [28, 29, 30, 33, 23] := by simpa using Array.mem_of_getElem? ht
     have hall : ([28, 29, 30, 33, 23].all fun u => !Tryd.prog.wantsStandIn u) = true := by kernel_rfl
     exact (show Tryd.prog.wantsStandIn t = false by simpa using List.all_eq_true.1 hall t hm)⟩)
  (by kernel_rfl)
#print axioms proved
end Go.Proofs.YtelbilnnmmbmdaaDoor.lightStepMatchesSpec
