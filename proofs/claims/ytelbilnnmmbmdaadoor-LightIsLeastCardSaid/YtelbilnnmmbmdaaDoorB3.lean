/- Proved: LightIsLeast: the statement 'LightIsLeastCardSaid' of this seat, for every input that it names; no condition besides. -/
import Derived.Test.YtelbilnnmmbmdaaDoorC33Tl
import Derived.Test.YtelbilnnmmbmdaaDoorRows
import Derived.Test.YtelbilnnmmbmdaaDoorCards
import Derived.Test.YtelbilnnmmbmdaaDoorTie
import Derived.SevenTiedAt
import Derived.ProofKit
import Derived.LaidMore
import Derived.Stop.Joined
namespace Go.Proofs.YtelbilnnmmbmdaaDoor.lightIsLeast
open Go Go.ChangeShapes Go.WideShapes Go.ChangeAt Go.RowKit Vc
set_option linter.unusedVariables false
def lawP (x0 x1 x2 x3 x4 x5 : Int) (x6 : X) (x7 : X) (x8 : X) (x9 : X) : Prop :=
(let v0 := Ff 1222 [x7]; let v1 := Ff 1202 [xI x0, xI x1, xI x2, xI x3, xI x4, xI x5, x6, x7, x8]; ((((¬ (((v0.b = true) ∧ (x6.i ≤ 1000)) ∧ (x8.i ≤ 1200))) ∨ (¬ (v1.i = 0))) →
(true = true)) ∧
((¬ ((¬ (((v0.b = true) ∧ (x6.i ≤ 1000)) ∧ (x8.i ≤ 1200))) ∨ (¬ (v1.i = 0)))) →
(((v1.i = 0) →
(let v7 := Ff 1201 [xI x0, xI x1, xI x2, xI x3, xI x4, xI x5, x6, x7, x8]; Px 1230 [xI x0, xI x1, xI x2, xI x3, xI x4, xI x5, x6, x7, x8, v7])) ∧
(let v8 := Ff 1201 [xI x0, xI x1, xI x2, xI x3, xI x4, xI x5, x6, x7, x8]; let v9 := Ff 1226 [xI x0, xI x1, xI x2, xI x3, xI x4, xI x5, x6, x7, x8, v8]; ((((¬ (v1.i = 0)) ∨ (¬ (v9.b = true))) →
(false = true)) ∧
((¬ ((¬ (v1.i = 0)) ∨ (¬ (v9.b = true)))) →
(let v13 := Ff 1211 [xI x6.i, x9]; (Px 1230 [xI x0, xI x1, xI x2, xI x3, xI x4, xI x5, x6, x7, x8, v13] ∧
(let v15 := Ff 1200 [xI x0, xI x1, xI x2, xI x3, xI x4, xI x5, x6, x7, x8, v13]; let v16 := Ff 1210 [v15, v13]; let v17 := Ff 1210 [v8, v13]; ((¬ (v16.b = true)) ∨ (v17.b = true))))))))))))
noncomputable def sh : List RSh := (shTs Tryd.prog [28, 29, 30, 33]).getD []
attribute [irreducible] sh
theorem link (x0 x1 x2 x3 x4 x5 : Int) (x6 : X) (x7 : X) (x8 : X) (x9 : X) : (walkR Tryd.prog (cfG none L33 R33l [] sm33) Tryd.f5 600 sh).law { ρ0 with x := fun j => [xI x0, xI x1, xI x2, xI x3, xI x4, xI x5, x6, x7, x8, x9].getD j (xI 0) } = lawP x0 x1 x2 x3 x4 x5 x6 x7 x8 x9 := by kernel_rfl
set_option maxHeartbeats 4000000 in
theorem lawP_ok (x0 x1 x2 x3 x4 x5 : Int) (x6 : X) (x7 : X) (x8 : X) (x9 : X) (g0 : -9223372036854775808 ≤ x0 ∧ x0 ≤ 9223372036854775807) (g1 : -9223372036854775808 ≤ x1 ∧ x1 ≤ 9223372036854775807) (g2 : -9223372036854775808 ≤ x2 ∧ x2 ≤ 9223372036854775807) (g3 : -9223372036854775808 ≤ x3 ∧ x3 ≤ 9223372036854775807) (g4 : -9223372036854775808 ≤ x4 ∧ x4 ≤ 9223372036854775807) (g5 : -9223372036854775808 ≤ x5 ∧ x5 ≤ 9223372036854775807) (g6 : 0 ≤ x6.i ∧ x6.i ≤ 9223372036854775807 ∧ RowOk [.int .i64 (-9223372036854775808) (9223372036854775807)] x6.r x6.i.toNat) (g7 : 0 ≤ x7.i ∧ x7.i ≤ 9223372036854775807 ∧ RowOk [.str (9223372036854775807), .bool, .bool, .bool, .int .i64 (-9223372036854775808) (9223372036854775807), .int .i64 (-9223372036854775808) (9223372036854775807), .int .i64 (-9223372036854775808) (9223372036854775807), .int .i64 (-9223372036854775808) (9223372036854775807)] x7.r x7.i.toNat) (g8 : 0 ≤ x8.i ∧ x8.i ≤ 9223372036854775807 ∧ RowOk [.bool] x8.r x8.i.toNat) (g9 : 0 ≤ x9.i ∧ x9.i ≤ 9223372036854775807 ∧ RowOk [.int .i64 (-9223372036854775808) (9223372036854775807), .int .i64 (-9223372036854775808) (9223372036854775807), .int .i64 (-9223372036854775808) (9223372036854775807), .int .i64 (-9223372036854775808) (9223372036854775807)] x9.r x9.i.toNat) : lawP x0 x1 x2 x3 x4 x5 x6 x7 x8 x9 := by
 unfold lawP
 intro v0 v1
 refine And.intro ?_ ?_
 ·intro h3
  exact rfl
 intro h4
 have ok : okC (grX (xI x0) (xI x1) (xI x2) (xI x3) (xI x4) (xI x5) x6) x7 x8 = true := by
  refine Decidable.byContradiction fun hc => h4 (.inr fun h1 => ?_)
  have e : v1.i = 1 := if_neg hc
  omega
 obtain ⟨gv, ht, hkk, el, hv, hm⟩ := grok g6.1 ok
 have e0 : v1.i = 0 := if_pos ok
 have e1 : Ff 1201 [xI x0, xI x1, xI x2, xI x3, xI x4, xI x5, x6, x7, x8] = rowF x6.i (fulF (bxI x0 x1 x2 x3 x4 x5) (lstX deI x6) x7 x8) := if_pos ok
 refine And.intro ?_ ?_
 ·intro h6 v7
  refine ⟨ok, ?_⟩
  show (Ff 1201 [xI x0, xI x1, xI x2, xI x3, xI x4, xI x5, x6, x7, x8]).i = x6.i
  rw [e1]; rfl
 intro v8 v9
 refine And.intro ?_ ?_
 ·intro h11
  refine absurd h11 fun hc => hc.elim (fun h => h e0) fun h => h ?_
  show smeX (rowF x6.i (stpF (bxI x0 x1 x2 x3 x4 x5) (lstX deI x6) x7 x8 (lvX (Ff 1201 [xI x0, xI x1, xI x2, xI x3, xI x4, xI x5, x6, x7, x8])))) (Ff 1201 [xI x0, xI x1, xI x2, xI x3, xI x4, xI x5, x6, x7, x8]) = true
  rw [e1]
  exact sme_row el rfl (ful_fix (k := x8) hv ht)
 intro h12 v13
 refine andI ?_ fun o14 => ?_
 ·exact ⟨ok, rfl⟩
 intro v15 v16 v17
 by_cases h : v16.b = true
 ·right
  show lesX (Ff 1201 [xI x0, xI x1, xI x2, xI x3, xI x4, xI x5, x6, x7, x8]) v13 = true
  rw [e1]
  have hle : leR (lstX deI x6).length (stpF (bxI x0 x1 x2 x3 x4 x5) (lstX deI x6) x7 x8 (lstF x9)) (lstF x9) := les_to (v := rowF x6.i (stpF (bxI x0 x1 x2 x3 x4 x5) (lstX deI x6) x7 x8 (lstF x9))) (w := rowF x6.i (lstF x9)) el h
  exact les_of (v := rowF x6.i (fulF (bxI x0 x1 x2 x3 x4 x5) (lstX deI x6) x7 x8)) (w := rowF x6.i (lstF x9)) el rfl (lfp_least (ful_stp hv ht) lst_lv hle)
 ·exact .inl h
theorem shape_flat : flatR sh = [.int .i64 (-9223372036854775808) 9223372036854775807, .int .i64 (-9223372036854775808) 9223372036854775807, .int .i64 (-9223372036854775808) 9223372036854775807, .int .i64 (-9223372036854775808) 9223372036854775807, .int .i64 (-9223372036854775808) 9223372036854775807, .int .i64 (-9223372036854775808) 9223372036854775807, .row [.int .i64 (-9223372036854775808) (9223372036854775807)] 9223372036854775807, .row [.str (9223372036854775807), .bool, .bool, .bool, .int .i64 (-9223372036854775808) (9223372036854775807), .int .i64 (-9223372036854775808) (9223372036854775807), .int .i64 (-9223372036854775808) (9223372036854775807), .int .i64 (-9223372036854775808) (9223372036854775807)] 9223372036854775807, .row [.bool] 9223372036854775807, .row [.int .i64 (-9223372036854775808) (9223372036854775807), .int .i64 (-9223372036854775808) (9223372036854775807), .int .i64 (-9223372036854775808) (9223372036854775807), .int .i64 (-9223372036854775808) (9223372036854775807)] 9223372036854775807] := by kernel_rfl
theorem lawful (ds : Ds) (hr : rshX sh ds) : (walkR Tryd.prog (cfG none L33 R33l [] sm33) Tryd.f5 600 sh).law { ρ0 with x := fun j => ds.getD j (xI 0) } := by
 have hr := rshX_flat hr
 rw [shape_flat] at hr
 match ds, hr with
 | [d0, d1, d2, d3, d4, d5, d6, d7, d8, d9], hr =>
  obtain ⟨⟨e0, l0, u0⟩, ⟨e1, l1, u1⟩, ⟨e2, l2, u2⟩, ⟨e3, l3, u3⟩, ⟨e4, l4, u4⟩, ⟨e5, l5, u5⟩, l6, l7, l8, l9, _⟩ := hr
  generalize d0.i = x0, d1.i = x1, d2.i = x2, d3.i = x3, d4.i = x4, d5.i = x5, d6 = x6, d7 = x7, d8 = x8, d9 = x9 at *
  subst e0 e1 e2 e3 e4 e5
  exact Eq.mpr (link x0 x1 x2 x3 x4 x5 x6 x7 x8 x9) (lawP_ok x0 x1 x2 x3 x4 x5 x6 x7 x8 x9 ⟨l0, u0⟩ ⟨l1, u1⟩ ⟨l2, u2⟩ ⟨l3, u3⟩ ⟨l4, u4⟩ ⟨l5, u5⟩ l6 l7 l8 l9)
theorem shape {H : Type} {ds : List (DataW H)} (h : ds.length = 4) : Rows.lightIsLeastSpec.fn H ds = { results := [.lit (.bool true)], args := ds } := by
 match ds, h with
 | [d1, d2, d3, d4], _ => rfl
set_option maxRecDepth 100000 in
theorem calls {H : Type} {enc : TypeId × Value → H} (W : World) (base : Nat) (args : Array Value) (ds : List (DataW H)) (p : List MemPlace) (hval : ∀ (j : Nat) t v, Tryd.f5.params[j]? = some t → args[j]? = some v → Value.okWide Tryd.prog W .any base t v)
 (hA : DataW.TrodAll enc Tryd.prog W 0 (fun _ => true) true Tryd.f5.params.toList args.toList ds p) (hg : GlobOk ρ0.g W.heap.size W) : Calls Tryd.prog 5 args W fun e w' => e = .returned (.bool true) ∧ Below W.heap.size W w' := by
 rw [Tryd.params5] at hA hval
 have hs : shTs Tryd.prog [28, 29, 30, 33] = some sh := by
  have : (shTs Tryd.prog [28, 29, 30, 33]).isSome = true := by kernel_rfl
  obtain ⟨s, h⟩ := Option.isSome_iff_exists.1 this
  unfold sh
  rw [h]; rfl
 obtain ⟨ds', hr⟩ := args_rel hA (fun i t v ht hv => hval i t v (by simpa using ht) (by simpa using hv)) hs
 have := law_callsR (L33l_ok) Tryd.func5 rfl 600 hg hr lawful
 simpa using this
set_option maxRecDepth 100000 in
theorem lifted (os : Os) (started : os.Started) (H : Type) (enc : TypeId × Value → H) :
 ReturnsInHanded {} Tryd.checked os 5 .any (fun w args => (Rows.lightIsLeastSpec.pre enc Tryd.prog Tryd.f5 [] false w args ∧ laidMetH Tryd.prog [("voxel/material.kinds", Rows.laid_voxel_material_kinds), ("voxel/light.steps", Rows.laid_voxel_light_steps)] w) ∧ sizedMet enc Tryd.prog Tryd.f5 (OpenSpec.ofChange Rows.lightIsLeastSpec) false w args)
  (Rows.lightIsLeastSpec.post enc Tryd.prog Tryd.f5 false true false false) := by
 refine returnsInHanded_of_change_and (C := Tryd.checked) (X := fun w _ => laidMetH Tryd.prog [("voxel/material.kinds", Rows.laid_voxel_material_kinds), ("voxel/light.steps", Rows.laid_voxel_light_steps)] w) (fun _ _ _ hh h => h.of_heap hh) own started (by kernel_rfl) Tryd.func5
  (ChangeSpec.witness_shaped (enc := enc) (C := Tryd.checked) (os := os) (X := fun w _ => laidMetH Tryd.prog [("voxel/material.kinds", Rows.laid_voxel_material_kinds), ("voxel/light.steps", Rows.laid_voxel_light_steps)] w) false (World.doorLaid Tryd.prog 400 os) #[((Tryd.prog.info? 28).bind (·.zero)).getD undef, ((Tryd.prog.info? 29).bind (·.zero)).getD undef, ((Tryd.prog.info? 30).bind (·.zero)).getD undef, ((Tryd.prog.info? 33).bind (·.zero)).getD undef] 8 rfl (World.shaped_of_RefB (by kernel_rfl) (by kernel_rfl)) (by kernel_rfl) (by kernel_rfl) (by kernel_rfl) (door_met os _)) ?_
 intro W base args ds gs before hval hW _ _ hL _
 have hW0 := hW
 obtain ⟨p, q, hA, hV, _⟩ := hW0
 have hlen : ds.length = 4 := (trodAll_len hA).trans (by kernel_rfl)
 refine (calls W base args ds p hval hA (glob_ok hL)).mono fun e W' ⟨he, hb⟩ => ?_
 subst he
 exact ⟨_, rfl, law_post kids slices (by rw [Tryd.params5]; decide +kernel) rfl rfl Tryd.underlying4 (shape hlen) hW hb⟩
theorem over : Rows.LightIsLeastSaid :=
 OpenClaim.holds_of_wide 5 Tryd.f5 rfl rfl rfl rfl rfl rfl rfl ⟨rfl, rfl, rfl, rfl, rfl⟩ rfl rfl rfl rfl rfl (by kernel_rfl) Tryd.func5 (by kernel_rfl)
  (of_decide_eq_true (by kernel_rfl)) (by unfold Func.isWrapper; first | (rw [if_pos (by decide +kernel)]; kernel_rfl) | (rw [if_neg (by decide +kernel)]; exact ⟨rfl, rfl⟩))
  (fun os started H enc _ => lifted os started H enc)
theorem proved : Rows.LightIsLeastCardSaid :=
 Claim7.holds_tied_plain_at .later [] [.widerDeep, .data] true (true, "d519c5fa85da6a69a89afb756553c9a3747c4cf694668013adbe34bf2ce43f55") false
  over (fun _ h => by cases h) (by kernel_rfl) (fun _ h => by cases h) lightIsLeast_row_tie rfl ⟨rfl, rfl⟩ (by kernel_rfl) rfl
  (fun f fn hf hfn => by
    obtain rfl : f = 5 := Option.some.inj ((show Tryd.prog.funcNamed "voxel/voxellaw33.LightIsLeast" = some 5 by kernel_rfl).symm.trans hf) |>.symm
    obtain rfl : fn = Tryd.f5 := (Option.some.inj (Tryd.func5.symm.trans hfn)).symm
    exact ⟨by kernel_rfl, fun j t ht => by
     rw [Tryd.params5] at ht
     have hm : t ∈ [28, 29, 30, 33] := by simpa using Array.mem_of_getElem? ht
     have hall : ([28, 29, 30, 33].all fun u => !Tryd.prog.wantsStandIn u) = true := by kernel_rfl
     exact (show Tryd.prog.wantsStandIn t = false by simpa using List.all_eq_true.1 hall t hm)⟩)
  (by kernel_rfl)
#print axioms proved
end Go.Proofs.YtelbilnnmmbmdaaDoor.lightIsLeast
