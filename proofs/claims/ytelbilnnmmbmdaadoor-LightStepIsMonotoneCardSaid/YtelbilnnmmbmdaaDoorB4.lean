/- Proved: LightStepIsMonotone: the statement 'LightStepIsMonotoneCardSaid' of this seat, for every input that it names; no condition besides. -/
import Derived.Test.YtelbilnnmmbmdaaDoorC33Tl
import Derived.Test.YtelbilnnmmbmdaaDoorRows
import Derived.Test.YtelbilnnmmbmdaaDoorCards
import Derived.Test.YtelbilnnmmbmdaaDoorTie
import Derived.SevenTiedAt
import Derived.ProofKit
import Derived.LaidMore
import Derived.Stop.Joined
namespace Go.Proofs.YtelbilnnmmbmdaaDoor.lightStepIsMonotone
open Go Go.ChangeShapes Go.WideShapes Go.ChangeAt Go.RowKit Vc
set_option linter.unusedVariables false
def lawP (x0 x1 x2 x3 x4 x5 : Int) (x6 : X) (x7 : X) (x8 : X) (x9 : X) (x10 : X) : Prop :=
(let v0 := Ff 1222 [x7]; let v1 := Ff 1202 [xI x0, xI x1, xI x2, xI x3, xI x4, xI x5, x6, x7, x8]; ((((¬ (((v0.b = true) ∧ (x6.i ≤ 1000)) ∧ (x8.i ≤ 1200))) ∨ (¬ (v1.i = 0))) →
(true = true)) ∧
((¬ ((¬ (((v0.b = true) ∧ (x6.i ≤ 1000)) ∧ (x8.i ≤ 1200))) ∨ (¬ (v1.i = 0)))) →
(let v5 := Ff 1211 [xI x6.i, x9]; let v6 := Ff 1211 [xI x6.i, x10]; (Px 1268 [xI x0, xI x1, xI x2, xI x3, xI x4, xI x5, x6, x7, x8, v5, v6, xI 0, (mkX (rwRep [xI 0, xI 0, xI 0, xI 0]) v5.i)] ∧
(∀ x30 : X, (∀ x31 : X, (((0 ≤ x30.i) ∧ (x30.i ≤ 2097152)) →
((0 ≤ x31.i ∧ x31.i ≤ 2097152 ∧ RowOk SLv x31.r (x31.i).toNat) →
(Px 1268 [xI x0, xI x1, xI x2, xI x3, xI x4, xI x5, x6, x7, x8, v5, v6, x30, x31] →
(((x30.i < v5.i) →
((x30.i < x31.i) ∧
((x30.i < v6.i) ∧
((x30.i < v5.i) ∧
((x30.i < x31.i) ∧
((x30.i < v6.i) ∧
((x30.i < v5.i) ∧
((x30.i < x31.i) ∧
((x30.i < v6.i) ∧
((x30.i < v5.i) ∧
((x30.i < x31.i) ∧
((x30.i < v6.i) ∧
((x30.i < v5.i) ∧
(Px 1268 [xI x0, xI x1, xI x2, xI x3, xI x4, xI x5, x6, x7, x8, v5, v6, (xI (x30.i + 1)), (mkX (rwSet (rwSet (rwSet (rwSet x31.r x30.i 0 (xI (min (v5.r x30.i 0).i (v6.r x30.i 0).i))) x30.i 1 (xI (min (v5.r x30.i 1).i (v6.r x30.i 1).i))) x30.i 2 (xI (min (v5.r x30.i 2).i (v6.r x30.i 2).i))) x30.i 3 (xI (min (v5.r x30.i 3).i (v6.r x30.i 3).i))) x31.i)] ∧
(let v26 := Ff 1268 [xI x0, xI x1, xI x2, xI x3, xI x4, xI x5, x6, x7, x8, v5, v6, (xI (x30.i + 1)), (mkX (rwSet (rwSet (rwSet (rwSet x31.r x30.i 0 (xI (min (v5.r x30.i 0).i (v6.r x30.i 0).i))) x30.i 1 (xI (min (v5.r x30.i 1).i (v6.r x30.i 1).i))) x30.i 2 (xI (min (v5.r x30.i 2).i (v6.r x30.i 2).i))) x30.i 3 (xI (min (v5.r x30.i 3).i (v6.r x30.i 3).i))) x31.i)]; let v27 := Ff 1268 [xI x0, xI x1, xI x2, xI x3, xI x4, xI x5, x6, x7, x8, v5, v6, x30, x31]; ((v26.i < v27.i) ∧
(0 < v27.i))))))))))))))))) ∧
((¬ (x30.i < v5.i)) →
(Px 1230 [xI x0, xI x1, xI x2, xI x3, xI x4, xI x5, x6, x7, x8, x31] ∧
(Px 1230 [xI x0, xI x1, xI x2, xI x3, xI x4, xI x5, x6, x7, x8, v5] ∧
(Px 1230 [xI x0, xI x1, xI x2, xI x3, xI x4, xI x5, x6, x7, x8, v6] ∧
(let v33 := Ff 1200 [xI x0, xI x1, xI x2, xI x3, xI x4, xI x5, x6, x7, x8, x31]; let v34 := Ff 1200 [xI x0, xI x1, xI x2, xI x3, xI x4, xI x5, x6, x7, x8, v5]; let v35 := Ff 1210 [v33, v34]; let v36 := Ff 1200 [xI x0, xI x1, xI x2, xI x3, xI x4, xI x5, x6, x7, x8, v6]; let v37 := Ff 1210 [v33, v36]; ((v35.b = true) ∧ (v37.b = true))))))))))))))))))
noncomputable def sh : List RSh := (shTs Tryd.prog [28, 29, 30, 33, 33]).getD []
attribute [irreducible] sh
theorem link (x0 x1 x2 x3 x4 x5 : Int) (x6 : X) (x7 : X) (x8 : X) (x9 : X) (x10 : X) : (walkR Tryd.prog (cfG none L33 R33l lpMono sm33) Tryd.f6 600 sh).law { ρ0 with x := fun j => [xI x0, xI x1, xI x2, xI x3, xI x4, xI x5, x6, x7, x8, x9, x10].getD j (xI 0) } = lawP x0 x1 x2 x3 x4 x5 x6 x7 x8 x9 x10 := by kernel_rfl
set_option maxHeartbeats 4000000 in
theorem lawP_ok (x0 x1 x2 x3 x4 x5 : Int) (x6 : X) (x7 : X) (x8 : X) (x9 : X) (x10 : X) (g0 : -9223372036854775808 ≤ x0 ∧ x0 ≤ 9223372036854775807) (g1 : -9223372036854775808 ≤ x1 ∧ x1 ≤ 9223372036854775807) (g2 : -9223372036854775808 ≤ x2 ∧ x2 ≤ 9223372036854775807) (g3 : -9223372036854775808 ≤ x3 ∧ x3 ≤ 9223372036854775807) (g4 : -9223372036854775808 ≤ x4 ∧ x4 ≤ 9223372036854775807) (g5 : -9223372036854775808 ≤ x5 ∧ x5 ≤ 9223372036854775807) (g6 : 0 ≤ x6.i ∧ x6.i ≤ 9223372036854775807 ∧ RowOk [.int .i64 (-9223372036854775808) (9223372036854775807)] x6.r x6.i.toNat) (g7 : 0 ≤ x7.i ∧ x7.i ≤ 9223372036854775807 ∧ RowOk [.str (9223372036854775807), .bool, .bool, .bool, .int .i64 (-9223372036854775808) (9223372036854775807), .int .i64 (-9223372036854775808) (9223372036854775807), .int .i64 (-9223372036854775808) (9223372036854775807), .int .i64 (-9223372036854775808) (9223372036854775807)] x7.r x7.i.toNat) (g8 : 0 ≤ x8.i ∧ x8.i ≤ 9223372036854775807 ∧ RowOk [.bool] x8.r x8.i.toNat) (g9 : 0 ≤ x9.i ∧ x9.i ≤ 9223372036854775807 ∧ RowOk [.int .i64 (-9223372036854775808) (9223372036854775807), .int .i64 (-9223372036854775808) (9223372036854775807), .int .i64 (-9223372036854775808) (9223372036854775807), .int .i64 (-9223372036854775808) (9223372036854775807)] x9.r x9.i.toNat) (g10 : 0 ≤ x10.i ∧ x10.i ≤ 9223372036854775807 ∧ RowOk [.int .i64 (-9223372036854775808) (9223372036854775807), .int .i64 (-9223372036854775808) (9223372036854775807), .int .i64 (-9223372036854775808) (9223372036854775807), .int .i64 (-9223372036854775808) (9223372036854775807)] x10.r x10.i.toNat) : lawP x0 x1 x2 x3 x4 x5 x6 x7 x8 x9 x10 := by
 unfold lawP
 intro v0 v1
 refine And.intro ?_ ?_
 ·intro h3
  exact rfl
 intro h4
 have ok : okC (grX (xI x0) (xI x1) (xI x2) (xI x3) (xI x4) (xI x5) x6) x7 x8 = true := by
  refine Decidable.byContradiction fun hc => h4 (.inr fun h1 => ?_)
  have e : v1.i = 1 := if_neg hc
  omega
 obtain ⟨gv, ht, hkk, el, hv, hm⟩ := grok g6.1 ok
 intro v5 v6
 have e5 : v5.i = x6.i := rfl
 have e6 : v6.i = x6.i := rfl
 refine andI ?_ fun o7 => ?_
 ·exact ⟨Int.le_refl _, g6.1, rfl, fun j hj => ⟨(if_neg (show ¬ (j : Int) < 0 by omega)).symm, (if_neg (show ¬ (j : Int) < 0 by omega)).symm, (if_neg (show ¬ (j : Int) < 0 by omega)).symm, (if_neg (show ¬ (j : Int) < 0 by omega)).symm⟩⟩
 intro x30 x31 h8 r9 p10
 obtain ⟨q0, q1, q2, q3⟩ : 0 ≤ x30.i ∧ x30.i ≤ v5.i ∧ x31.i = v5.i ∧ ∀ j : Nat, (j : Int) < v5.i → rowQ x31 j fun ch => if (j : Int) < x30.i then min (lvX v5 j ch) (lvX v6 j ch) else 0 := p10
 refine And.intro ?_ ?_
 ·intro h12
  refine andI ?_ fun o13 => ?_
  ·omega
  refine andI ?_ fun o14 => ?_
  ·omega
  refine andI ?_ fun o15 => ?_
  ·omega
  refine andI ?_ fun o16 => ?_
  ·omega
  refine andI ?_ fun o17 => ?_
  ·omega
  refine andI ?_ fun o18 => ?_
  ·omega
  refine andI ?_ fun o19 => ?_
  ·omega
  refine andI ?_ fun o20 => ?_
  ·omega
  refine andI ?_ fun o21 => ?_
  ·omega
  refine andI ?_ fun o22 => ?_
  ·omega
  refine andI ?_ fun o23 => ?_
  ·omega
  refine andI ?_ fun o24 => ?_
  ·omega
  refine andI ?_ fun o25 => ?_
  ·refine ⟨by show 0 ≤ x30.i + 1; omega, by show x30.i + 1 ≤ v5.i; omega, q2, fun j hj => ?_⟩
   show rowQ _ j fun ch => if (j : Int) < x30.i + 1 then min (lvX v5 j ch) (lvX v6 j ch) else 0
   refine rowQ_set4 (fun hne => rowQ_congr (q3 j hj) fun c _ _ => ?_) fun hji => ?_
   ·by_cases hl : (j : Int) < x30.i
    ·rw [if_pos hl, if_pos (by omega)]
    ·rw [if_neg hl, if_neg (by omega)]
   ·simp only [hji, if_pos (Int.lt_succ x30.i)]
    exact ⟨rfl, rfl, rfl, rfl⟩
  intro v26 v27
  refine andI ?_ fun o28 => ?_
  ·show v5.i + 1 - (x30.i + 1) < v5.i + 1 - x30.i
   omega
  show 0 < v5.i + 1 - x30.i
  omega
 intro h29
 have hq : ∀ j c : Int, 0 ≤ j → j < (lstX deI x6).length → 0 ≤ c → c < 4 → lvX x31 j c = min (lvX v5 j c) (lvX v6 j c) := fun j c a d e f => by
  have := rowQ_at (q3 j.toNat (by omega)) e f
  rw [Int.toNat_of_nonneg a, if_pos (by omega)] at this
  exact this
 refine andI ?_ fun o30 => ?_
 ·exact ⟨ok, q2.trans e5⟩
 refine andI ?_ fun o31 => ?_
 ·exact ⟨ok, rfl⟩
 refine andI ?_ fun o32 => ?_
 ·exact ⟨ok, rfl⟩
 intro v33 v34 v35 v36 v37
 refine ⟨les_of (v := v33) (w := v34) el rfl fun i c a d e f => ?_, les_of (v := v33) (w := v36) el rfl fun i c a d e f => ?_⟩
 ·exact stp_mono (L := lvX x31) (M := lvX v5) hv ht e f fun j p q => by rw [hq j c p q e f]; exact Int.min_le_left _ _
 ·exact stp_mono (L := lvX x31) (M := lvX v6) hv ht e f fun j p q => by rw [hq j c p q e f]; exact Int.min_le_right _ _
theorem shape_flat : flatR sh = [.int .i64 (-9223372036854775808) 9223372036854775807, .int .i64 (-9223372036854775808) 9223372036854775807, .int .i64 (-9223372036854775808) 9223372036854775807, .int .i64 (-9223372036854775808) 9223372036854775807, .int .i64 (-9223372036854775808) 9223372036854775807, .int .i64 (-9223372036854775808) 9223372036854775807, .row [.int .i64 (-9223372036854775808) (9223372036854775807)] 9223372036854775807, .row [.str (9223372036854775807), .bool, .bool, .bool, .int .i64 (-9223372036854775808) (9223372036854775807), .int .i64 (-9223372036854775808) (9223372036854775807), .int .i64 (-9223372036854775808) (9223372036854775807), .int .i64 (-9223372036854775808) (9223372036854775807)] 9223372036854775807, .row [.bool] 9223372036854775807, .row [.int .i64 (-9223372036854775808) (9223372036854775807), .int .i64 (-9223372036854775808) (9223372036854775807), .int .i64 (-9223372036854775808) (9223372036854775807), .int .i64 (-9223372036854775808) (9223372036854775807)] 9223372036854775807, .row [.int .i64 (-9223372036854775808) (9223372036854775807), .int .i64 (-9223372036854775808) (9223372036854775807), .int .i64 (-9223372036854775808) (9223372036854775807), .int .i64 (-9223372036854775808) (9223372036854775807)] 9223372036854775807] := by kernel_rfl
theorem lawful (ds : Ds) (hr : rshX sh ds) : (walkR Tryd.prog (cfG none L33 R33l lpMono sm33) Tryd.f6 600 sh).law { ρ0 with x := fun j => ds.getD j (xI 0) } := by
 have hr := rshX_flat hr
 rw [shape_flat] at hr
 match ds, hr with
 | [d0, d1, d2, d3, d4, d5, d6, d7, d8, d9, d10], hr =>
  obtain ⟨⟨e0, l0, u0⟩, ⟨e1, l1, u1⟩, ⟨e2, l2, u2⟩, ⟨e3, l3, u3⟩, ⟨e4, l4, u4⟩, ⟨e5, l5, u5⟩, l6, l7, l8, l9, l10, _⟩ := hr
  generalize d0.i = x0, d1.i = x1, d2.i = x2, d3.i = x3, d4.i = x4, d5.i = x5, d6 = x6, d7 = x7, d8 = x8, d9 = x9, d10 = x10 at *
  subst e0 e1 e2 e3 e4 e5
  exact Eq.mpr (link x0 x1 x2 x3 x4 x5 x6 x7 x8 x9 x10) (lawP_ok x0 x1 x2 x3 x4 x5 x6 x7 x8 x9 x10 ⟨l0, u0⟩ ⟨l1, u1⟩ ⟨l2, u2⟩ ⟨l3, u3⟩ ⟨l4, u4⟩ ⟨l5, u5⟩ l6 l7 l8 l9 l10)
theorem shape {H : Type} {ds : List (DataW H)} (h : ds.length = 5) : Rows.lightStepIsMonotoneSpec.fn H ds = { results := [.lit (.bool true)], args := ds } := by
 match ds, h with
 | [d1, d2, d3, d4, d5], _ => rfl
set_option maxRecDepth 100000 in
theorem calls {H : Type} {enc : TypeId × Value → H} (W : World) (base : Nat) (args : Array Value) (ds : List (DataW H)) (p : List MemPlace) (hval : ∀ (j : Nat) t v, Tryd.f6.params[j]? = some t → args[j]? = some v → Value.okWide Tryd.prog W .any base t v)
 (hA : DataW.TrodAll enc Tryd.prog W 0 (fun _ => true) true Tryd.f6.params.toList args.toList ds p) (hg : GlobOk ρ0.g W.heap.size W) : Calls Tryd.prog 6 args W fun e w' => e = .returned (.bool true) ∧ Below W.heap.size W w' := by
 rw [Tryd.params6] at hA hval
 have hs : shTs Tryd.prog [28, 29, 30, 33, 33] = some sh := by
  have : (shTs Tryd.prog [28, 29, 30, 33, 33]).isSome = true := by kernel_rfl
  obtain ⟨s, h⟩ := Option.isSome_iff_exists.1 this
  unfold sh
  rw [h]; rfl
 obtain ⟨ds', hr⟩ := args_rel hA (fun i t v ht hv => hval i t v (by simpa using ht) (by simpa using hv)) hs
 have := law_callsR (L33l_ok) Tryd.func6 rfl 600 hg hr lawful
 simpa using this
set_option maxRecDepth 100000 in
theorem lifted (os : Os) (started : os.Started) (H : Type) (enc : TypeId × Value → H) :
 ReturnsInHanded {} Tryd.checked os 6 .any (fun w args => (Rows.lightStepIsMonotoneSpec.pre enc Tryd.prog Tryd.f6 [] false w args ∧ laidMetH Tryd.prog [("voxel/material.kinds", Rows.laid_voxel_material_kinds), ("voxel/light.steps", Rows.laid_voxel_light_steps)] w) ∧ sizedMet enc Tryd.prog Tryd.f6 (OpenSpec.ofChange Rows.lightStepIsMonotoneSpec) false w args)
  (Rows.lightStepIsMonotoneSpec.post enc Tryd.prog Tryd.f6 false true false false) := by
 refine returnsInHanded_of_change_and (C := Tryd.checked) (X := fun w _ => laidMetH Tryd.prog [("voxel/material.kinds", Rows.laid_voxel_material_kinds), ("voxel/light.steps", Rows.laid_voxel_light_steps)] w) (fun _ _ _ hh h => h.of_heap hh) own started (by kernel_rfl) Tryd.func6
  (ChangeSpec.witness_shaped (enc := enc) (C := Tryd.checked) (os := os) (X := fun w _ => laidMetH Tryd.prog [("voxel/material.kinds", Rows.laid_voxel_material_kinds), ("voxel/light.steps", Rows.laid_voxel_light_steps)] w) false (World.doorLaid Tryd.prog 400 os) #[((Tryd.prog.info? 28).bind (·.zero)).getD undef, ((Tryd.prog.info? 29).bind (·.zero)).getD undef, ((Tryd.prog.info? 30).bind (·.zero)).getD undef, ((Tryd.prog.info? 33).bind (·.zero)).getD undef, ((Tryd.prog.info? 33).bind (·.zero)).getD undef] 8 rfl (World.shaped_of_RefB (by kernel_rfl) (by kernel_rfl)) (by kernel_rfl) (by kernel_rfl) (by kernel_rfl) (door_met os _)) ?_
 intro W base args ds gs before hval hW _ _ hL _
 have hW0 := hW
 obtain ⟨p, q, hA, hV, _⟩ := hW0
 have hlen : ds.length = 5 := (trodAll_len hA).trans (by kernel_rfl)
 refine (calls W base args ds p hval hA (glob_ok hL)).mono fun e W' ⟨he, hb⟩ => ?_
 subst he
 exact ⟨_, rfl, law_post kids slices (by rw [Tryd.params6]; decide +kernel) rfl rfl Tryd.underlying4 (shape hlen) hW hb⟩
theorem over : Rows.LightStepIsMonotoneSaid :=
 OpenClaim.holds_of_wide 6 Tryd.f6 rfl rfl rfl rfl rfl rfl rfl ⟨rfl, rfl, rfl, rfl, rfl⟩ rfl rfl rfl rfl rfl (by kernel_rfl) Tryd.func6 (by kernel_rfl)
  (of_decide_eq_true (by kernel_rfl)) (by unfold Func.isWrapper; first | (rw [if_pos (by decide +kernel)]; kernel_rfl) | (rw [if_neg (by decide +kernel)]; exact ⟨rfl, rfl⟩))
  (fun os started H enc _ => lifted os started H enc)
theorem proved : Rows.LightStepIsMonotoneCardSaid :=
 Claim7.holds_tied_plain_at .later [] [.widerDeep, .data] true (true, "d519c5fa85da6a69a89afb756553c9a3747c4cf694668013adbe34bf2ce43f55") false
  over (fun _ h => by cases h) (by kernel_rfl) (fun _ h => by cases h) lightStepIsMonotone_row_tie rfl ⟨rfl, rfl⟩ (by kernel_rfl) rfl
  (fun f fn hf hfn => by
    obtain rfl : f = 6 := Option.some.inj ((show Tryd.prog.funcNamed "voxel/voxellaw33.LightStepIsMonotone" = some 6 by kernel_rfl).symm.trans hf) |>.symm
    obtain rfl : fn = Tryd.f6 := (Option.some.inj (Tryd.func6.symm.trans hfn)).symm
    exact ⟨by kernel_rfl, fun j t ht => by
     rw [Tryd.params6] at ht
     have hm : t ∈ [28, 29, 30, 33, 33] := by simpa using Array.mem_of_getElem? ht
     have hall : ([28, 29, 30, 33, 33].all fun u => !Tryd.prog.wantsStandIn u) = true := by kernel_rfl
     exact (show Tryd.prog.wantsStandIn t = false by simpa using List.all_eq_true.1 hall t hm)⟩)
  (by kernel_rfl)
#print axioms proved
end Go.Proofs.YtelbilnnmmbmdaaDoor.lightStepIsMonotone
