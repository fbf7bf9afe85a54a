/- Proved: StencilPatternsAsSpecified: the statement 'StencilPatternsAsSpecifiedCardSaid' of this seat, for every input that it names; no condition besides. -/
import Derived.Test.YtaacclebncplbaaGreatDoorC20Tb
import Derived.Test.YtaacclebncplbaaGreatDoorC20N
import Derived.Test.YtaacclebncplbaaGreatDoorRows
import Derived.Test.YtaacclebncplbaaGreatDoorCards
import Derived.Test.YtaacclebncplbaaGreatDoorTie
import Derived.SevenTiedAt
import Derived.ProofKit
import Derived.LaidMore
import Derived.Stop.Joined
namespace Go.Proofs.YtaacclebncplbaaGreatDoor.stencilPatternsAsSpecified
open Go Go.ChangeShapes Go.WideShapes Go.ChangeAt Go.RowKit Vc
set_option linter.unusedVariables false
def lawP (x0 x1 x2 x3 x4 x5 : Int) (x6 : X) (x7 x8 x9 x10 x11 x12 : Int) (x13 : X) : Prop :=
 let A := [xI x0, xI x1, xI x2, xI x3, xI x4, xI x5, x6, xI x7, xI x8, xI x9, xI x10, xI x11, xI x12, x13]; (let v0 := Ff 700 [xI x0, xI x1, xI x2, xI x3, xI x4, xI x5, x6]; let v1 := Ff 700 [xI x7, xI x8, xI x9, xI x10, xI x11, xI x12, x13]; ((((((¬ (((v0.b = true) ∧ (x6.i ≤ 520)) ∧ ((((((((-1000) ≤ x0) ∧ ((-1000) ≤ x1)) ∧ ((-1000) ≤ x2)) ∧ (x0 ≤ 1000)) ∧ (x1 ≤ 1000)) ∧ (x2 ≤ 1000)) ∧ (((((((-1000) ≤ x3) ∧ ((-1000) ≤ x4)) ∧ ((-1000) ≤ x5)) ∧ (x3 ≤ 1000)) ∧ (x4 ≤ 1000)) ∧ (x5 ≤ 1000))))) ∨ (¬ (((v1.b = true) ∧ (x13.i ≤ 520)) ∧ ((((((((-1000) ≤ x7) ∧ ((-1000) ≤ x8)) ∧ ((-1000) ≤ x9)) ∧ (x7 ≤ 1000)) ∧ (x8 ≤ 1000)) ∧ (x9 ≤ 1000)) ∧ (((((((-1000) ≤ x10) ∧ ((-1000) ≤ x11)) ∧ ((-1000) ≤ x12)) ∧ (x10 ≤ 1000)) ∧ (x11 ≤ 1000)) ∧ (x12 ≤ 1000)))))) ∨ (130 < x6.i)) ∨ (130 < x13.i)) →
(true = true)) ∧
((¬ ((((¬ (((v0.b = true) ∧ (x6.i ≤ 520)) ∧ ((((((((-1000) ≤ x0) ∧ ((-1000) ≤ x1)) ∧ ((-1000) ≤ x2)) ∧ (x0 ≤ 1000)) ∧ (x1 ≤ 1000)) ∧ (x2 ≤ 1000)) ∧ (((((((-1000) ≤ x3) ∧ ((-1000) ≤ x4)) ∧ ((-1000) ≤ x5)) ∧ (x3 ≤ 1000)) ∧ (x4 ≤ 1000)) ∧ (x5 ≤ 1000))))) ∨ (¬ (((v1.b = true) ∧ (x13.i ≤ 520)) ∧ ((((((((-1000) ≤ x7) ∧ ((-1000) ≤ x8)) ∧ ((-1000) ≤ x9)) ∧ (x7 ≤ 1000)) ∧ (x8 ≤ 1000)) ∧ (x9 ≤ 1000)) ∧ (((((((-1000) ≤ x10) ∧ ((-1000) ≤ x11)) ∧ ((-1000) ≤ x12)) ∧ (x10 ≤ 1000)) ∧ (x11 ≤ 1000)) ∧ (x12 ≤ 1000)))))) ∨ (130 < x6.i)) ∨ (130 < x13.i))) →
(Px 710 [xI x0, xI x1, xI x2, xI x3, xI x4, xI x5, x6] ∧
(Px 710 [xI x0, xI x1, xI x2, xI x3, xI x4, xI x5, x6] ∧
(Px 710 [xI x0, xI x1, xI x2, xI x3, xI x4, xI x5, x6] ∧
(Px 710 [xI x0, xI x1, xI x2, xI x3, xI x4, xI x5, x6] ∧
(Px 1078 [xI 0] ∧
(∀ x20 : X, (((0 ≤ x20.i) ∧ (x20.i ≤ 48)) →
(Px 1078 [x20] →
(let v12 := Ff 1041 [xI x0, xI x1, xI x2, xI x3, xI x4, xI x5, x6]; (((x20.i < v12.i) →
((x20.i < v12.i) ∧
((x20.i < v12.i) ∧
(Px 1078 [(xI (x20.i + 1))] ∧
(let v18 := Ff 1078 [(xI (x20.i + 1))]; let v19 := Ff 1078 [x20]; ((v18.i < v19.i) ∧
(0 < v19.i))))))) ∧
((¬ (x20.i < v12.i)) →
(let v22 := Ff 1042 [xI x0, xI x1, xI x2, xI x3, xI x4, xI x5, x6]; let v23 := Ff 1043 [xI x0, xI x1, xI x2, xI x3, xI x4, xI x5, x6]; let v24 := Ff 1044 [xI x0, xI x1, xI x2, xI x3, xI x4, xI x5, x6]; let v25 := Ff 1045 [xI x0, xI x1, xI x2, xI x3, xI x4, xI x5, x6]; let v26 := Ff 1046 [xI x0, xI x1, xI x2, xI x3, xI x4, xI x5, x6]; let v27 := Ff 1047 [xI x0, xI x1, xI x2, xI x3, xI x4, xI x5, x6]; let v28 := Ff 1048 [xI x0, xI x1, xI x2, xI x3, xI x4, xI x5, x6]; let v29 := Ff 715 [xI v22.i, xI v23.i, xI v24.i, xI v25.i, xI v26.i, xI v27.i, v28, xI v22.i, xI v23.i, xI v24.i, xI v25.i, xI v26.i, xI v27.i, v28]; (((v29.b = true) →
 Px 711 A) ∧
(((v29.b = true) →
 Px 711 A) ∧
(v29.b = true))))))))))))))))))
noncomputable def sh : List RSh := (shTs Tryz.prog [28, 28]).getD []
attribute [irreducible] sh
theorem link (x0 x1 x2 x3 x4 x5 : Int) (x6 : X) (x7 x8 x9 x10 x11 x12 : Int) (x13 : X) : (walkR Tryz.prog (cfG none L20zb R20zb lpPatZ sumC) Tryz.f4 1600 sh).law { ρ0 with x := fun j => [xI x0, xI x1, xI x2, xI x3, xI x4, xI x5, x6, xI x7, xI x8, xI x9, xI x10, xI x11, xI x12, x13].getD j (xI 0) } = lawP x0 x1 x2 x3 x4 x5 x6 x7 x8 x9 x10 x11 x12 x13 := by kernel_rfl
set_option maxHeartbeats 4000000 in
theorem lawP_ok (x0 x1 x2 x3 x4 x5 : Int) (x6 : X) (x7 x8 x9 x10 x11 x12 : Int) (x13 : X) (g0 : -9223372036854775808 ≤ x0 ∧ x0 ≤ 9223372036854775807) (g1 : -9223372036854775808 ≤ x1 ∧ x1 ≤ 9223372036854775807) (g2 : -9223372036854775808 ≤ x2 ∧ x2 ≤ 9223372036854775807) (g3 : -9223372036854775808 ≤ x3 ∧ x3 ≤ 9223372036854775807) (g4 : -9223372036854775808 ≤ x4 ∧ x4 ≤ 9223372036854775807) (g5 : -9223372036854775808 ≤ x5 ∧ x5 ≤ 9223372036854775807) (g6 : 0 ≤ x6.i ∧ x6.i ≤ 9223372036854775807 ∧ RowOk [.int .i64 (-9223372036854775808) (9223372036854775807)] x6.r x6.i.toNat) (g7 : -9223372036854775808 ≤ x7 ∧ x7 ≤ 9223372036854775807) (g8 : -9223372036854775808 ≤ x8 ∧ x8 ≤ 9223372036854775807) (g9 : -9223372036854775808 ≤ x9 ∧ x9 ≤ 9223372036854775807) (g10 : -9223372036854775808 ≤ x10 ∧ x10 ≤ 9223372036854775807) (g11 : -9223372036854775808 ≤ x11 ∧ x11 ≤ 9223372036854775807) (g12 : -9223372036854775808 ≤ x12 ∧ x12 ≤ 9223372036854775807) (g13 : 0 ≤ x13.i ∧ x13.i ≤ 9223372036854775807 ∧ RowOk [.int .i64 (-9223372036854775808) (9223372036854775807)] x13.r x13.i.toNat) : lawP x0 x1 x2 x3 x4 x5 x6 x7 x8 x9 x10 x11 x12 x13 := by
 unfold lawP
 intro A v0 v1
 refine And.intro ?_ ?_
 ·intro h3
  rfl
 intro h4
 obtain ⟨h5, _⟩ := not_or.1 h4
 obtain ⟨h6, _⟩ := not_or.1 h5
 obtain ⟨ha, hb⟩ := not_or.1 h6
 have ha := Decidable.not_not.1 ha
 have hb := Decidable.not_not.1 hb
 have gv : validG ⟨(bxI x0 x1 x2 x3 x4 x5), lstX deI x6⟩ = true := ha.1.1
 have gw : validG ⟨(bxI x7 x8 x9 x10 x11 x12), lstX deI x13⟩ = true := hb.1.1
 refine andI ?_ fun o5 => ?_
 ·exact gv
 refine andI ?_ fun o6 => ?_
 ·exact gv
 refine andI ?_ fun o7 => ?_
 ·exact gv
 refine andI ?_ fun o8 => ?_
 ·exact gv
 refine andI ?_ fun o9 => ?_
 ·exact Int.le_refl _
 intro x20 h10 p11 v12
 refine And.intro ?_ ?_
 ·intro h14
  refine andI ?_ fun o15 => ?_
  ·exact h14
  refine andI ?_ fun o16 => ?_
  ·exact h14
  refine andI ?_ fun o17 => ?_
  ·show 0 ≤ x20.i + 1
   omega
  intro v18 v19
  refine andI ?_ fun o20 => ?_
  ·show 3000000 - (x20.i + 1) < 3000000 - x20.i
   omega
  show 0 < 3000000 - x20.i
  omega
 intro h21 v22 v23 v24 v25 v26 v27 v28 v29
 refine And.intro ?_ ?_
 ·intro h31
  exact ⟨gv, gw⟩
 refine And.intro ?_ ?_
 ·intro h33
  exact ⟨gv, gw⟩
 exact eqG_self
theorem shape_flat : flatR sh = [.int .i64 (-9223372036854775808) 9223372036854775807, .int .i64 (-9223372036854775808) 9223372036854775807, .int .i64 (-9223372036854775808) 9223372036854775807, .int .i64 (-9223372036854775808) 9223372036854775807, .int .i64 (-9223372036854775808) 9223372036854775807, .int .i64 (-9223372036854775808) 9223372036854775807, .row [.int .i64 (-9223372036854775808) (9223372036854775807)] 9223372036854775807, .int .i64 (-9223372036854775808) 9223372036854775807, .int .i64 (-9223372036854775808) 9223372036854775807, .int .i64 (-9223372036854775808) 9223372036854775807, .int .i64 (-9223372036854775808) 9223372036854775807, .int .i64 (-9223372036854775808) 9223372036854775807, .int .i64 (-9223372036854775808) 9223372036854775807, .row [.int .i64 (-9223372036854775808) (9223372036854775807)] 9223372036854775807] := by kernel_rfl
theorem lawful (ds : Ds) (hr : rshX sh ds) : (walkR Tryz.prog (cfG none L20zb R20zb lpPatZ sumC) Tryz.f4 1600 sh).law { ρ0 with x := fun j => ds.getD j (xI 0) } := by
 have hr := rshX_flat hr
 rw [shape_flat] at hr
 match ds, hr with
 | [d0, d1, d2, d3, d4, d5, d6, d7, d8, d9, d10, d11, d12, d13], hr =>
  obtain ⟨⟨e0, l0, u0⟩, ⟨e1, l1, u1⟩, ⟨e2, l2, u2⟩, ⟨e3, l3, u3⟩, ⟨e4, l4, u4⟩, ⟨e5, l5, u5⟩, l6, ⟨e7, l7, u7⟩, ⟨e8, l8, u8⟩, ⟨e9, l9, u9⟩, ⟨e10, l10, u10⟩, ⟨e11, l11, u11⟩, ⟨e12, l12, u12⟩, l13, _⟩ := hr
  generalize d0.i = x0, d1.i = x1, d2.i = x2, d3.i = x3, d4.i = x4, d5.i = x5, d6 = x6, d7.i = x7, d8.i = x8, d9.i = x9, d10.i = x10, d11.i = x11, d12.i = x12, d13 = x13 at *
  subst e0 e1 e2 e3 e4 e5 e7 e8 e9 e10 e11 e12
  exact Eq.mpr (link x0 x1 x2 x3 x4 x5 x6 x7 x8 x9 x10 x11 x12 x13) (lawP_ok x0 x1 x2 x3 x4 x5 x6 x7 x8 x9 x10 x11 x12 x13 ⟨l0, u0⟩ ⟨l1, u1⟩ ⟨l2, u2⟩ ⟨l3, u3⟩ ⟨l4, u4⟩ ⟨l5, u5⟩ l6 ⟨l7, u7⟩ ⟨l8, u8⟩ ⟨l9, u9⟩ ⟨l10, u10⟩ ⟨l11, u11⟩ ⟨l12, u12⟩ l13)
theorem shape {H : Type} {ds : List (DataW H)} (h : ds.length = 2) : Rows.stencilPatternsAsSpecifiedSpec.fn H ds = { results := [.lit (.bool true)], args := ds } := by
 match ds, h with
 | [d1, d2], _ => rfl
set_option maxRecDepth 100000 in
theorem calls {H : Type} {enc : TypeId × Value → H} (W : World) (base : Nat) (args : Array Value) (ds : List (DataW H)) (p : List MemPlace) (hval : ∀ (j : Nat) t v, Tryz.f4.params[j]? = some t → args[j]? = some v → Value.okWide Tryz.prog W .any base t v)
 (hA : DataW.TrodAll enc Tryz.prog W 0 (fun _ => true) true Tryz.f4.params.toList args.toList ds p) (hg : GlobOk ρ0.g W.heap.size W) : Calls Tryz.prog 4 args W fun e w' => e = .returned (.bool true) ∧ Below W.heap.size W w' := by
 rw [Tryz.params4] at hA hval
 have hs : shTs Tryz.prog [28, 28] = some sh := by
  have : (shTs Tryz.prog [28, 28]).isSome = true := by kernel_rfl
  obtain ⟨s, h⟩ := Option.isSome_iff_exists.1 this
  unfold sh
  rw [h]; rfl
 obtain ⟨ds', hr⟩ := args_rel hA (fun i t v ht hv => hval i t v (by simpa using ht) (by simpa using hv)) hs
 have := law_callsR (L20zb_ok) Tryz.func4 rfl 1600 hg hr lawful
 simpa using this
set_option maxRecDepth 100000 in
theorem lifted (os : Os) (started : os.Started) (H : Type) (enc : TypeId × Value → H) :
 ReturnsInHanded {} Tryz.checked os 4 .any (fun w args => (Rows.stencilPatternsAsSpecifiedSpec.pre enc Tryz.prog Tryz.f4 [] false w args ∧ laidMetH Tryz.prog [("voxel/point.axes", Rows.laid_voxel_point_axes)] w) ∧ sizedMet enc Tryz.prog Tryz.f4 (OpenSpec.ofChange Rows.stencilPatternsAsSpecifiedSpec) false w args)
  (Rows.stencilPatternsAsSpecifiedSpec.post enc Tryz.prog Tryz.f4 false true false false) := by
 refine returnsInHanded_of_change_and (C := Tryz.checked) (X := fun w _ => laidMetH Tryz.prog [("voxel/point.axes", Rows.laid_voxel_point_axes)] w) (fun _ _ _ hh h => h.of_heap hh) own started (by kernel_rfl) Tryz.func4
  (ChangeSpec.witness_shaped (enc := enc) (C := Tryz.checked) (os := os) (X := fun w _ => laidMetH Tryz.prog [("voxel/point.axes", Rows.laid_voxel_point_axes)] w) false (World.doorLaid Tryz.prog 400 os) #[((Tryz.prog.info? 28).bind (·.zero)).getD undef, ((Tryz.prog.info? 28).bind (·.zero)).getD undef] 8 rfl (World.shaped_of_RefB (by kernel_rfl) (by kernel_rfl)) (by kernel_rfl) (by kernel_rfl) (by kernel_rfl) (door_met os _)) ?_
 intro W base args ds gs before hval hW _ _ hL _
 have hW0 := hW
 obtain ⟨p, q, hA, hV, _⟩ := hW0
 have hlen : ds.length = 2 := (trodAll_len hA).trans (by kernel_rfl)
 refine (calls W base args ds p hval hA (glob_ok hL)).mono fun e W' ⟨he, hb⟩ => ?_
 subst he
 exact ⟨_, rfl, law_post kids slices (by rw [Tryz.params4]; decide +kernel) rfl rfl Tryz.underlying4 (shape hlen) hW hb⟩
theorem over : Rows.StencilPatternsAsSpecifiedSaid :=
 OpenClaim.holds_of_wide 4 Tryz.f4 rfl rfl rfl rfl rfl rfl rfl ⟨rfl, rfl, rfl, rfl, rfl⟩ rfl rfl rfl rfl rfl (by kernel_rfl) Tryz.func4 (by kernel_rfl)
  (of_decide_eq_true (by kernel_rfl)) (by unfold Func.isWrapper; first | (rw [if_pos (by decide +kernel)]; kernel_rfl) | (rw [if_neg (by decide +kernel)]; exact ⟨rfl, rfl⟩))
  (fun os started H enc _ => lifted os started H enc)
theorem proved : Rows.StencilPatternsAsSpecifiedCardSaid :=
 Claim7.holds_tied_plain_at .later [] [.data] true (true, "936f70b05c3747b5be2f074d4c150df06903d0dfa610a7c395a2b8dac20d7423") false
  over (fun _ h => by cases h) (by kernel_rfl) (fun _ h => by cases h) stencilPatternsAsSpecified_row_tie rfl ⟨rfl, rfl⟩ (by kernel_rfl) rfl
  (fun f fn hf hfn => by
    obtain rfl : f = 4 := Option.some.inj ((show Tryz.prog.funcNamed "voxel/voxellaw20.StencilPatternsAsSpecified" = some 4 by kernel_rfl).symm.trans hf) |>.symm
    obtain rfl : fn = Tryz.f4 := (Option.some.inj (Tryz.func4.symm.trans hfn)).symm
    exact ⟨by kernel_rfl, fun j t ht => by
     rw [Tryz.params4] at ht
     have hm : t ∈ [28, 28] := by simpa using Array.mem_of_getElem? ht
     have hall : ([28, 28].all fun u => !Tryz.prog.wantsStandIn u) = true := by kernel_rfl
     exact (show Tryz.prog.wantsStandIn t = false by simpa using List.all_eq_true.1 hall t hm)⟩)
  (by kernel_rfl)
#print axioms proved
end Go.Proofs.YtaacclebncplbaaGreatDoor.stencilPatternsAsSpecified
