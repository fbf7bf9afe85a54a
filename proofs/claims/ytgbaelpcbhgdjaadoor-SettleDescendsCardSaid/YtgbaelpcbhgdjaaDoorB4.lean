/- Proved: SettleDescends: the statement 'SettleDescendsCardSaid' of this seat, for every input that it names; no condition besides. -/
import Derived.Test.YtgbaelpcbhgdjaaDoorC30T
import Derived.Test.YtgbaelpcbhgdjaaDoorC30O
import Derived.Test.YtgbaelpcbhgdjaaDoorRows
import Derived.Test.YtgbaelpcbhgdjaaDoorCards
import Derived.Test.YtgbaelpcbhgdjaaDoorTie
import Derived.SevenTiedAt
import Derived.ProofKit
import Derived.LaidMore
import Derived.Stop.Joined
namespace Go.Proofs.YtgbaelpcbhgdjaaDoor.settleDescends
open Go Go.ChangeShapes Go.WideShapes Go.ChangeAt Go.RowKit Vc
set_option linter.unusedVariables false


/-- The law's walk, as the machine leaves it. -/
def lawP (x0 : Int) (x1 : Int) (x2 : Int) (x3 : Int) (x4 : Int) (x5 : Int) (x6 : X) (x7 : X) (x8 : Int) : Prop :=
(let v0 : X := Ff 861 [(xI x0), (xI x1), (xI x2), (xI x3), (xI x4), (xI x5), x6, x7]; (((¬ (v0.b = true)) →
(true = true)) ∧
((v0.b = true) →
(Px 710 [(xI x0), (xI x1), (xI x2), (xI x3), (xI x4), (xI x5), x6, x7, (xI x8)] ∧
(let v5 : X := Ff 820 [(xI x0), (xI x1), (xI x2), (xI x3), (xI x4), (xI x5), x6, x7, (xI x8)]; let v6 : X := Ff 821 [(xI x0), (xI x1), (xI x2), (xI x3), (xI x4), (xI x5), x6, x7, (xI x8)]; let v7 : X := Ff 822 [(xI x0), (xI x1), (xI x2), (xI x3), (xI x4), (xI x5), x6, x7, (xI x8)]; let v8 : X := Ff 823 [(xI x0), (xI x1), (xI x2), (xI x3), (xI x4), (xI x5), x6, x7, (xI x8)]; let v9 : X := Ff 824 [(xI x0), (xI x1), (xI x2), (xI x3), (xI x4), (xI x5), x6, x7, (xI x8)]; let v10 : X := Ff 825 [(xI x0), (xI x1), (xI x2), (xI x3), (xI x4), (xI x5), x6, x7, (xI x8)]; let v11 : X := Ff 826 [(xI x0), (xI x1), (xI x2), (xI x3), (xI x4), (xI x5), x6, x7, (xI x8)]; (Px 710 [(xI v5.i), (xI v6.i), (xI v7.i), (xI v8.i), (xI v9.i), (xI v10.i), v11, x7] ∧
(Px 710 [(xI x0), (xI x1), (xI x2), (xI x3), (xI x4), (xI x5), x6, x7] ∧
(Px 710 [(xI x0), (xI x1), (xI x2), (xI x3), (xI x4), (xI x5), x6, x7] ∧
(let v15 : X := Ff 827 [(xI x0), (xI x1), (xI x2), (xI x3), (xI x4), (xI x5), x6, x7, (xI x8)]; let v16 : X := Ff 850 [(xI x0), (xI x1), (xI x2), (xI x3), (xI x4), (xI x5), x6, x7]; let v17 : X := Ff 850 [(xI v5.i), (xI v6.i), (xI v7.i), (xI v8.i), (xI v9.i), (xI v10.i), v11, x7]; let v18 : X := Ff 860 [(xI x0), (xI x1), (xI x2), (xI x3), (xI x4), (xI x5), x6, x7]; let v19 : X := Ff 715 [(xI x0), (xI x1), (xI x2), (xI x3), (xI x4), (xI x5), x6, (xI v5.i), (xI v6.i), (xI v7.i), (xI v8.i), (xI v9.i), (xI v10.i), v11]; ((((v15.i ≤ (v16.i - v17.i)) ∧ ((v16.i - v17.i) ≤ (2 * v15.i))) ∧ ((v18.b == (decide (v15.i = 0))) = true)) ∧ ((0 < v15.i) ∨ (v19.b = true))))))))))))
noncomputable def sh : List RSh := (shTs Tryd.prog [28, 29, 3]).getD []
attribute [irreducible] sh
theorem link (x0 : Int) (x1 : Int) (x2 : Int) (x3 : Int) (x4 : Int) (x5 : Int) (x6 : X) (x7 : X) (x8 : Int) : (walkR Tryd.prog (cfG none L30 R30 [] sumL) Tryd.f6 600 sh).law { ρ0 with x := fun j => [xI x0, xI x1, xI x2, xI x3, xI x4, xI x5, x6, x7, xI x8].getD j (xI 0) } = lawP x0 x1 x2 x3 x4 x5 x6 x7 x8 := by kernel_rfl
set_option maxHeartbeats 4000000 in
theorem lawP_ok (x0 : Int) (x1 : Int) (x2 : Int) (x3 : Int) (x4 : Int) (x5 : Int) (x6 : X) (x7 : X) (x8 : Int) (g0 : -9223372036854775808 ≤ x0 ∧ x0 ≤ 9223372036854775807) (g1 : -9223372036854775808 ≤ x1 ∧ x1 ≤ 9223372036854775807) (g2 : -9223372036854775808 ≤ x2 ∧ x2 ≤ 9223372036854775807) (g3 : -9223372036854775808 ≤ x3 ∧ x3 ≤ 9223372036854775807) (g4 : -9223372036854775808 ≤ x4 ∧ x4 ≤ 9223372036854775807) (g5 : -9223372036854775808 ≤ x5 ∧ x5 ≤ 9223372036854775807) (g6 : 0 ≤ x6.i ∧ x6.i ≤ 9223372036854775807 ∧ RowOk [.int .i64 (-9223372036854775808) (9223372036854775807)] x6.r x6.i.toNat) (g7 : 0 ≤ x7.i ∧ x7.i ≤ 9223372036854775807 ∧ RowOk [.str (9223372036854775807), .bool, .bool, .bool, .int .i64 (-9223372036854775808) (9223372036854775807), .int .i64 (-9223372036854775808) (9223372036854775807), .int .i64 (-9223372036854775808) (9223372036854775807), .int .i64 (-9223372036854775808) (9223372036854775807)] x7.r x7.i.toNat) (g8 : -9223372036854775808 ≤ x8 ∧ x8 ≤ 9223372036854775807) : lawP x0 x1 x2 x3 x4 x5 x6 x7 x8 := by
  unfold lawP
  intro v0
  refine And.intro ?_ ?_
  · intro h2
    rfl -- #0
  intro h3
  obtain ⟨f1, f2, gv, ft⟩ := few_iff.1 (show fewS (grX (xI x0) (xI x1) (xI x2) (xI x3) (xI x4) (xI x5) x6) x7 = true from h3)
  have ht := tab_ok ft
  have hv : (bxI x0 x1 x2 x3 x4 x5).vol = (lstX deI x6).length := val_len gv
  refine andI ?_ fun o4 => ?_
  · exact gv -- #1
  intro v5
  intro v6
  intro v7
  intro v8
  intro v9
  intro v10
  intro v11
  have hs : lstX deI v11 = rndL (bxI x0 x1 x2 x3 x4 x5) x7 x8 (lstX deI x6) := lstX_rowG (enc := enI) (dec := deI) (fun _ => rfl) _
  refine andI ?_ fun o12 => ?_
  · skip -- #2
    show validG ⟨bxI x0 x1 x2 x3 x4 x5, lstX deI v11⟩ = true
    rw [hs]
    exact val_rnd ht gv
  refine andI ?_ fun o13 => ?_
  · exact gv -- #3
  refine andI ?_ fun o14 => ?_
  · exact gv -- #4
  intro v15
  intro v16
  intro v17
  intro v18
  intro v19
  skip -- #5
  have hp := rnd_pot (k := x8) ht hv (Nat.le_refl (lstX deI x6).length)
  have hn := rnd_nn (b := bxI x0 x1 x2 x3 x4 x5) (t := x7) (k := x8) (cs := lstX deI x6) (lstX deI x6).length
  have e15 : v15.i = (rndB (bxI x0 x1 x2 x3 x4 x5) x7 x8 (lstX deI x6) (lstX deI x6).length).2 := rfl
  have e16 : v16.i = potB (bxI x0 x1 x2 x3 x4 x5) x7 (lstX deI x6) (lstX deI x6).length := rfl
  have e17 : v17.i = potB (bxI x0 x1 x2 x3 x4 x5) x7 (rndB (bxI x0 x1 x2 x3 x4 x5) x7 x8 (lstX deI x6) (lstX deI x6).length).1 (lstX deI x6).length := by
    show potB (bxI x0 x1 x2 x3 x4 x5) x7 (lstX deI v11) (lstX deI v11).length = _
    rw [hs, rndL_len ht hv]
    rfl
  have e18 : v18.b = stlL (bxI x0 x1 x2 x3 x4 x5) x7 (lstX deI x6) := rfl
  refine ⟨⟨⟨by omega, by omega⟩, ?_⟩, ?_⟩
  · rw [e18, beq_iff_eq]
    by_cases h0 : v15.i = 0
    · rw [decide_eq_true h0]
      exact stl_0 h0
    · rw [decide_eq_false h0]
      refine Bool.eq_false_iff.2 fun hx => h0 ?_
      rw [e15, rnd_stl hx]
  · by_cases h0 : v15.i = 0
    · right
      refine eqG_iff.2 ⟨⟨rfl, rfl, rfl, rfl, rfl, rfl⟩, ?_⟩
      rw [hs]
      exact (congrArg Prod.fst (rnd_0 (e15.symm.trans h0)).1).symm
    · left
      omega

/-! ### The frame -/
theorem shape_flat : flatR sh = [.int .i64 (-9223372036854775808) 9223372036854775807, .int .i64 (-9223372036854775808) 9223372036854775807, .int .i64 (-9223372036854775808) 9223372036854775807, .int .i64 (-9223372036854775808) 9223372036854775807, .int .i64 (-9223372036854775808) 9223372036854775807, .int .i64 (-9223372036854775808) 9223372036854775807, .row [.int .i64 (-9223372036854775808) (9223372036854775807)] 9223372036854775807, .row [.str (9223372036854775807), .bool, .bool, .bool, .int .i64 (-9223372036854775808) (9223372036854775807), .int .i64 (-9223372036854775808) (9223372036854775807), .int .i64 (-9223372036854775808) (9223372036854775807), .int .i64 (-9223372036854775808) (9223372036854775807)] 9223372036854775807, .int .i64 (-9223372036854775808) 9223372036854775807] := by kernel_rfl
theorem lawful (ds : Ds) (hr : rshX sh ds) : (walkR Tryd.prog (cfG none L30 R30 [] sumL) Tryd.f6 600 sh).law { ρ0 with x := fun j => ds.getD j (xI 0) } := by
  have hr := rshX_flat hr
  rw [shape_flat] at hr
  match ds, hr with
  | [d0, d1, d2, d3, d4, d5, d6, d7, d8], hr =>
    obtain ⟨⟨e0, l0, u0⟩, ⟨e1, l1, u1⟩, ⟨e2, l2, u2⟩, ⟨e3, l3, u3⟩, ⟨e4, l4, u4⟩, ⟨e5, l5, u5⟩, l6, l7, ⟨e8, l8, u8⟩, _⟩ := hr
    generalize d0.i = x0 at *
    generalize d1.i = x1 at *
    generalize d2.i = x2 at *
    generalize d3.i = x3 at *
    generalize d4.i = x4 at *
    generalize d5.i = x5 at *
    generalize d6 = x6 at *
    generalize d7 = x7 at *
    generalize d8.i = x8 at *
    subst e0 e1 e2 e3 e4 e5 e8
    exact Eq.mpr (link x0 x1 x2 x3 x4 x5 x6 x7 x8) (lawP_ok x0 x1 x2 x3 x4 x5 x6 x7 x8 ⟨l0, u0⟩ ⟨l1, u1⟩ ⟨l2, u2⟩ ⟨l3, u3⟩ ⟨l4, u4⟩ ⟨l5, u5⟩ l6 l7 ⟨l8, u8⟩)
theorem shape {H : Type} {ds : List (DataW H)} (h : ds.length = 3) : Rows.settleDescendsSpec.fn H ds = { results := [.lit (.bool true)], args := ds } := by
  match ds, h with
  | [d1, d2, d3], _ => rfl
theorem calls {H : Type} {enc : TypeId × Value → H} (W : World) (base : Nat) (args : Array Value) (ds : List (DataW H)) (p : List MemPlace) (hval : ∀ (j : Nat) t v, Tryd.f6.params[j]? = some t → args[j]? = some v → Value.okWide Tryd.prog W .any base t v)
    (hA : DataW.TrodAll enc Tryd.prog W 0 (fun _ => true) true Tryd.f6.params.toList args.toList ds p) (hg : GlobOk ρ0.g W.heap.size W) : Calls Tryd.prog 6 args W fun e w' => e = .returned (.bool true) ∧ Below W.heap.size W w' := by
  rw [Tryd.params6] at hA hval
  have hs : shTs Tryd.prog [28, 29, 3] = some sh := by
    have : (shTs Tryd.prog [28, 29, 3]).isSome = true := by kernel_rfl
    obtain ⟨s, h⟩ := Option.isSome_iff_exists.1 this
    unfold sh
    rw [h]; rfl
  obtain ⟨ds', hr⟩ := args_rel hA (fun i t v ht hv => hval i t v (by simpa using ht) (by simpa using hv)) hs
  have := law_callsR (L30_ok) Tryd.func6 rfl 600 hg hr lawful
  simpa using this
set_option maxRecDepth 100000 in
theorem lifted (os : Os) (started : os.Started) (H : Type) (enc : TypeId × Value → H) :
    ReturnsInHanded {} Tryd.checked os 6 .any (fun w args => (Rows.settleDescendsSpec.pre enc Tryd.prog Tryd.f6 [] false w args ∧ laidMetH Tryd.prog [("voxel/settle.directions", Rows.laid_voxel_settle_directions)] w) ∧ sizedMet enc Tryd.prog Tryd.f6 (OpenSpec.ofChange Rows.settleDescendsSpec) false w args)
      (Rows.settleDescendsSpec.post enc Tryd.prog Tryd.f6 false true false false) := by
  refine returnsInHanded_of_change_and (C := Tryd.checked) (X := fun w _ => laidMetH Tryd.prog [("voxel/settle.directions", Rows.laid_voxel_settle_directions)] w) (fun _ _ _ hh h => h.of_heap hh) own started (by kernel_rfl) Tryd.func6
    (ChangeSpec.witness_shaped (enc := enc) (C := Tryd.checked) (os := os) (X := fun w _ => laidMetH Tryd.prog [("voxel/settle.directions", Rows.laid_voxel_settle_directions)] w) false (World.doorLaid Tryd.prog 400 os) #[((Tryd.prog.info? 28).bind (·.zero)).getD undef, ((Tryd.prog.info? 29).bind (·.zero)).getD undef, ((Tryd.prog.info? 3).bind (·.zero)).getD undef] 8 rfl (World.shaped_of_RefB (by kernel_rfl) (by kernel_rfl)) (by kernel_rfl) (by kernel_rfl) (by kernel_rfl) (door_met os _)) ?_
  intro W base args ds gs before hval hW _ _ hL _
  have hW0 := hW
  obtain ⟨p, q, hA, hV, _⟩ := hW0
  have hlen : ds.length = 3 := (trodAll_len hA).trans (by kernel_rfl)
  refine (calls W base args ds p hval hA (glob_ok hL)).mono fun e W' ⟨he, hb⟩ => ?_
  subst he
  exact ⟨_, rfl, law_post kids slices (by rw [Tryd.params6]; decide +kernel) rfl rfl Tryd.underlying4 (shape hlen) hW hb⟩

theorem over : Rows.SettleDescendsSaid :=
  OpenClaim.holds_of_wide 6 Tryd.f6 rfl rfl rfl rfl rfl rfl rfl ⟨rfl, rfl, rfl, rfl, rfl⟩ rfl rfl rfl rfl rfl (by kernel_rfl) Tryd.func6 (by kernel_rfl)
    (of_decide_eq_true (by kernel_rfl)) (by unfold Func.isWrapper; first | (rw [if_pos (by decide +kernel)]; kernel_rfl) | (rw [if_neg (by decide +kernel)]; exact ⟨rfl, rfl⟩))
    (fun os started H enc _ => lifted os started H enc)

/-- The statement: the row, its listed variable tied to the program's text. -/
theorem proved : Rows.SettleDescendsCardSaid :=
  Claim7.holds_tied_plain_at .later [] [.data] true (true, "7617442a9ef1c376c4056c972e7147e4eacf4a41aa3cf2f69184f577ce24d48a") false
    over (fun _ h => by cases h) (by kernel_rfl) (fun _ h => by cases h) settleDescends_row_tie rfl ⟨rfl, rfl⟩ (by kernel_rfl) rfl
    (fun f fn hf hfn => by
      obtain rfl : f = 6 := Option.some.inj ((show Tryd.prog.funcNamed "voxel/voxellaw30.SettleDescends" = some 6 by kernel_rfl).symm.trans hf) |>.symm
      obtain rfl : fn = Tryd.f6 := (Option.some.inj (Tryd.func6.symm.trans hfn)).symm
      exact ⟨by kernel_rfl, fun j t ht => by
        rw [Tryd.params6] at ht
        have hm : t ∈ [28, 29, 3] := by simpa using Array.mem_of_getElem? ht
        have hall : ([28, 29, 3].all fun u => !Tryd.prog.wantsStandIn u) = true := by kernel_rfl
        exact (show Tryd.prog.wantsStandIn t = false by simpa using List.all_eq_true.1 hall t hm)⟩)
    (by kernel_rfl)
#print axioms proved
end Go.Proofs.YtgbaelpcbhgdjaaDoor.settleDescends
