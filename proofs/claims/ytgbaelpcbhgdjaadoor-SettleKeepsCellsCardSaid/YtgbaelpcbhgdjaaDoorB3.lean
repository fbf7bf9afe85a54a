/- Proved: SettleKeepsCells: the statement 'SettleKeepsCellsCardSaid' of this seat, for every input that it names; no condition besides. -/
import Derived.Test.YtgbaelpcbhgdjaaDoorC30T
import Derived.Test.YtgbaelpcbhgdjaaDoorC30O
import Derived.Test.YtgbaelpcbhgdjaaDoorRows
import Derived.Test.YtgbaelpcbhgdjaaDoorCards
import Derived.Test.YtgbaelpcbhgdjaaDoorTie
import Derived.SevenTiedAt
import Derived.ProofKit
import Derived.LaidMore
import Derived.Stop.Joined
namespace Go.Proofs.YtgbaelpcbhgdjaaDoor.settleKeepsCells
open Go Go.ChangeShapes Go.WideShapes Go.ChangeAt Go.RowKit Vc
set_option linter.unusedVariables false


/-- The law's walk, as the machine leaves it. -/
def lawP (x0 : Int) (x1 : Int) (x2 : Int) (x3 : Int) (x4 : Int) (x5 : Int) (x6 : X) (x7 : X) (x8 : Int) (x9 : Int) : Prop :=
(let v0 : X := Ff 861 [(xI x0), (xI x1), (xI x2), (xI x3), (xI x4), (xI x5), x6, x7]; (((¬ (v0.b = true)) →
(true = true)) ∧
((v0.b = true) →
(Px 710 [(xI x0), (xI x1), (xI x2), (xI x3), (xI x4), (xI x5), x6, x7, (xI x8)] ∧
(let v5 : X := Ff 820 [(xI x0), (xI x1), (xI x2), (xI x3), (xI x4), (xI x5), x6, x7, (xI x8)]; let v6 : X := Ff 821 [(xI x0), (xI x1), (xI x2), (xI x3), (xI x4), (xI x5), x6, x7, (xI x8)]; let v7 : X := Ff 822 [(xI x0), (xI x1), (xI x2), (xI x3), (xI x4), (xI x5), x6, x7, (xI x8)]; let v8 : X := Ff 823 [(xI x0), (xI x1), (xI x2), (xI x3), (xI x4), (xI x5), x6, x7, (xI x8)]; let v9 : X := Ff 824 [(xI x0), (xI x1), (xI x2), (xI x3), (xI x4), (xI x5), x6, x7, (xI x8)]; let v10 : X := Ff 825 [(xI x0), (xI x1), (xI x2), (xI x3), (xI x4), (xI x5), x6, x7, (xI x8)]; let v11 : X := Ff 826 [(xI x0), (xI x1), (xI x2), (xI x3), (xI x4), (xI x5), x6, x7, (xI x8)]; let v12 : X := Ff 716 [(xI v5.i), (xI v6.i), (xI v7.i), (xI v8.i), (xI v9.i), (xI v10.i), v11, (xI x9)]; let v13 : X := Ff 716 [(xI x0), (xI x1), (xI x2), (xI x3), (xI x4), (xI x5), x6, (xI x9)]; (((((¬ ((v5.i = x0) ∧ ((v6.i = x1) ∧ ((v7.i = x2) ∧ ((v8.i = x3) ∧ ((v9.i = x4) ∧ (v10.i = x5))))))) ∨ (¬ (v11.i = x6.i))) ∨ (¬ (v12.i = v13.i))) →
(false = true)) ∧
((¬ (((¬ ((v5.i = x0) ∧ ((v6.i = x1) ∧ ((v7.i = x2) ∧ ((v8.i = x3) ∧ ((v9.i = x4) ∧ (v10.i = x5))))))) ∨ (¬ (v11.i = x6.i))) ∨ (¬ (v12.i = v13.i)))) →
(Px 879 [(xI x0), (xI x1), (xI x2), (xI x3), (xI x4), (xI x5), x6, x7, (xI x8), (xI x9), (xI 0)] ∧
(∀ x20 : X, (((0 ≤ x20.i) ∧ (x20.i ≤ 2097152)) →
(Px 879 [(xI x0), (xI x1), (xI x2), (xI x3), (xI x4), (xI x5), x6, x7, (xI x8), (xI x9), x20] →
(((x20.i < x6.i) →
((x20.i < x6.i) ∧
((x20.i < v11.i) ∧
(let v24 : X := Ff 831 [x7, (xI (x6.r x20.i 0).i)]; let v25 : X := Ff 833 [x7, (xI (x6.r x20.i 0).i)]; let v26 : X := Ff 831 [x7, (xI (v11.r x20.i 0).i)]; let v27 : X := Ff 833 [x7, (xI (v11.r x20.i 0).i)]; (((((v24.b = true) ∧ (¬ (v25.b = true))) ∨ ((v26.b = true) ∧ (¬ (v27.b = true)))) →
(x20.i < v11.i)) ∧
(((((v24.b = true) ∧ (¬ (v25.b = true))) ∨ ((v26.b = true) ∧ (¬ (v27.b = true)))) →
(x20.i < x6.i)) ∧
((((((v24.b = true) ∧ (¬ (v25.b = true))) ∨ ((v26.b = true) ∧ (¬ (v27.b = true)))) ∧ (¬ ((x6.r x20.i 0).i = (v11.r x20.i 0).i))) →
(false = true)) ∧
((¬ ((((v24.b = true) ∧ (¬ (v25.b = true))) ∨ ((v26.b = true) ∧ (¬ (v27.b = true)))) ∧ (¬ ((x6.r x20.i 0).i = (v11.r x20.i 0).i)))) →
(((x20.i + 1) ≤ 2097152) ∧
(Px 879 [(xI x0), (xI x1), (xI x2), (xI x3), (xI x4), (xI x5), x6, x7, (xI x8), (xI x9), (xI (x20.i + 1))] ∧
(let v37 : X := Ff 898 [(xI x0), (xI x1), (xI x2), (xI x3), (xI x4), (xI x5), x6, x7, (xI x8), (xI x9), (xI (x20.i + 1))]; let v38 : X := Ff 898 [(xI x0), (xI x1), (xI x2), (xI x3), (xI x4), (xI x5), x6, x7, (xI x8), (xI x9), x20]; ((v37.i < v38.i) ∧
(0 < v38.i))))))))))))) ∧
((¬ (x20.i < x6.i)) →
(true = true))))))))))))))
noncomputable def sh : List RSh := (shTs Tryd.prog [28, 29, 3, 5]).getD []
attribute [irreducible] sh
theorem link (x0 : Int) (x1 : Int) (x2 : Int) (x3 : Int) (x4 : Int) (x5 : Int) (x6 : X) (x7 : X) (x8 : Int) (x9 : Int) : (walkR Tryd.prog (cfG none L30 R30 lpKC sumL) Tryd.f5 600 sh).law { ρ0 with x := fun j => [xI x0, xI x1, xI x2, xI x3, xI x4, xI x5, x6, x7, xI x8, xI x9].getD j (xI 0) } = lawP x0 x1 x2 x3 x4 x5 x6 x7 x8 x9 := by kernel_rfl
set_option maxHeartbeats 4000000 in
theorem lawP_ok (x0 : Int) (x1 : Int) (x2 : Int) (x3 : Int) (x4 : Int) (x5 : Int) (x6 : X) (x7 : X) (x8 : Int) (x9 : Int) (g0 : -9223372036854775808 ≤ x0 ∧ x0 ≤ 9223372036854775807) (g1 : -9223372036854775808 ≤ x1 ∧ x1 ≤ 9223372036854775807) (g2 : -9223372036854775808 ≤ x2 ∧ x2 ≤ 9223372036854775807) (g3 : -9223372036854775808 ≤ x3 ∧ x3 ≤ 9223372036854775807) (g4 : -9223372036854775808 ≤ x4 ∧ x4 ≤ 9223372036854775807) (g5 : -9223372036854775808 ≤ x5 ∧ x5 ≤ 9223372036854775807) (g6 : 0 ≤ x6.i ∧ x6.i ≤ 9223372036854775807 ∧ RowOk [.int .i64 (-9223372036854775808) (9223372036854775807)] x6.r x6.i.toNat) (g7 : 0 ≤ x7.i ∧ x7.i ≤ 9223372036854775807 ∧ RowOk [.str (9223372036854775807), .bool, .bool, .bool, .int .i64 (-9223372036854775808) (9223372036854775807), .int .i64 (-9223372036854775808) (9223372036854775807), .int .i64 (-9223372036854775808) (9223372036854775807), .int .i64 (-9223372036854775808) (9223372036854775807)] x7.r x7.i.toNat) (g8 : -9223372036854775808 ≤ x8 ∧ x8 ≤ 9223372036854775807) (g9 : 0 ≤ x9 ∧ x9 ≤ 255) : lawP x0 x1 x2 x3 x4 x5 x6 x7 x8 x9 := by
  unfold lawP
  intro v0
  refine And.intro ?_ ?_
  · intro h2
    rfl -- #0
  intro h3
  obtain ⟨f1, f2, gv, ft⟩ := few_iff.1 (show fewS (grX (xI x0) (xI x1) (xI x2) (xI x3) (xI x4) (xI x5) x6) x7 = true from h3)
  have ht := tab_ok ft
  have hv : (bxI x0 x1 x2 x3 x4 x5).vol = (lstX deI x6).length := val_len gv
  refine andI ?_ fun o4 => ?_
  · exact gv -- #1
  intro v5
  intro v6
  intro v7
  intro v8
  intro v9
  intro v10
  intro v11
  intro v12
  intro v13
  have hs : lstX deI v11 = rndL (bxI x0 x1 x2 x3 x4 x5) x7 x8 (lstX deI x6) := lstX_rowG (enc := enI) (dec := deI) (fun _ => rfl) _
  have hn : v11.i = x6.i := by
    have h : v11.i = ((rndL (bxI x0 x1 x2 x3 x4 x5) x7 x8 (lstX deI x6)).length : Nat) := rowG_i ..
    rw [rndL_len ht hv, lstX_len] at h
    have := g6.1
    omega
  refine And.intro ?_ ?_
  · intro h15
    skip -- #2
    exfalso
    rcases h15 with (h | h) | h
    · exact h ⟨rfl, rfl, rfl, rfl, rfl, rfl⟩
    · exact h hn
    · refine h ?_
      show (((lstX deI v11).count x9 : Nat) : Int) = (((lstX deI x6).count x9 : Nat) : Int)
      rw [hs, rndL_count ht hv]
  intro h16
  refine andI ?_ fun o17 => ?_
  · exact ⟨Int.le_refl _, g6.1⟩ -- #3
  intro x20
  intro h18
  intro p19
  refine And.intro ?_ ?_
  · intro h21
    refine andI ?_ fun o22 => ?_
    · exact h21 -- #4
    refine andI ?_ fun o23 => ?_
    · omega -- #5
    intro v24
    intro v25
    intro v26
    intro v27
    refine And.intro ?_ ?_
    · intro h29
      omega -- #6
    refine And.intro ?_ ?_
    · intro h31
      exact h21 -- #7
    refine And.intro ?_ ?_
    · intro h33
      skip -- #8
      exfalso
      have e1 := lxI_at (o := x6) h18.1 h21
      have e2 := lxI_at (o := v11) h18.1 (by omega)
      refine h33.2 ?_
      rw [← e1, ← e2, hs]
      refine (rndL_fix ht hv ?_).symm
      rw [← hs, e1, e2]
      exact h33.1.symm
    intro h34
    refine andI ?_ fun o35 => ?_
    · omega -- #9
    refine andI ?_ fun o36 => ?_
    · exact ⟨Int.le_trans h18.1 (Int.le_of_lt (Int.lt_succ _)), show x20.i + 1 ≤ x6.i by omega⟩ -- #10
    intro v37
    intro v38
    refine andI ?_ fun o39 => ?_
    · skip -- #11
      show x6.i + 1 - (x20.i + 1) < x6.i + 1 - x20.i
      omega
    skip -- #12
    show 0 < x6.i + 1 - x20.i
    omega
  intro h40
  rfl -- #13

/-! ### The frame -/
theorem shape_flat : flatR sh = [.int .i64 (-9223372036854775808) 9223372036854775807, .int .i64 (-9223372036854775808) 9223372036854775807, .int .i64 (-9223372036854775808) 9223372036854775807, .int .i64 (-9223372036854775808) 9223372036854775807, .int .i64 (-9223372036854775808) 9223372036854775807, .int .i64 (-9223372036854775808) 9223372036854775807, .row [.int .i64 (-9223372036854775808) (9223372036854775807)] 9223372036854775807, .row [.str (9223372036854775807), .bool, .bool, .bool, .int .i64 (-9223372036854775808) (9223372036854775807), .int .i64 (-9223372036854775808) (9223372036854775807), .int .i64 (-9223372036854775808) (9223372036854775807), .int .i64 (-9223372036854775808) (9223372036854775807)] 9223372036854775807, .int .i64 (-9223372036854775808) 9223372036854775807, .int .u8 (0) 255] := by kernel_rfl
theorem lawful (ds : Ds) (hr : rshX sh ds) : (walkR Tryd.prog (cfG none L30 R30 lpKC sumL) Tryd.f5 600 sh).law { ρ0 with x := fun j => ds.getD j (xI 0) } := by
  have hr := rshX_flat hr
  rw [shape_flat] at hr
  match ds, hr with
  | [d0, d1, d2, d3, d4, d5, d6, d7, d8, d9], hr =>
    obtain ⟨⟨e0, l0, u0⟩, ⟨e1, l1, u1⟩, ⟨e2, l2, u2⟩, ⟨e3, l3, u3⟩, ⟨e4, l4, u4⟩, ⟨e5, l5, u5⟩, l6, l7, ⟨e8, l8, u8⟩, ⟨e9, l9, u9⟩, _⟩ := hr
    generalize d0.i = x0 at *
    generalize d1.i = x1 at *
    generalize d2.i = x2 at *
    generalize d3.i = x3 at *
    generalize d4.i = x4 at *
    generalize d5.i = x5 at *
    generalize d6 = x6 at *
    generalize d7 = x7 at *
    generalize d8.i = x8 at *
    generalize d9.i = x9 at *
    subst e0 e1 e2 e3 e4 e5 e8 e9
    exact Eq.mpr (link x0 x1 x2 x3 x4 x5 x6 x7 x8 x9) (lawP_ok x0 x1 x2 x3 x4 x5 x6 x7 x8 x9 ⟨l0, u0⟩ ⟨l1, u1⟩ ⟨l2, u2⟩ ⟨l3, u3⟩ ⟨l4, u4⟩ ⟨l5, u5⟩ l6 l7 ⟨l8, u8⟩ ⟨l9, u9⟩)
theorem shape {H : Type} {ds : List (DataW H)} (h : ds.length = 4) : Rows.settleKeepsCellsSpec.fn H ds = { results := [.lit (.bool true)], args := ds } := by
  match ds, h with
  | [d1, d2, d3, d4], _ => rfl
theorem calls {H : Type} {enc : TypeId × Value → H} (W : World) (base : Nat) (args : Array Value) (ds : List (DataW H)) (p : List MemPlace) (hval : ∀ (j : Nat) t v, Tryd.f5.params[j]? = some t → args[j]? = some v → Value.okWide Tryd.prog W .any base t v)
    (hA : DataW.TrodAll enc Tryd.prog W 0 (fun _ => true) true Tryd.f5.params.toList args.toList ds p) (hg : GlobOk ρ0.g W.heap.size W) : Calls Tryd.prog 5 args W fun e w' => e = .returned (.bool true) ∧ Below W.heap.size W w' := by
  rw [Tryd.params5] at hA hval
  have hs : shTs Tryd.prog [28, 29, 3, 5] = some sh := by
    have : (shTs Tryd.prog [28, 29, 3, 5]).isSome = true := by kernel_rfl
    obtain ⟨s, h⟩ := Option.isSome_iff_exists.1 this
    unfold sh
    rw [h]; rfl
  obtain ⟨ds', hr⟩ := args_rel hA (fun i t v ht hv => hval i t v (by simpa using ht) (by simpa using hv)) hs
  have := law_callsR (L30k_ok) Tryd.func5 rfl 600 hg hr lawful
  simpa using this
set_option maxRecDepth 100000 in
theorem lifted (os : Os) (started : os.Started) (H : Type) (enc : TypeId × Value → H) :
    ReturnsInHanded {} Tryd.checked os 5 .any (fun w args => (Rows.settleKeepsCellsSpec.pre enc Tryd.prog Tryd.f5 [] false w args ∧ laidMetH Tryd.prog [("voxel/settle.directions", Rows.laid_voxel_settle_directions)] w) ∧ sizedMet enc Tryd.prog Tryd.f5 (OpenSpec.ofChange Rows.settleKeepsCellsSpec) false w args)
      (Rows.settleKeepsCellsSpec.post enc Tryd.prog Tryd.f5 false true false false) := by
  refine returnsInHanded_of_change_and (C := Tryd.checked) (X := fun w _ => laidMetH Tryd.prog [("voxel/settle.directions", Rows.laid_voxel_settle_directions)] w) (fun _ _ _ hh h => h.of_heap hh) own started (by kernel_rfl) Tryd.func5
    (ChangeSpec.witness_shaped (enc := enc) (C := Tryd.checked) (os := os) (X := fun w _ => laidMetH Tryd.prog [("voxel/settle.directions", Rows.laid_voxel_settle_directions)] w) false (World.doorLaid Tryd.prog 400 os) #[((Tryd.prog.info? 28).bind (·.zero)).getD undef, ((Tryd.prog.info? 29).bind (·.zero)).getD undef, ((Tryd.prog.info? 3).bind (·.zero)).getD undef, ((Tryd.prog.info? 5).bind (·.zero)).getD undef] 8 rfl (World.shaped_of_RefB (by kernel_rfl) (by kernel_rfl)) (by kernel_rfl) (by kernel_rfl) (by kernel_rfl) (door_met os _)) ?_
  intro W base args ds gs before hval hW _ _ hL _
  have hW0 := hW
  obtain ⟨p, q, hA, hV, _⟩ := hW0
  have hlen : ds.length = 4 := (trodAll_len hA).trans (by kernel_rfl)
  refine (calls W base args ds p hval hA (glob_ok hL)).mono fun e W' ⟨he, hb⟩ => ?_
  subst he
  exact ⟨_, rfl, law_post kids slices (by rw [Tryd.params5]; decide +kernel) rfl rfl Tryd.underlying4 (shape hlen) hW hb⟩

theorem over : Rows.SettleKeepsCellsSaid :=
  OpenClaim.holds_of_wide 5 Tryd.f5 rfl rfl rfl rfl rfl rfl rfl ⟨rfl, rfl, rfl, rfl, rfl⟩ rfl rfl rfl rfl rfl (by kernel_rfl) Tryd.func5 (by kernel_rfl)
    (of_decide_eq_true (by kernel_rfl)) (by unfold Func.isWrapper; first | (rw [if_pos (by decide +kernel)]; kernel_rfl) | (rw [if_neg (by decide +kernel)]; exact ⟨rfl, rfl⟩))
    (fun os started H enc _ => lifted os started H enc)

/-- The statement: the row, its listed variable tied to the program's text. -/
theorem proved : Rows.SettleKeepsCellsCardSaid :=
  Claim7.holds_tied_plain_at .later [] [.data] true (true, "7617442a9ef1c376c4056c972e7147e4eacf4a41aa3cf2f69184f577ce24d48a") false
    over (fun _ h => by cases h) (by kernel_rfl) (fun _ h => by cases h) settleKeepsCells_row_tie rfl ⟨rfl, rfl⟩ (by kernel_rfl) rfl
    (fun f fn hf hfn => by
      obtain rfl : f = 5 := Option.some.inj ((show Tryd.prog.funcNamed "voxel/voxellaw30.SettleKeepsCells" = some 5 by kernel_rfl).symm.trans hf) |>.symm
      obtain rfl : fn = Tryd.f5 := (Option.some.inj (Tryd.func5.symm.trans hfn)).symm
      exact ⟨by kernel_rfl, fun j t ht => by
        rw [Tryd.params5] at ht
        have hm : t ∈ [28, 29, 3, 5] := by simpa using Array.mem_of_getElem? ht
        have hall : ([28, 29, 3, 5].all fun u => !Tryd.prog.wantsStandIn u) = true := by kernel_rfl
        exact (show Tryd.prog.wantsStandIn t = false by simpa using List.all_eq_true.1 hall t hm)⟩)
    (by kernel_rfl)
#print axioms proved
end Go.Proofs.YtgbaelpcbhgdjaaDoor.settleKeepsCells
