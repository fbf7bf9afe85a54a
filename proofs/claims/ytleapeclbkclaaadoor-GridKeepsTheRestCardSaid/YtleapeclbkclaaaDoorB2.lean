/- Proved: GridKeepsTheRest: the statement 'GridKeepsTheRestCardSaid' of this seat, for every input that it names; no condition besides. -/
import Derived.Test.YtleapeclbkclaaaDoorC07V
import Derived.Test.YtleapeclbkclaaaDoorC07Z
import Derived.Test.YtleapeclbkclaaaDoorRows
import Derived.Test.YtleapeclbkclaaaDoorCards
import Derived.Test.YtleapeclbkclaaaDoorTie
import Derived.SevenTiedAt
import Derived.ProofKit
import Derived.LaidMore
import Derived.Stop.Joined
namespace Go.Proofs.YtleapeclbkclaaaDoor.gridKeepsTheRest
open Go Go.ChangeShapes Go.WideShapes Go.ChangeAt Go.RowKit Vc
set_option linter.unusedVariables false


/-- The law's walk, as the machine leaves it. -/
def lawP (x0 : Int) (x1 : Int) (x2 : Int) (x3 : Int) (x4 : Int) (x5 : Int) (x6 : X) (x7 : Int) (x8 : Int) (x9 : Int) (x10 : Int) (x11 : Int) (x12 : Int) (x13 : Int) : Prop :=
(let v0 : X := Ff 700 [(xI x0), (xI x1), (xI x2), (xI x3), (xI x4), (xI x5), x6]; (((¬ ((1000 < x6.i) ∨ (¬ (v0.b = true)))) →
((((x0 < (-10000)) ∨ (10000 < x0)) →
(true = true)) ∧
((¬ ((x0 < (-10000)) ∨ (10000 < x0))) →
((((x1 < (-10000)) ∨ (10000 < x1)) →
(true = true)) ∧
((¬ ((x1 < (-10000)) ∨ (10000 < x1))) →
((((x2 < (-10000)) ∨ (10000 < x2)) →
(true = true)) ∧
((¬ ((x2 < (-10000)) ∨ (10000 < x2))) →
((((x3 < (-10000)) ∨ (10000 < x3)) →
(true = true)) ∧
((¬ ((x3 < (-10000)) ∨ (10000 < x3))) →
((((x4 < (-10000)) ∨ (10000 < x4)) →
(true = true)) ∧
((¬ ((x4 < (-10000)) ∨ (10000 < x4))) →
((((x5 < (-10000)) ∨ (10000 < x5)) →
(true = true)) ∧
((¬ ((x5 < (-10000)) ∨ (10000 < x5))) →
((((x7 < (-10000)) ∨ (10000 < x7)) →
(true = true)) ∧
((¬ ((x7 < (-10000)) ∨ (10000 < x7))) →
((((x8 < (-10000)) ∨ (10000 < x8)) →
(true = true)) ∧
((¬ ((x8 < (-10000)) ∨ (10000 < x8))) →
((((x9 < (-10000)) ∨ (10000 < x9)) →
(true = true)) ∧
((¬ ((x9 < (-10000)) ∨ (10000 < x9))) →
((((x10 < (-10000)) ∨ (10000 < x10)) →
(true = true)) ∧
((¬ ((x10 < (-10000)) ∨ (10000 < x10))) →
((((x11 < (-10000)) ∨ (10000 < x11)) →
(true = true)) ∧
((¬ ((x11 < (-10000)) ∨ (10000 < x11))) →
((((x12 < (-10000)) ∨ (10000 < x12)) →
(true = true)) ∧
((¬ ((x12 < (-10000)) ∨ (10000 < x12))) →
((((x13 < 0) ∨ (255 < x13)) →
(true = true)) ∧
((¬ ((x13 < 0) ∨ (255 < x13))) →
(Px 710 [(xI x0), (xI x1), (xI x2), (xI x3), (xI x4), (xI x5), x6, (xI x7), (xI x8), (xI x9)] ∧
(Px 710 [(xI x0), (xI x1), (xI x2), (xI x3), (xI x4), (xI x5), x6, (xI x10), (xI x11), (xI x12)] ∧
(Px 710 [(xI x0), (xI x1), (xI x2), (xI x3), (xI x4), (xI x5), x6, (xI x7), (xI x8), (xI x9), (xI x13)] ∧
(let v45 : X := Ff 701 [(xI x0), (xI x1), (xI x2), (xI x3), (xI x4), (xI x5), x6, (xI x7), (xI x8), (xI x9), (xI x13)]; let v46 : X := Ff 702 [(xI x0), (xI x1), (xI x2), (xI x3), (xI x4), (xI x5), x6, (xI x7), (xI x8), (xI x9), (xI x13)]; let v47 : X := Ff 703 [(xI x0), (xI x1), (xI x2), (xI x3), (xI x4), (xI x5), x6, (xI x7), (xI x8), (xI x9), (xI x13)]; let v48 : X := Ff 704 [(xI x0), (xI x1), (xI x2), (xI x3), (xI x4), (xI x5), x6, (xI x7), (xI x8), (xI x9), (xI x13)]; let v49 : X := Ff 705 [(xI x0), (xI x1), (xI x2), (xI x3), (xI x4), (xI x5), x6, (xI x7), (xI x8), (xI x9), (xI x13)]; let v50 : X := Ff 706 [(xI x0), (xI x1), (xI x2), (xI x3), (xI x4), (xI x5), x6, (xI x7), (xI x8), (xI x9), (xI x13)]; let v51 : X := Ff 707 [(xI x0), (xI x1), (xI x2), (xI x3), (xI x4), (xI x5), x6, (xI x7), (xI x8), (xI x9), (xI x13)]; (Px 710 [(xI v45.i), (xI v46.i), (xI v47.i), (xI v48.i), (xI v49.i), (xI v50.i), v51, (xI x7), (xI x8), (xI x9)] ∧
(let v53 : X := Ff 908 [(xI v45.i), (xI v46.i), (xI v47.i), (xI v48.i), (xI v49.i), (xI v50.i), v51, (xI x7), (xI x8), (xI x9)]; let v54 : X := Ff 201 [(xI x7), (xI x8), (xI x9), (xI x0), (xI x1), (xI x2), (xI x3), (xI x4), (xI x5)]; ((((v53.i = (bif v54.b then x13 else 0)) ∧ (¬ ((x7 = x10) ∧ ((x8 = x11) ∧ (x9 = x12))))) →
 Px 710 [(xI v45.i), (xI v46.i), (xI v47.i), (xI v48.i), (xI v49.i), (xI v50.i), v51, (xI x10), (xI x11), (xI x12)]) ∧
(let v57 : X := Ff 908 [(xI v45.i), (xI v46.i), (xI v47.i), (xI v48.i), (xI v49.i), (xI v50.i), v51, (xI x10), (xI x11), (xI x12)]; let v58 : X := Ff 908 [(xI x0), (xI x1), (xI x2), (xI x3), (xI x4), (xI x5), x6, (xI x10), (xI x11), (xI x12)]; ((((v53.i = (bif v54.b then x13 else 0)) ∧ (((x7 = x10) ∧ ((x8 = x11) ∧ (x9 = x12))) ∨ (v57.i = v58.i))) →
 Px 710 [(xI x0), (xI x1), (xI x2), (xI x3), (xI x4), (xI x5), x6, (xI x7), (xI x8), (xI x9)]) ∧
(let v61 : X := Ff 700 [(xI v45.i), (xI v46.i), (xI v47.i), (xI v48.i), (xI v49.i), (xI v50.i), v51]; ((((v53.i = (bif v54.b then x13 else 0)) ∧ (((x7 = x10) ∧ ((x8 = x11) ∧ (x9 = x12))) ∨ (v57.i = v58.i))) ∧ (v61.b = true)) ∧ ((v45.i = x0) ∧ ((v46.i = x1) ∧ ((v47.i = x2) ∧ ((v48.i = x3) ∧ ((v49.i = x4) ∧ (v50.i = x5)))))))))))))))))))))))))))))))))))))))))))) ∧
(((1000 < x6.i) ∨ (¬ (v0.b = true))) →
(true = true))))
noncomputable def sh : List RSh := (shTs Tryd.prog [28, 23, 23, 3]).getD []
attribute [irreducible] sh
theorem link (x0 : Int) (x1 : Int) (x2 : Int) (x3 : Int) (x4 : Int) (x5 : Int) (x6 : X) (x7 : Int) (x8 : Int) (x9 : Int) (x10 : Int) (x11 : Int) (x12 : Int) (x13 : Int) : (walkR Tryd.prog (cfG none L07 R07 [] sumC) Tryd.f4 1600 sh).law { ρ0 with x := fun j => [xI x0, xI x1, xI x2, xI x3, xI x4, xI x5, x6, xI x7, xI x8, xI x9, xI x10, xI x11, xI x12, xI x13].getD j (xI 0) } = lawP x0 x1 x2 x3 x4 x5 x6 x7 x8 x9 x10 x11 x12 x13 := by kernel_rfl
set_option maxHeartbeats 4000000 in
theorem lawP_ok (x0 : Int) (x1 : Int) (x2 : Int) (x3 : Int) (x4 : Int) (x5 : Int) (x6 : X) (x7 : Int) (x8 : Int) (x9 : Int) (x10 : Int) (x11 : Int) (x12 : Int) (x13 : Int) (g0 : -9223372036854775808 ≤ x0 ∧ x0 ≤ 9223372036854775807) (g1 : -9223372036854775808 ≤ x1 ∧ x1 ≤ 9223372036854775807) (g2 : -9223372036854775808 ≤ x2 ∧ x2 ≤ 9223372036854775807) (g3 : -9223372036854775808 ≤ x3 ∧ x3 ≤ 9223372036854775807) (g4 : -9223372036854775808 ≤ x4 ∧ x4 ≤ 9223372036854775807) (g5 : -9223372036854775808 ≤ x5 ∧ x5 ≤ 9223372036854775807) (g6 : 0 ≤ x6.i ∧ x6.i ≤ 9223372036854775807 ∧ RowOk [.int .i64 (-9223372036854775808) (9223372036854775807)] x6.r x6.i.toNat) (g7 : -9223372036854775808 ≤ x7 ∧ x7 ≤ 9223372036854775807) (g8 : -9223372036854775808 ≤ x8 ∧ x8 ≤ 9223372036854775807) (g9 : -9223372036854775808 ≤ x9 ∧ x9 ≤ 9223372036854775807) (g10 : -9223372036854775808 ≤ x10 ∧ x10 ≤ 9223372036854775807) (g11 : -9223372036854775808 ≤ x11 ∧ x11 ≤ 9223372036854775807) (g12 : -9223372036854775808 ≤ x12 ∧ x12 ≤ 9223372036854775807) (g13 : -9223372036854775808 ≤ x13 ∧ x13 ≤ 9223372036854775807) : lawP x0 x1 x2 x3 x4 x5 x6 x7 x8 x9 x10 x11 x12 x13 := by
  unfold lawP
  intro v0
  refine And.intro ?_ ?_
  · intro h2
    refine And.intro ?_ ?_
    · intro h4
      rfl -- #0
    intro h5
    refine And.intro ?_ ?_
    · intro h7
      rfl -- #1
    intro h8
    refine And.intro ?_ ?_
    · intro h10
      rfl -- #2
    intro h11
    refine And.intro ?_ ?_
    · intro h13
      rfl -- #3
    intro h14
    refine And.intro ?_ ?_
    · intro h16
      rfl -- #4
    intro h17
    refine And.intro ?_ ?_
    · intro h19
      rfl -- #5
    intro h20
    refine And.intro ?_ ?_
    · intro h22
      rfl -- #6
    intro h23
    refine And.intro ?_ ?_
    · intro h25
      rfl -- #7
    intro h26
    refine And.intro ?_ ?_
    · intro h28
      rfl -- #8
    intro h29
    refine And.intro ?_ ?_
    · intro h31
      rfl -- #9
    intro h32
    refine And.intro ?_ ?_
    · intro h34
      rfl -- #10
    intro h35
    refine And.intro ?_ ?_
    · intro h37
      rfl -- #11
    intro h38
    refine And.intro ?_ ?_
    · intro h40
      rfl -- #12
    intro h41
    have gv : validG (grX (xI x0) (xI x1) (xI x2) (xI x3) (xI x4) (xI x5) x6) = true := by
      cases hb : v0.b with
      | true => exact hb
      | false => exact absurd (.inr (by rw [hb]; decide)) h2
    have hv : (bxI x0 x1 x2 x3 x4 x5).vol = (lstX deI x6).length := val_len gv
    refine andI ?_ fun o42 => ?_
    · exact gv -- #13
    refine andI ?_ fun o43 => ?_
    · exact gv -- #14
    refine andI ?_ fun o44 => ?_
    · exact gv -- #15
    intro v45
    intro v46
    intro v47
    intro v48
    intro v49
    intro v50
    intro v51
    have e51 : lstX deI v51 = setL (bxI x0 x1 x2 x3 x4 x5) (lstX deI x6) (x7, x8, x9) x13 := lstX_rowG (enc := enI) (dec := deI) (fun _ => rfl) _
    have hg : validG ⟨bxI x0 x1 x2 x3 x4 x5, lstX deI v51⟩ = true := by
      rw [e51]
      exact val_setM gv (matB_iff.2 (by omega))
    refine andI ?_ fun o52 => ?_
    · exact hg -- #16
    intro v53
    have e53 : v53.i = if (bxI x0 x1 x2 x3 x4 x5).has (x7, x8, x9) = true then x13 else 0 := by
      have h : v53.i = getL (bxI x0 x1 x2 x3 x4 x5) (lstX deI v51) (x7, x8, x9) := rfl
      rw [h, e51]
      exact get_set hv
    intro v54
    have e54 : v54.b = (bxI x0 x1 x2 x3 x4 x5).has (x7, x8, x9) := rfl
    refine And.intro ?_ ?_
    · intro h56
      exact hg -- #17
    intro v57
    intro v58
    refine And.intro ?_ ?_
    · intro h60
      exact gv -- #18
    intro v61
    skip -- #19
    refine ⟨⟨⟨?_, ?_⟩, hg⟩, rfl, rfl, rfl, rfl, rfl, rfl⟩
    · rw [e53, e54]
      cases (bxI x0 x1 x2 x3 x4 x5).has (x7, x8, x9) <;> rfl
    · by_cases he : x7 = x10 ∧ x8 = x11 ∧ x9 = x12
      · exact .inl he
      · refine .inr ?_
        have h : v57.i = getL (bxI x0 x1 x2 x3 x4 x5) (lstX deI v51) (x10, x11, x12) := rfl
        rw [h, e51]
        exact get_set_ne fun hh => he (by injection hh with a b; injection b with b c; exact ⟨a, b, c⟩)
  intro h62
  rfl -- #20

/-! ### The frame -/
theorem shape_flat : flatR sh = [.int .i64 (-9223372036854775808) 9223372036854775807, .int .i64 (-9223372036854775808) 9223372036854775807, .int .i64 (-9223372036854775808) 9223372036854775807, .int .i64 (-9223372036854775808) 9223372036854775807, .int .i64 (-9223372036854775808) 9223372036854775807, .int .i64 (-9223372036854775808) 9223372036854775807, .row [.int .i64 (-9223372036854775808) (9223372036854775807)] 9223372036854775807, .int .i64 (-9223372036854775808) 9223372036854775807, .int .i64 (-9223372036854775808) 9223372036854775807, .int .i64 (-9223372036854775808) 9223372036854775807, .int .i64 (-9223372036854775808) 9223372036854775807, .int .i64 (-9223372036854775808) 9223372036854775807, .int .i64 (-9223372036854775808) 9223372036854775807, .int .i64 (-9223372036854775808) 9223372036854775807] := by kernel_rfl
theorem lawful (ds : Ds) (hr : rshX sh ds) : (walkR Tryd.prog (cfG none L07 R07 [] sumC) Tryd.f4 1600 sh).law { ρ0 with x := fun j => ds.getD j (xI 0) } := by
  have hr := rshX_flat hr
  rw [shape_flat] at hr
  match ds, hr with
  | [d0, d1, d2, d3, d4, d5, d6, d7, d8, d9, d10, d11, d12, d13], hr =>
    obtain ⟨⟨e0, l0, u0⟩, ⟨e1, l1, u1⟩, ⟨e2, l2, u2⟩, ⟨e3, l3, u3⟩, ⟨e4, l4, u4⟩, ⟨e5, l5, u5⟩, l6, ⟨e7, l7, u7⟩, ⟨e8, l8, u8⟩, ⟨e9, l9, u9⟩, ⟨e10, l10, u10⟩, ⟨e11, l11, u11⟩, ⟨e12, l12, u12⟩, ⟨e13, l13, u13⟩, _⟩ := hr
    generalize d0.i = x0 at *
    generalize d1.i = x1 at *
    generalize d2.i = x2 at *
    generalize d3.i = x3 at *
    generalize d4.i = x4 at *
    generalize d5.i = x5 at *
    generalize d6 = x6 at *
    generalize d7.i = x7 at *
    generalize d8.i = x8 at *
    generalize d9.i = x9 at *
    generalize d10.i = x10 at *
    generalize d11.i = x11 at *
    generalize d12.i = x12 at *
    generalize d13.i = x13 at *
    subst e0 e1 e2 e3 e4 e5 e7 e8 e9 e10 e11 e12 e13
    exact Eq.mpr (link x0 x1 x2 x3 x4 x5 x6 x7 x8 x9 x10 x11 x12 x13) (lawP_ok x0 x1 x2 x3 x4 x5 x6 x7 x8 x9 x10 x11 x12 x13 ⟨l0, u0⟩ ⟨l1, u1⟩ ⟨l2, u2⟩ ⟨l3, u3⟩ ⟨l4, u4⟩ ⟨l5, u5⟩ l6 ⟨l7, u7⟩ ⟨l8, u8⟩ ⟨l9, u9⟩ ⟨l10, u10⟩ ⟨l11, u11⟩ ⟨l12, u12⟩ ⟨l13, u13⟩)
theorem shape {H : Type} {ds : List (DataW H)} (h : ds.length = 4) : Rows.gridKeepsTheRestSpec.fn H ds = { results := [.lit (.bool true)], args := ds } := by
  match ds, h with
  | [d1, d2, d3, d4], _ => rfl
set_option maxRecDepth 100000 in
theorem calls {H : Type} {enc : TypeId × Value → H} (W : World) (base : Nat) (args : Array Value) (ds : List (DataW H)) (p : List MemPlace) (hval : ∀ (j : Nat) t v, Tryd.f4.params[j]? = some t → args[j]? = some v → Value.okWide Tryd.prog W .any base t v)
    (hA : DataW.TrodAll enc Tryd.prog W 0 (fun _ => true) true Tryd.f4.params.toList args.toList ds p) (hg : GlobOk ρ0.g W.heap.size W) : Calls Tryd.prog 4 args W fun e w' => e = .returned (.bool true) ∧ Below W.heap.size W w' := by
  rw [Tryd.params4] at hA hval
  have hs : shTs Tryd.prog [28, 23, 23, 3] = some sh := by
    have : (shTs Tryd.prog [28, 23, 23, 3]).isSome = true := by kernel_rfl
    obtain ⟨s, h⟩ := Option.isSome_iff_exists.1 this
    unfold sh
    rw [h]; rfl
  obtain ⟨ds', hr⟩ := args_rel hA (fun i t v ht hv => hval i t v (by simpa using ht) (by simpa using hv)) hs
  have := law_callsR (L07_ok) Tryd.func4 rfl 1600 hg hr lawful
  simpa using this
set_option maxRecDepth 100000 in
theorem lifted (os : Os) (started : os.Started) (H : Type) (enc : TypeId × Value → H) :
    ReturnsInHanded {} Tryd.checked os 4 .any (fun w args => (Rows.gridKeepsTheRestSpec.pre enc Tryd.prog Tryd.f4 [] false w args ∧ laidMetH Tryd.prog [("voxel/point.axes", Rows.laid_voxel_point_axes)] w) ∧ sizedMet enc Tryd.prog Tryd.f4 (OpenSpec.ofChange Rows.gridKeepsTheRestSpec) false w args)
      (Rows.gridKeepsTheRestSpec.post enc Tryd.prog Tryd.f4 false true false false) := by
  refine returnsInHanded_of_change_and (C := Tryd.checked) (X := fun w _ => laidMetH Tryd.prog [("voxel/point.axes", Rows.laid_voxel_point_axes)] w) (fun _ _ _ hh h => h.of_heap hh) own started (by kernel_rfl) Tryd.func4
    (ChangeSpec.witness_shaped (enc := enc) (C := Tryd.checked) (os := os) (X := fun w _ => laidMetH Tryd.prog [("voxel/point.axes", Rows.laid_voxel_point_axes)] w) false (World.doorLaid Tryd.prog 400 os) #[((Tryd.prog.info? 28).bind (·.zero)).getD undef, ((Tryd.prog.info? 23).bind (·.zero)).getD undef, ((Tryd.prog.info? 23).bind (·.zero)).getD undef, ((Tryd.prog.info? 3).bind (·.zero)).getD undef] 8 rfl (World.shaped_of_RefB (by kernel_rfl) (by kernel_rfl)) (by kernel_rfl) (by kernel_rfl) (by kernel_rfl) (door_met os _)) ?_
  intro W base args ds gs before hval hW _ _ hL _
  have hW0 := hW
  obtain ⟨p, q, hA, hV, _⟩ := hW0
  have hlen : ds.length = 4 := (trodAll_len hA).trans (by kernel_rfl)
  refine (calls W base args ds p hval hA (glob_ok hL)).mono fun e W' ⟨he, hb⟩ => ?_
  subst he
  exact ⟨_, rfl, law_post kids slices (by rw [Tryd.params4]; decide +kernel) rfl rfl Tryd.underlying4 (shape hlen) hW hb⟩

theorem over : Rows.GridKeepsTheRestSaid :=
  OpenClaim.holds_of_wide 4 Tryd.f4 rfl rfl rfl rfl rfl rfl rfl ⟨rfl, rfl, rfl, rfl, rfl⟩ rfl rfl rfl rfl rfl (by kernel_rfl) Tryd.func4 (by kernel_rfl)
    (of_decide_eq_true (by kernel_rfl)) (by unfold Func.isWrapper; first | (rw [if_pos (by decide +kernel)]; kernel_rfl) | (rw [if_neg (by decide +kernel)]; exact ⟨rfl, rfl⟩))
    (fun os started H enc _ => lifted os started H enc)

/-- The statement: the row, its listed variable tied to the program's text. -/
theorem proved : Rows.GridKeepsTheRestCardSaid :=
  Claim7.holds_tied_plain_at .later [] [.data] true (true, "127ed38f03d5299d2a50fe8d6cb549502e2ebfd838967b6e2d31f5f549e46494") false
    over (fun _ h => by cases h) (by kernel_rfl) (fun _ h => by cases h) gridKeepsTheRest_row_tie rfl ⟨rfl, rfl⟩ (by kernel_rfl) rfl
    (fun f fn hf hfn => by
      obtain rfl : f = 4 := Option.some.inj ((show Tryd.prog.funcNamed "voxel/voxellaw07.GridKeepsTheRest" = some 4 by kernel_rfl).symm.trans hf) |>.symm
      obtain rfl : fn = Tryd.f4 := (Option.some.inj (Tryd.func4.symm.trans hfn)).symm
      exact ⟨by kernel_rfl, fun j t ht => by
        rw [Tryd.params4] at ht
        have hm : t ∈ [28, 23, 23, 3] := by simpa using Array.mem_of_getElem? ht
        have hall : ([28, 23, 23, 3].all fun u => !Tryd.prog.wantsStandIn u) = true := by kernel_rfl
        exact (show Tryd.prog.wantsStandIn t = false by simpa using List.all_eq_true.1 hall t hm)⟩)
    (by kernel_rfl)
#print axioms proved
end Go.Proofs.YtleapeclbkclaaaDoor.gridKeepsTheRest
