/- Proved: CollideNeverEnters: the statement 'CollideNeverEntersSaid' of this seat, for every input that it names; no condition besides. -/
import Derived.Test.YtokicaoapclicaaC41T
import Derived.Test.YtokicaoapclicaaRows
import Derived.ProofKit
import Derived.LaidMore
import Derived.Stop.Joined
namespace Go.Proofs.Ytokicaoapclicaa.collideNeverEnters
open Go Go.ChangeShapes Go.WideShapes Go.ChangeAt Go.RowKit Vc
set_option linter.unusedVariables false


/-- The law's walk, as the machine leaves it. -/
def lawP (x0 : X) (x1 : Int) (x2 : Int) (x3 : Int) (x4 : Int) (x5 : Int) (x6 : Int) (x7 : Int) (x8 : Int) (x9 : Int) : Prop :=
(let v0 : X := Ff 600 [x0]; (((v0.b = true) →
((((¬ (((((((-1000) ≤ x1) ∧ ((-1000) ≤ x2)) ∧ ((-1000) ≤ x3)) ∧ (x1 ≤ 1000)) ∧ (x2 ≤ 1000)) ∧ (x3 ≤ 1000))) ∨ (¬ (((((((-1000) ≤ x4) ∧ ((-1000) ≤ x5)) ∧ ((-1000) ≤ x6)) ∧ (x4 ≤ 1000)) ∧ (x5 ≤ 1000)) ∧ (x6 ≤ 1000)))) →
(true = true)) ∧
((¬ ((¬ (((((((-1000) ≤ x1) ∧ ((-1000) ≤ x2)) ∧ ((-1000) ≤ x3)) ∧ (x1 ≤ 1000)) ∧ (x2 ≤ 1000)) ∧ (x3 ≤ 1000))) ∨ (¬ (((((((-1000) ≤ x4) ∧ ((-1000) ≤ x5)) ∧ ((-1000) ≤ x6)) ∧ (x4 ≤ 1000)) ∧ (x5 ≤ 1000)) ∧ (x6 ≤ 1000))))) →
(let v6 : X := Ff 601 [x0, (xI x1), (xI x2), (xI x3), (xI x4), (xI x5), (xI x6)]; ((((¬ (((((((-64) ≤ x7) ∧ ((-64) ≤ x8)) ∧ ((-64) ≤ x9)) ∧ (x7 ≤ 64)) ∧ (x8 ≤ 64)) ∧ (x9 ≤ 64))) ∨ (v6.b = true)) →
(true = true)) ∧
((¬ ((¬ (((((((-64) ≤ x7) ∧ ((-64) ≤ x8)) ∧ ((-64) ≤ x9)) ∧ (x7 ≤ 64)) ∧ (x8 ≤ 64)) ∧ (x9 ≤ 64))) ∨ (v6.b = true))) →
(Px 610 [x0, (xI x1), (xI x2), (xI x3), (xI x4), (xI x5), (xI x6), (xI 0), (xI x7)] ∧
(let v11 : X := Ff 602 [x0, (xI x1), (xI x2), (xI x3), (xI x4), (xI x5), (xI x6), (xI 0), (xI x7)]; (Px 610 [x0, (xI (x1 + v11.i)), (xI x2), (xI x3), (xI (x4 + v11.i)), (xI x5), (xI x6), (xI 1), (xI x8)] ∧
(let v13 : X := Ff 602 [x0, (xI (x1 + v11.i)), (xI x2), (xI x3), (xI (x4 + v11.i)), (xI x5), (xI x6), (xI 1), (xI x8)]; (Px 610 [x0, (xI (x1 + v11.i)), (xI (x2 + v13.i)), (xI x3), (xI (x4 + v11.i)), (xI (x5 + v13.i)), (xI x6), (xI 2), (xI x9)] ∧
(let v15 : X := Ff 602 [x0, (xI (x1 + v11.i)), (xI (x2 + v13.i)), (xI x3), (xI (x4 + v11.i)), (xI (x5 + v13.i)), (xI x6), (xI 2), (xI x9)]; let v16 : X := Ff 601 [x0, (xI (x1 + v11.i)), (xI (x2 + v13.i)), (xI (x3 + v15.i)), (xI (x4 + v11.i)), (xI (x5 + v13.i)), (xI (x6 + v15.i))]; (((v16.b = true) →
(false = true)) ∧
((¬ (v16.b = true)) →
(((¬ ((0 ≤ x9) ∨ (v15.i ≤ x9))) →
(let v22 : X := Ff 601 [x0, (xI (x1 + v11.i)), (xI (x2 + v13.i)), (xI ((x3 + v15.i) + (-1))), (xI (x4 + v11.i)), (xI (x5 + v13.i)), (xI ((x6 + v15.i) + (-1)))]; (v22.b = true))) ∧
(((0 ≤ x9) ∨ (v15.i ≤ x9)) →
(true = true))))))))))))))))) ∧
((¬ (v0.b = true)) →
(true = true))))
noncomputable def sh : List RSh := (shTs Try.prog [22, 26, 24]).getD []
attribute [irreducible] sh
theorem link (x0 : X) (x1 : Int) (x2 : Int) (x3 : Int) (x4 : Int) (x5 : Int) (x6 : Int) (x7 : Int) (x8 : Int) (x9 : Int) : (walkR Try.prog (cfN N41 none [cSane, cMv] R41 lpSlides sumL) Try.f6 400 sh).law { ρ0 with x := fun j => [x0, xI x1, xI x2, xI x3, xI x4, xI x5, xI x6, xI x7, xI x8, xI x9].getD j (xI 0) } = lawP x0 x1 x2 x3 x4 x5 x6 x7 x8 x9 := by kernel_rfl
set_option maxHeartbeats 4000000 in
theorem lawP_ok (x0 : X) (x1 : Int) (x2 : Int) (x3 : Int) (x4 : Int) (x5 : Int) (x6 : Int) (x7 : Int) (x8 : Int) (x9 : Int) (g0 : 0 ≤ x0.i ∧ x0.i ≤ 9223372036854775807 ∧ RowOk [.int .i64 (-9223372036854775808) (9223372036854775807), .int .i64 (-9223372036854775808) (9223372036854775807), .int .i64 (-9223372036854775808) (9223372036854775807), .int .i64 (-9223372036854775808) (9223372036854775807), .int .i64 (-9223372036854775808) (9223372036854775807), .int .i64 (-9223372036854775808) (9223372036854775807)] x0.r x0.i.toNat) (g1 : -9223372036854775808 ≤ x1 ∧ x1 ≤ 9223372036854775807) (g2 : -9223372036854775808 ≤ x2 ∧ x2 ≤ 9223372036854775807) (g3 : -9223372036854775808 ≤ x3 ∧ x3 ≤ 9223372036854775807) (g4 : -9223372036854775808 ≤ x4 ∧ x4 ≤ 9223372036854775807) (g5 : -9223372036854775808 ≤ x5 ∧ x5 ≤ 9223372036854775807) (g6 : -9223372036854775808 ≤ x6 ∧ x6 ≤ 9223372036854775807) (g7 : -9223372036854775808 ≤ x7 ∧ x7 ≤ 9223372036854775807) (g8 : -9223372036854775808 ≤ x8 ∧ x8 ≤ 9223372036854775807) (g9 : -9223372036854775808 ≤ x9 ∧ x9 ≤ 9223372036854775807) : lawP x0 x1 x2 x3 x4 x5 x6 x7 x8 x9 := by
  unfold lawP
  intro v0
  refine And.intro ?_ ?_
  · intro h2
    refine And.intro ?_ ?_
    · intro h4
      rfl -- #0
    intro h5
    intro v6
    refine And.intro ?_ ?_
    · intro h8
      rfl -- #1
    intro h9
    have n6 : ¬ ovB (lstX deX x0) ⟨x1, x2, x3, x4, x5, x6⟩ = true := fun h => h9 (.inr h)
    refine andI ?_ fun o10 => ?_
    · exact h2 -- #2
    intro v11
    have n11 : ¬ ovB (lstX deX x0) ⟨x1 + v11.i, x2, x3, x4 + v11.i, x5, x6⟩ = true := sl_free (x := 0) (d := x7) (by omega) n6
    refine andI ?_ fun o12 => ?_
    · exact h2 -- #3
    intro v13
    have n13 : ¬ ovB (lstX deX x0) ⟨x1 + v11.i, x2 + v13.i, x3, x4 + v11.i, x5 + v13.i, x6⟩ = true := sl_free (x := 1) (d := x8) (by omega) n11
    refine andI ?_ fun o14 => ?_
    · exact h2 -- #4
    intro v15
    have n15 : ¬ ovB (lstX deX x0) ⟨x1 + v11.i, x2 + v13.i, x3 + v15.i, x4 + v11.i, x5 + v13.i, x6 + v15.i⟩ = true := sl_free (x := 2) (d := x9) (by omega) n13
    intro v16
    refine And.intro ?_ ?_
    · intro h18
      exact absurd h18 n15 -- #5
    intro h19
    refine And.intro ?_ ?_
    · intro h21
      intro v22
      skip -- #6
      have s15 : v15.i = x9 ∨ ovB (lstX deX x0) ⟨x1 + v11.i, x2 + v13.i, x3 + (v15.i + stB x9), x4 + v11.i, x5 + v13.i, x6 + (v15.i + stB x9)⟩ = true := sl_stop (x := 2) (d := x9) (by omega) n13
      rw [stB_neg (by omega), ← Int.add_assoc, ← Int.add_assoc] at s15
      exact s15.resolve_left (by omega)
    intro h23
    rfl -- #7
  intro h24
  rfl -- #8

/-! ### The frame -/
theorem shape_flat : flatR sh = [.row [.int .i64 (-9223372036854775808) (9223372036854775807), .int .i64 (-9223372036854775808) (9223372036854775807), .int .i64 (-9223372036854775808) (9223372036854775807), .int .i64 (-9223372036854775808) (9223372036854775807), .int .i64 (-9223372036854775808) (9223372036854775807), .int .i64 (-9223372036854775808) (9223372036854775807)] 9223372036854775807, .int .i64 (-9223372036854775808) 9223372036854775807, .int .i64 (-9223372036854775808) 9223372036854775807, .int .i64 (-9223372036854775808) 9223372036854775807, .int .i64 (-9223372036854775808) 9223372036854775807, .int .i64 (-9223372036854775808) 9223372036854775807, .int .i64 (-9223372036854775808) 9223372036854775807, .int .i64 (-9223372036854775808) 9223372036854775807, .int .i64 (-9223372036854775808) 9223372036854775807, .int .i64 (-9223372036854775808) 9223372036854775807] := by kernel_rfl
theorem lawful (ds : Ds) (hr : rshX sh ds) : (walkR Try.prog (cfN N41 none [cSane, cMv] R41 lpSlides sumL) Try.f6 400 sh).law { ρ0 with x := fun j => ds.getD j (xI 0) } := by
  have hr := rshX_flat hr
  rw [shape_flat] at hr
  match ds, hr with
  | [d0, d1, d2, d3, d4, d5, d6, d7, d8, d9], hr =>
    obtain ⟨l0, ⟨e1, l1, u1⟩, ⟨e2, l2, u2⟩, ⟨e3, l3, u3⟩, ⟨e4, l4, u4⟩, ⟨e5, l5, u5⟩, ⟨e6, l6, u6⟩, ⟨e7, l7, u7⟩, ⟨e8, l8, u8⟩, ⟨e9, l9, u9⟩, _⟩ := hr
    generalize d0 = x0 at *
    generalize d1.i = x1 at *
    generalize d2.i = x2 at *
    generalize d3.i = x3 at *
    generalize d4.i = x4 at *
    generalize d5.i = x5 at *
    generalize d6.i = x6 at *
    generalize d7.i = x7 at *
    generalize d8.i = x8 at *
    generalize d9.i = x9 at *
    subst e1 e2 e3 e4 e5 e6 e7 e8 e9
    exact Eq.mpr (link x0 x1 x2 x3 x4 x5 x6 x7 x8 x9) (lawP_ok x0 x1 x2 x3 x4 x5 x6 x7 x8 x9 l0 ⟨l1, u1⟩ ⟨l2, u2⟩ ⟨l3, u3⟩ ⟨l4, u4⟩ ⟨l5, u5⟩ ⟨l6, u6⟩ ⟨l7, u7⟩ ⟨l8, u8⟩ ⟨l9, u9⟩)
theorem shape {H : Type} {ds : List (DataW H)} (h : ds.length = 3) : Rows.collideNeverEntersSpec.fn H ds = { results := [.lit (.bool true)], args := ds } := by
  match ds, h with
  | [d1, d2, d3], _ => rfl
theorem calls {H : Type} {enc : TypeId × Value → H} (W : World) (base : Nat) (args : Array Value) (ds : List (DataW H)) (p : List MemPlace) (hval : ∀ (j : Nat) t v, Try.f6.params[j]? = some t → args[j]? = some v → Value.okWide Try.prog W .any base t v)
    (hA : DataW.TrodAll enc Try.prog W 0 (fun _ => true) true Try.f6.params.toList args.toList ds p) (hg : GlobOk ρ0.g W.heap.size W) : Calls Try.prog 6 args W fun e w' => e = .returned (.bool true) ∧ Below W.heap.size W w' := by
  rw [Try.params6] at hA hval
  have hs : shTs Try.prog [22, 26, 24] = some sh := by
    have : (shTs Try.prog [22, 26, 24]).isSome = true := by kernel_rfl
    obtain ⟨s, h⟩ := Option.isSome_iff_exists.1 this
    unfold sh
    rw [h]; rfl
  obtain ⟨ds', hr⟩ := args_rel hA (fun i t v ht hv => hval i t v (by simpa using ht) (by simpa using hv)) hs
  have := law_callsR (L41s_ok) Try.func6 rfl 400 hg hr lawful
  simpa using this
set_option maxRecDepth 100000 in
theorem lifted (os : Os) (started : os.Started) (H : Type) (enc : TypeId × Value → H) :
    ReturnsInHanded {} Try.checked os 6 .any (Rows.collideNeverEntersSpec.pre6 enc Try.prog Try.f6 Rows.collideNeverEntersRow.domain false) (Rows.collideNeverEntersSpec.post enc Try.prog Try.f6 false true false false) := by
  refine returnsInHanded_of_change (C := Try.checked) own started (by kernel_rfl) Try.func6
    (ChangeSpec.witness6 (enc := enc) (C := Try.checked) false ⟨#[], #[((Try.prog.info? 22).bind (·.zero)).getD undef, ((Try.prog.info? 26).bind (·.zero)).getD undef, ((Try.prog.info? 24).bind (·.zero)).getD undef], []⟩ 8 (by kernel_rfl) (by kernel_rfl) (by kernel_rfl) (by kernel_rfl)) ?_
  intro W base args ds gs before hval hW _ _
  have hW0 := hW
  obtain ⟨p, q, hA, hV, _⟩ := hW0
  have hlen : ds.length = 3 := (trodAll_len hA).trans (by kernel_rfl)
  refine (calls W base args ds p hval hA (glob_ok W)).mono fun e W' ⟨he, hb⟩ => ?_
  subst he
  exact ⟨_, rfl, law_post kids slices (by rw [Try.params6]; decide +kernel) rfl rfl Try.underlying4 (shape hlen) hW hb⟩

theorem over : Rows.CollideNeverEntersSaid :=
  OpenClaim.holds_of_wide 6 Try.f6 rfl rfl rfl rfl rfl rfl rfl ⟨rfl, rfl, rfl, rfl, rfl⟩ rfl rfl rfl rfl rfl (by kernel_rfl) Try.func6 (by kernel_rfl)
    (of_decide_eq_true (by kernel_rfl)) (by unfold Func.isWrapper; first | (rw [if_pos (by decide +kernel)]; kernel_rfl) | (rw [if_neg (by decide +kernel)]; exact ⟨rfl, rfl⟩))
    (fun os started H enc _ => lifted os started H enc)

/-- The statement. -/
theorem proved : Rows.CollideNeverEntersSaid := over
#print axioms proved
end Go.Proofs.Ytokicaoapclicaa.collideNeverEnters
