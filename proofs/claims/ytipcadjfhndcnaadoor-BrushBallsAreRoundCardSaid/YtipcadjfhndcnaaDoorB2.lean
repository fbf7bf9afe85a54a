/- Proved: BrushBallsAreRound: the statement 'BrushBallsAreRoundCardSaid' of this seat, for every input that it names; no condition besides. -/
import Derived.Test.YtipcadjfhndcnaaDoorC19S
import Derived.Test.YtipcadjfhndcnaaDoorC19N
import Derived.Test.YtipcadjfhndcnaaDoorRows
import Derived.Test.YtipcadjfhndcnaaDoorCards
import Derived.Test.YtipcadjfhndcnaaDoorTie
import Derived.SevenTiedAt
import Derived.ProofKit
import Derived.LaidMore
import Derived.Stop.Joined
namespace Go.Proofs.YtipcadjfhndcnaaDoor.brushBallsAreRound
open Go Go.ChangeShapes Go.WideShapes Go.ChangeAt Go.RowKit Vc
set_option linter.unusedVariables false

theorem ball_b {x y z s a b c : Int} (h : isSz s) : (Ff 420 [xI x, xI y, xI z, xI s, xI a, xI b, xI c]).b = ballB x y z s (a, b, c) := by
  rw [G420]
  show (decide (isSz s) && _) = _
  rw [decide_eq_true h, Bool.true_and]

/-- The law's walk, as the machine leaves it. -/
def lawP (x0 : Int) (x1 : Int) (x2 : Int) (x3 : Int) (x4 : Int) (x5 : Int) (x6 : Int) (x7 : Int) (x8 : Int) : Prop :=
  (
   ((¬ (((((-300000) ≤ x0) ∧ (x0 < 300001)) ∧ (((-300000) ≤ x1) ∧ (x1 < 300001))) ∧ (((-300000) ≤ x2) ∧ (x2 < 300001)))) →
    (true = true))
  ∧
   ((((((-300000) ≤ x0) ∧ (x0 < 300001)) ∧ (((-300000) ≤ x1) ∧ (x1 < 300001))) ∧ (((-300000) ≤ x2) ∧ (x2 < 300001))) →
    (
     ((¬ (((((-300000) ≤ x3) ∧ (x3 < 300001)) ∧ (((-300000) ≤ x4) ∧ (x4 < 300001))) ∧ (((-300000) ≤ x5) ∧ (x5 < 300001)))) →
      (true = true))
    ∧
     ((((((-300000) ≤ x3) ∧ (x3 < 300001)) ∧ (((-300000) ≤ x4) ∧ (x4 < 300001))) ∧ (((-300000) ≤ x5) ∧ (x5 < 300001))) →
      (
       ((((x6 < 1) ∨ (x7 < x6)) ∨ (4096 < x7)) →
        (true = true))
      ∧
       ((¬ (((x6 < 1) ∨ (x7 < x6)) ∨ (4096 < x7))) →
        (((((((decide (x6 ≤ 4096)) && (decide ((4 * (((((x0 + (Ff 290 [(xI ((x8 % 48) + 0)), (xI (x3 - x0)), (xI (x4 - x1)), (xI (x5 - x2))]).i) + ((-1) * x0)) * ((x0 + (Ff 290 [(xI ((x8 % 48) + 0)), (xI (x3 - x0)), (xI (x4 - x1)), (xI (x5 - x2))]).i) + ((-1) * x0))) + (((x1 + (Ff 291 [(xI ((x8 % 48) + 0)), (xI (x3 - x0)), (xI (x4 - x1)), (xI (x5 - x2))]).i) + ((-1) * x1)) * ((x1 + (Ff 291 [(xI ((x8 % 48) + 0)), (xI (x3 - x0)), (xI (x4 - x1)), (xI (x5 - x2))]).i) + ((-1) * x1)))) + (((x2 + (Ff 292 [(xI ((x8 % 48) + 0)), (xI (x3 - x0)), (xI (x4 - x1)), (xI (x5 - x2))]).i) + ((-1) * x2)) * ((x2 + (Ff 292 [(xI ((x8 % 48) + 0)), (xI (x3 - x0)), (xI (x4 - x1)), (xI (x5 - x2))]).i) + ((-1) * x2))))) ≤ (IntKind.wrap Go.IntKind.i64 (x6 * x6))))) == (Ff 420 [(xI (x0 + 0)), (xI (x1 + 0)), (xI (x2 + 0)), (xI (x6 + 0)), (xI (x3 + 0)), (xI (x4 + 0)), (xI (x5 + 0))]).b) = true) ∧ ((¬ ((Ff 420 [(xI (x0 + 0)), (xI (x1 + 0)), (xI (x2 + 0)), (xI (x6 + 0)), (xI (x3 + 0)), (xI (x4 + 0)), (xI (x5 + 0))]).b = true)) ∨ (((Ff 420 [(xI (x0 + 0)), (xI (x1 + 0)), (xI (x2 + 0)), (xI (x7 + 0)), (xI (x3 + 0)), (xI (x4 + 0)), (xI (x5 + 0))]).b = true) ∧ (((((Ff 422 [(xI (x0 + 0)), (xI (x1 + 0)), (xI (x2 + 0)), (xI (x6 + 0))]).i ≤ x3) ∧ (x3 < (Ff 425 [(xI (x0 + 0)), (xI (x1 + 0)), (xI (x2 + 0)), (xI (x6 + 0))]).i)) ∧ (((Ff 423 [(xI (x0 + 0)), (xI (x1 + 0)), (xI (x2 + 0)), (xI (x6 + 0))]).i ≤ x4) ∧ (x4 < (Ff 426 [(xI (x0 + 0)), (xI (x1 + 0)), (xI (x2 + 0)), (xI (x6 + 0))]).i))) ∧ (((Ff 424 [(xI (x0 + 0)), (xI (x1 + 0)), (xI (x2 + 0)), (xI (x6 + 0))]).i ≤ x5) ∧ (x5 < (Ff 427 [(xI (x0 + 0)), (xI (x1 + 0)), (xI (x2 + 0)), (xI (x6 + 0))]).i)))))) ∧ ((Ff 420 [(xI (x0 + 0)), (xI (x1 + 0)), (xI (x2 + 0)), (xI (x6 + 0)), (xI (x0 + 0)), (xI (x1 + 0)), (xI (x2 + 0))]).b = true)) ∧ (((Ff 420 [(xI (x3 + 0)), (xI (x4 + 0)), (xI (x5 + 0)), (xI (x6 + 0)), (xI (x0 + 0)), (xI (x1 + 0)), (xI (x2 + 0))]).b == (Ff 420 [(xI (x0 + 0)), (xI (x1 + 0)), (xI (x2 + 0)), (xI (x6 + 0)), (xI (x3 + 0)), (xI (x4 + 0)), (xI (x5 + 0))]).b) = true))))))))
noncomputable def av : List SV := match argsS Tryd.prog [23, 23, 3, 3, 5] 0 with | some (vs, _) => vs | none => []
noncomputable def ks : List Lf := match argsS Tryd.prog [23, 23, 3, 3, 5] 0 with | some (_, ks) => ks | none => []
theorem link (x : Nat → X) : (walkF Tryd.prog (cfG none L19a [] [] sumL) Tryd.f6 260 av).law { ρ0 with x := x } = lawP (x 0).i (x 1).i (x 2).i (x 3).i (x 4).i (x 5).i (x 6).i (x 7).i (x 8).i := by kernel_rfl
set_option maxHeartbeats 1000000 in
theorem lawP_ok (x0 : Int) (x1 : Int) (x2 : Int) (x3 : Int) (x4 : Int) (x5 : Int) (x6 : Int) (x7 : Int) (x8 : Int) (h0 : -9223372036854775808 ≤ x0 ∧ x0 ≤ 9223372036854775807) (h1 : -9223372036854775808 ≤ x1 ∧ x1 ≤ 9223372036854775807) (h2 : -9223372036854775808 ≤ x2 ∧ x2 ≤ 9223372036854775807) (h3 : -9223372036854775808 ≤ x3 ∧ x3 ≤ 9223372036854775807) (h4 : -9223372036854775808 ≤ x4 ∧ x4 ≤ 9223372036854775807) (h5 : -9223372036854775808 ≤ x5 ∧ x5 ≤ 9223372036854775807) (h6 : -9223372036854775808 ≤ x6 ∧ x6 ≤ 9223372036854775807) (h7 : -9223372036854775808 ≤ x7 ∧ x7 ≤ 9223372036854775807) (h8 : 0 ≤ x8 ∧ x8 ≤ 255) : lawP x0 x1 x2 x3 x4 x5 x6 x7 x8 := by
  unfold lawP
  refine ⟨fun _ => rfl, fun hp => ⟨fun _ => rfl, fun hq => ⟨fun _ => rfl, fun hs => ?_⟩⟩⟩
  have s6 : isSz x6 := by unfold isSz; omega
  have s7 : isSz x7 := by unfold isSz; omega
  have i8 : inT (x8 % 48) := by unfold inT; omega
  have n6 : 0 ≤ x6 * x6 := sq_nn x6
  have m6 : x6 * x6 ≤ 4096 * 4096 := Int.mul_le_mul s6.2 s6.2 (by have := s6.1; omega) (by omega)
  have m7 : x6 * x6 ≤ x7 * x7 := Int.mul_le_mul (by omega) (by omega) (by have := s6.1; omega) (by have := s7.1; omega)
  have w : IntKind.wrap Go.IntKind.i64 (x6 * x6) = x6 * x6 := wrap_fits (by simp only [kmin, kmax]; omega)
  have e : ∀ a b : Int, a + b + (-1) * a = b := fun a b => by omega
  simp only [Int.add_zero, ball_b s6, ball_b s7, G290, G291, G292, F422, F423, F424, F425, F426, F427, xI_i, w, e, turn_sq i8]
  have d6 : decide (x6 ≤ 4096) = true := decide_eq_true s6.2
  have hx : ballX x0 x1 x2 x6 = ⟨x0 - x6 / 2, x1 - x6 / 2, x2 - x6 / 2, x0 + (x6 / 2 + 1), x1 + (x6 / 2 + 1), x2 + (x6 / 2 + 1)⟩ := by unfold ballX; rw [if_pos s6]
  have q3 := sq_nn (x3 - x0)
  have q4 := sq_nn (x4 - x1)
  have q5 := sq_nn (x5 - x2)
  have sw : ∀ a b : Int, (a - b) * (a - b) = (b - a) * (b - a) := fun a b => by rw [← Int.neg_sub a b, Int.neg_mul_neg]
  rw [hx, d6, Bool.true_and]
  unfold ballB
  refine ⟨⟨⟨?_, ?_⟩, ?_⟩, ?_⟩
  · exact beq_self_eq_true _
  · by_cases hb : decide (4 * ((x3 - x0) * (x3 - x0) + (x4 - x1) * (x4 - x1) + (x5 - x2) * (x5 - x2)) ≤ x6 * x6) = true
    · have hb' := of_decide_eq_true hb
      have r3 := half_le (d := x3 - x0) (s := x6) (by have := s6.1; omega) (by omega)
      have r4 := half_le (d := x4 - x1) (s := x6) (by have := s6.1; omega) (by omega)
      have r5 := half_le (d := x5 - x2) (s := x6) (by have := s6.1; omega) (by omega)
      have l3 := half_ge (d := x3 - x0) (s := x6) (by have := s6.1; omega) (by omega)
      have l4 := half_ge (d := x4 - x1) (s := x6) (by have := s6.1; omega) (by omega)
      have l5 := half_ge (d := x5 - x2) (s := x6) (by have := s6.1; omega) (by omega)
      refine .inr ⟨decide_eq_true (by simp only; omega), ?_⟩
      simp only
      omega
    · exact .inl hb
  · refine decide_eq_true ?_
    simp only [Int.sub_self]
    omega
  · simp only
    rw [sw x0 x3, sw x1 x4, sw x2 x5]
    exact beq_self_eq_true _

/-! ### The frame -/
theorem lawful (x : Nat → X) (h : XsOk ks 0 x) : (walkF Tryd.prog (cfG none L19a [] [] sumL) Tryd.f6 260 av).law { ρ0 with x := x } := by
  rw [link]
  have e : ks = [.int .i64, .int .i64, .int .i64, .int .i64, .int .i64, .int .i64, .int .i64, .int .i64, .int .u8] := by kernel_rfl
  rw [e] at h
  obtain ⟨k0, k1, k2, k3, k4, k5, k6, k7, k8, _⟩ := h
  exact lawP_ok _ _ _ _ _ _ _ _ _ ⟨k0.2.1, k0.2.2⟩ ⟨k1.2.1, k1.2.2⟩ ⟨k2.2.1, k2.2.2⟩ ⟨k3.2.1, k3.2.2⟩ ⟨k4.2.1, k4.2.2⟩ ⟨k5.2.1, k5.2.2⟩ ⟨k6.2.1, k6.2.2⟩ ⟨k7.2.1, k7.2.2⟩ ⟨k8.2.1, k8.2.2⟩
theorem shape {H : Type} {ds : List (DataW H)} (h : ds.length = 5) : Rows.brushBallsAreRoundSpec.fn H ds = { results := [.lit (.bool true)], args := ds } := by
  match ds, h with
  | [d1, d2, d3, d4, d5], _ => rfl
theorem calls {H : Type} {enc : TypeId × Value → H} (W : World) (base : Nat) (args : Array Value) (ds : List (DataW H)) (p : List MemPlace) (hval : ∀ (j : Nat) t v, Tryd.f6.params[j]? = some t → args[j]? = some v → Value.okWide Tryd.prog W .any base t v)
    (hA : DataW.TrodAll enc Tryd.prog W 0 (fun _ => true) true Tryd.f6.params.toList args.toList ds p) (hg : GlobOk ρ0.g W.heap.size W) : Calls Tryd.prog 6 args W fun e w' => e = .returned (.bool true) ∧ Below W.heap.size W w' := by
  rw [Tryd.params6] at hA hval
  have ha : argsS Tryd.prog [23, 23, 3, 3, 5] 0 = some (av, ks) := by kernel_rfl
  let x : Nat → X := fun j => ((args.toList.flatMap fun v => v.cells.toList).map valX).getD j (xI 0)
  obtain ⟨hv, hx⟩ := argsS_ok (ρ := { ρ0 with x := x }) (b0 := base) (r := .any) hA (fun i t v ht hv => hval i t v (by simpa using ht) (by simpa using hv)) ha (fun i v hi => by
    show ((args.toList.flatMap fun v => v.cells.toList).map valX).getD (0 + i) (xI 0) = valX v
    rw [Nat.zero_add, List.getD_eq_getElem?_getD, List.getElem?_map, hi]; rfl)
  have := law_calls ((L19a_ok).withX x) Tryd.func6 rfl 260 (vs := av) (us := args.toList) hg hv (lawful x hx)
  simpa using this
set_option maxRecDepth 100000 in
theorem lifted (os : Os) (started : os.Started) (H : Type) (enc : TypeId × Value → H) :
    ReturnsInHanded {} Tryd.checked os 6 .any (fun w args => (Rows.brushBallsAreRoundSpec.pre enc Tryd.prog Tryd.f6 [] false w args ∧ laidMetH Tryd.prog [("voxel/point.axes", Rows.laid_voxel_point_axes)] w) ∧ sizedMet enc Tryd.prog Tryd.f6 (OpenSpec.ofChange Rows.brushBallsAreRoundSpec) false w args)
      (Rows.brushBallsAreRoundSpec.post enc Tryd.prog Tryd.f6 false true false false) := by
  refine returnsInHanded_of_change_and (C := Tryd.checked) (X := fun w _ => laidMetH Tryd.prog [("voxel/point.axes", Rows.laid_voxel_point_axes)] w) (fun _ _ _ hh h => h.of_heap hh) own started (by kernel_rfl) Tryd.func6
    (ChangeSpec.witness_shaped (enc := enc) (C := Tryd.checked) (os := os) (X := fun w _ => laidMetH Tryd.prog [("voxel/point.axes", Rows.laid_voxel_point_axes)] w) false (World.doorLaid Tryd.prog 400 os) #[((Tryd.prog.info? 23).bind (·.zero)).getD undef, ((Tryd.prog.info? 23).bind (·.zero)).getD undef, ((Tryd.prog.info? 3).bind (·.zero)).getD undef, ((Tryd.prog.info? 3).bind (·.zero)).getD undef, ((Tryd.prog.info? 5).bind (·.zero)).getD undef] 8 rfl (World.shaped_of_RefB (by kernel_rfl) (by kernel_rfl)) (by kernel_rfl) (by kernel_rfl) (by kernel_rfl) (door_met os _)) ?_
  intro W base args ds gs before hval hW _ _ hL _
  have hW0 := hW
  obtain ⟨p, q, hA, hV, _⟩ := hW0
  have hlen : ds.length = 5 := (trodAll_len hA).trans (by kernel_rfl)
  refine (calls W base args ds p hval hA (glob_ok hL)).mono fun e W' ⟨he, hb⟩ => ?_
  subst he
  exact ⟨_, rfl, law_post kids slices (by rw [Tryd.params6]; decide +kernel) rfl rfl Tryd.underlying4 (shape hlen) hW hb⟩
theorem over : Rows.BrushBallsAreRoundSaid :=
  OpenClaim.holds_of_wide 6 Tryd.f6 rfl rfl rfl rfl rfl rfl rfl ⟨rfl, rfl, rfl, rfl, rfl⟩ rfl rfl rfl rfl rfl (by kernel_rfl) Tryd.func6 (by kernel_rfl)
    (of_decide_eq_true (by kernel_rfl)) (by unfold Func.isWrapper; first | (rw [if_pos (by decide +kernel)]; kernel_rfl) | (rw [if_neg (by decide +kernel)]; exact ⟨rfl, rfl⟩))
    (fun os started H enc _ => lifted os started H enc)

/-- The statement: the row, its listed variable tied to the program's text. -/
theorem proved : Rows.BrushBallsAreRoundCardSaid :=
  Claim7.holds_tied_plain_at .later [] [.data] true (true, "fb0e81cf4b9c8844a018cf37c2f05fe586486bc4df72dfad1e5961343b60e0a6") false
    over (fun _ h => by cases h) (by kernel_rfl) (fun _ h => by cases h) brushBallsAreRound_row_tie rfl ⟨rfl, rfl⟩ (by kernel_rfl) rfl
    (fun f fn hf hfn => by
      obtain rfl : f = 6 := Option.some.inj ((show Tryd.prog.funcNamed "voxel/voxellaw19.BrushBallsAreRound" = some 6 by kernel_rfl).symm.trans hf) |>.symm
      obtain rfl : fn = Tryd.f6 := (Option.some.inj (Tryd.func6.symm.trans hfn)).symm
      exact ⟨by kernel_rfl, fun j t ht => by
        rw [Tryd.params6] at ht
        have hm : t ∈ [23, 23, 3, 3, 5] := by simpa using Array.mem_of_getElem? ht
        have hall : ([23, 23, 3, 3, 5].all fun u => !Tryd.prog.wantsStandIn u) = true := by kernel_rfl
        exact (show Tryd.prog.wantsStandIn t = false by simpa using List.all_eq_true.1 hall t hm)⟩)
    (by kernel_rfl)
#print axioms proved
end Go.Proofs.YtipcadjfhndcnaaDoor.brushBallsAreRound
