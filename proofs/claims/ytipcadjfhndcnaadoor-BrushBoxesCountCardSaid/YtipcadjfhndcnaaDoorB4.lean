/- Proved: BrushBoxesCount: the statement 'BrushBoxesCountCardSaid' of this seat, for every input that it names; no condition besides. -/
import Derived.Test.YtipcadjfhndcnaaDoorC19S
import Derived.Test.YtipcadjfhndcnaaDoorRows
import Derived.Test.YtipcadjfhndcnaaDoorCards
import Derived.Test.YtipcadjfhndcnaaDoorTie
import Derived.SevenTiedAt
import Derived.ProofKit
import Derived.LaidMore
import Derived.Stop.Joined
namespace Go.Proofs.YtipcadjfhndcnaaDoor.brushBoxesCount
open Go Go.ChangeShapes Go.WideShapes Go.ChangeAt Go.RowKit Vc
set_option linter.unusedVariables false


/-- The law's walk, as the machine leaves it. -/
def lawP (x0 : Int) (x1 : Int) (x2 : Int) (x3 : Int) (x4 : Int) (x5 : Int) (x6 : Int) (x7 : Int) (x8 : Int) (x9 : Int) (x10 : Int) (x11 : Int) : Prop :=
  (
   ((¬ (((((-1048575) ≤ x0) ∧ (x0 ≤ 1048575)) ∧ (((-1048575) ≤ x1) ∧ (x1 ≤ 1048575))) ∧ (((-1048575) ≤ x2) ∧ (x2 ≤ 1048575)))) →
    (true = true))
  ∧
   ((((((-1048575) ≤ x0) ∧ (x0 ≤ 1048575)) ∧ (((-1048575) ≤ x1) ∧ (x1 ≤ 1048575))) ∧ (((-1048575) ≤ x2) ∧ (x2 ≤ 1048575))) →
    (
     ((¬ (((((-1048575) ≤ x3) ∧ (x3 ≤ 1048575)) ∧ (((-1048575) ≤ x4) ∧ (x4 ≤ 1048575))) ∧ (((-1048575) ≤ x5) ∧ (x5 ≤ 1048575)))) →
      (true = true))
    ∧
     ((((((-1048575) ≤ x3) ∧ (x3 ≤ 1048575)) ∧ (((-1048575) ≤ x4) ∧ (x4 ≤ 1048575))) ∧ (((-1048575) ≤ x5) ∧ (x5 ≤ 1048575))) →
      (
       ((¬ (((((-1048575) ≤ x6) ∧ (x6 ≤ 1048575)) ∧ (((-1048575) ≤ x7) ∧ (x7 ≤ 1048575))) ∧ (((-1048575) ≤ x8) ∧ (x8 ≤ 1048575)))) →
        (true = true))
      ∧
       ((((((-1048575) ≤ x6) ∧ (x6 ≤ 1048575)) ∧ (((-1048575) ≤ x7) ∧ (x7 ≤ 1048575))) ∧ (((-1048575) ≤ x8) ∧ (x8 ≤ 1048575))) →
        (
         ((¬ (((((-1048575) ≤ x9) ∧ (x9 ≤ 1048575)) ∧ (((-1048575) ≤ x10) ∧ (x10 ≤ 1048575))) ∧ (((-1048575) ≤ x11) ∧ (x11 ≤ 1048575)))) →
          (true = true))
        ∧
         ((((((-1048575) ≤ x9) ∧ (x9 ≤ 1048575)) ∧ (((-1048575) ≤ x10) ∧ (x10 ≤ 1048575))) ∧ (((-1048575) ≤ x11) ∧ (x11 ≤ 1048575))) →
          (
           ((32768 < (Ff 210 [(xI ((Ff 220 [(xI (x0 + 0)), (xI (x1 + 0)), (xI (x2 + 0)), (xI (x3 + 0)), (xI (x4 + 0)), (xI (x5 + 0)), (xI (x6 + 0)), (xI (x7 + 0)), (xI (x8 + 0)), (xI (x9 + 0)), (xI (x10 + 0)), (xI (x11 + 0))]).i + 0)), (xI ((Ff 221 [(xI (x0 + 0)), (xI (x1 + 0)), (xI (x2 + 0)), (xI (x3 + 0)), (xI (x4 + 0)), (xI (x5 + 0)), (xI (x6 + 0)), (xI (x7 + 0)), (xI (x8 + 0)), (xI (x9 + 0)), (xI (x10 + 0)), (xI (x11 + 0))]).i + 0)), (xI ((Ff 222 [(xI (x0 + 0)), (xI (x1 + 0)), (xI (x2 + 0)), (xI (x3 + 0)), (xI (x4 + 0)), (xI (x5 + 0)), (xI (x6 + 0)), (xI (x7 + 0)), (xI (x8 + 0)), (xI (x9 + 0)), (xI (x10 + 0)), (xI (x11 + 0))]).i + 0)), (xI ((Ff 223 [(xI (x0 + 0)), (xI (x1 + 0)), (xI (x2 + 0)), (xI (x3 + 0)), (xI (x4 + 0)), (xI (x5 + 0)), (xI (x6 + 0)), (xI (x7 + 0)), (xI (x8 + 0)), (xI (x9 + 0)), (xI (x10 + 0)), (xI (x11 + 0))]).i + 0)), (xI ((Ff 224 [(xI (x0 + 0)), (xI (x1 + 0)), (xI (x2 + 0)), (xI (x3 + 0)), (xI (x4 + 0)), (xI (x5 + 0)), (xI (x6 + 0)), (xI (x7 + 0)), (xI (x8 + 0)), (xI (x9 + 0)), (xI (x10 + 0)), (xI (x11 + 0))]).i + 0)), (xI ((Ff 225 [(xI (x0 + 0)), (xI (x1 + 0)), (xI (x2 + 0)), (xI (x3 + 0)), (xI (x4 + 0)), (xI (x5 + 0)), (xI (x6 + 0)), (xI (x7 + 0)), (xI (x8 + 0)), (xI (x9 + 0)), (xI (x10 + 0)), (xI (x11 + 0))]).i + 0))]).i) →
            (((Ff 401 [(xI (x0 + 0)), (xI (x1 + 0)), (xI (x2 + 0)), (xI (x3 + 0)), (xI (x4 + 0)), (xI (x5 + 0)), (xI (x6 + 0)), (xI (x7 + 0)), (xI (x8 + 0)), (xI (x9 + 0)), (xI (x10 + 0)), (xI (x11 + 0))]).i = 2) ∧ ((Ff 400 [(xI (x0 + 0)), (xI (x1 + 0)), (xI (x2 + 0)), (xI (x3 + 0)), (xI (x4 + 0)), (xI (x5 + 0)), (xI (x6 + 0)), (xI (x7 + 0)), (xI (x8 + 0)), (xI (x9 + 0)), (xI (x10 + 0)), (xI (x11 + 0))]).i = 0)))
          ∧
           ((¬ (32768 < (Ff 210 [(xI ((Ff 220 [(xI (x0 + 0)), (xI (x1 + 0)), (xI (x2 + 0)), (xI (x3 + 0)), (xI (x4 + 0)), (xI (x5 + 0)), (xI (x6 + 0)), (xI (x7 + 0)), (xI (x8 + 0)), (xI (x9 + 0)), (xI (x10 + 0)), (xI (x11 + 0))]).i + 0)), (xI ((Ff 221 [(xI (x0 + 0)), (xI (x1 + 0)), (xI (x2 + 0)), (xI (x3 + 0)), (xI (x4 + 0)), (xI (x5 + 0)), (xI (x6 + 0)), (xI (x7 + 0)), (xI (x8 + 0)), (xI (x9 + 0)), (xI (x10 + 0)), (xI (x11 + 0))]).i + 0)), (xI ((Ff 222 [(xI (x0 + 0)), (xI (x1 + 0)), (xI (x2 + 0)), (xI (x3 + 0)), (xI (x4 + 0)), (xI (x5 + 0)), (xI (x6 + 0)), (xI (x7 + 0)), (xI (x8 + 0)), (xI (x9 + 0)), (xI (x10 + 0)), (xI (x11 + 0))]).i + 0)), (xI ((Ff 223 [(xI (x0 + 0)), (xI (x1 + 0)), (xI (x2 + 0)), (xI (x3 + 0)), (xI (x4 + 0)), (xI (x5 + 0)), (xI (x6 + 0)), (xI (x7 + 0)), (xI (x8 + 0)), (xI (x9 + 0)), (xI (x10 + 0)), (xI (x11 + 0))]).i + 0)), (xI ((Ff 224 [(xI (x0 + 0)), (xI (x1 + 0)), (xI (x2 + 0)), (xI (x3 + 0)), (xI (x4 + 0)), (xI (x5 + 0)), (xI (x6 + 0)), (xI (x7 + 0)), (xI (x8 + 0)), (xI (x9 + 0)), (xI (x10 + 0)), (xI (x11 + 0))]).i + 0)), (xI ((Ff 225 [(xI (x0 + 0)), (xI (x1 + 0)), (xI (x2 + 0)), (xI (x3 + 0)), (xI (x4 + 0)), (xI (x5 + 0)), (xI (x6 + 0)), (xI (x7 + 0)), (xI (x8 + 0)), (xI (x9 + 0)), (xI (x10 + 0)), (xI (x11 + 0))]).i + 0))]).i)) →
            (((Ff 401 [(xI (x0 + 0)), (xI (x1 + 0)), (xI (x2 + 0)), (xI (x3 + 0)), (xI (x4 + 0)), (xI (x5 + 0)), (xI (x6 + 0)), (xI (x7 + 0)), (xI (x8 + 0)), (xI (x9 + 0)), (xI (x10 + 0)), (xI (x11 + 0))]).i = 0) ∧ ((Ff 400 [(xI (x0 + 0)), (xI (x1 + 0)), (xI (x2 + 0)), (xI (x3 + 0)), (xI (x4 + 0)), (xI (x5 + 0)), (xI (x6 + 0)), (xI (x7 + 0)), (xI (x8 + 0)), (xI (x9 + 0)), (xI (x10 + 0)), (xI (x11 + 0))]).i = (Ff 210 [(xI ((Ff 220 [(xI (x0 + 0)), (xI (x1 + 0)), (xI (x2 + 0)), (xI (x3 + 0)), (xI (x4 + 0)), (xI (x5 + 0)), (xI (x6 + 0)), (xI (x7 + 0)), (xI (x8 + 0)), (xI (x9 + 0)), (xI (x10 + 0)), (xI (x11 + 0))]).i + 0)), (xI ((Ff 221 [(xI (x0 + 0)), (xI (x1 + 0)), (xI (x2 + 0)), (xI (x3 + 0)), (xI (x4 + 0)), (xI (x5 + 0)), (xI (x6 + 0)), (xI (x7 + 0)), (xI (x8 + 0)), (xI (x9 + 0)), (xI (x10 + 0)), (xI (x11 + 0))]).i + 0)), (xI ((Ff 222 [(xI (x0 + 0)), (xI (x1 + 0)), (xI (x2 + 0)), (xI (x3 + 0)), (xI (x4 + 0)), (xI (x5 + 0)), (xI (x6 + 0)), (xI (x7 + 0)), (xI (x8 + 0)), (xI (x9 + 0)), (xI (x10 + 0)), (xI (x11 + 0))]).i + 0)), (xI ((Ff 223 [(xI (x0 + 0)), (xI (x1 + 0)), (xI (x2 + 0)), (xI (x3 + 0)), (xI (x4 + 0)), (xI (x5 + 0)), (xI (x6 + 0)), (xI (x7 + 0)), (xI (x8 + 0)), (xI (x9 + 0)), (xI (x10 + 0)), (xI (x11 + 0))]).i + 0)), (xI ((Ff 224 [(xI (x0 + 0)), (xI (x1 + 0)), (xI (x2 + 0)), (xI (x3 + 0)), (xI (x4 + 0)), (xI (x5 + 0)), (xI (x6 + 0)), (xI (x7 + 0)), (xI (x8 + 0)), (xI (x9 + 0)), (xI (x10 + 0)), (xI (x11 + 0))]).i + 0)), (xI ((Ff 225 [(xI (x0 + 0)), (xI (x1 + 0)), (xI (x2 + 0)), (xI (x3 + 0)), (xI (x4 + 0)), (xI (x5 + 0)), (xI (x6 + 0)), (xI (x7 + 0)), (xI (x8 + 0)), (xI (x9 + 0)), (xI (x10 + 0)), (xI (x11 + 0))]).i + 0))]).i))))))))))))
noncomputable def av : List SV := match argsS Tryd.prog [25, 25] 0 with | some (vs, _) => vs | none => []
noncomputable def ks : List Lf := match argsS Tryd.prog [25, 25] 0 with | some (_, ks) => ks | none => []
theorem link (x : Nat → X) : (walkF Tryd.prog (cfG none L19 R19 [] sumL) Tryd.f8 230 av).law { ρ0 with x := x } = lawP (x 0).i (x 1).i (x 2).i (x 3).i (x 4).i (x 5).i (x 6).i (x 7).i (x 8).i (x 9).i (x 10).i (x 11).i := by kernel_rfl
set_option maxHeartbeats 1000000 in
theorem lawP_ok (x0 : Int) (x1 : Int) (x2 : Int) (x3 : Int) (x4 : Int) (x5 : Int) (x6 : Int) (x7 : Int) (x8 : Int) (x9 : Int) (x10 : Int) (x11 : Int) (h0 : -9223372036854775808 ≤ x0 ∧ x0 ≤ 9223372036854775807) (h1 : -9223372036854775808 ≤ x1 ∧ x1 ≤ 9223372036854775807) (h2 : -9223372036854775808 ≤ x2 ∧ x2 ≤ 9223372036854775807) (h3 : -9223372036854775808 ≤ x3 ∧ x3 ≤ 9223372036854775807) (h4 : -9223372036854775808 ≤ x4 ∧ x4 ≤ 9223372036854775807) (h5 : -9223372036854775808 ≤ x5 ∧ x5 ≤ 9223372036854775807) (h6 : -9223372036854775808 ≤ x6 ∧ x6 ≤ 9223372036854775807) (h7 : -9223372036854775808 ≤ x7 ∧ x7 ≤ 9223372036854775807) (h8 : -9223372036854775808 ≤ x8 ∧ x8 ≤ 9223372036854775807) (h9 : -9223372036854775808 ≤ x9 ∧ x9 ≤ 9223372036854775807) (h10 : -9223372036854775808 ≤ x10 ∧ x10 ≤ 9223372036854775807) (h11 : -9223372036854775808 ≤ x11 ∧ x11 ≤ 9223372036854775807) : lawP x0 x1 x2 x3 x4 x5 x6 x7 x8 x9 x10 x11 := by
  have key : ∀ p : Bx, (32768 < p.vol → lsE (fun _ => true) p = 2 ∧ ((lsL (fun _ => true) p).length : Int) = 0) ∧ (¬ 32768 < p.vol → lsE (fun _ => true) p = 0 ∧ ((lsL (fun _ => true) p).length : Int) = p.vol) := fun p => by
    rw [lsL_true, lsE_true]
    have := p.vol_nn
    refine ⟨fun h => ?_, fun h => ?_⟩
    · rw [if_neg (by omega), if_neg (by omega)]; exact ⟨rfl, rfl⟩
    · rw [if_pos (by omega), if_pos (by omega)]; exact ⟨rfl, by rw [cellsB_len]; omega⟩
  unfold lawP
  simp only [Int.add_zero, xI_i, F220, F221, F222, F223, F224, F225, F210, itB_a, itB_b, itB_c, itB_d, itB_e, itB_f, Bx_vol, F400, F401, rowG_i]
  repeat' (first | exact key _ | refine ⟨fun _ => by trivial, fun _ => ?_⟩)

/-! ### The frame -/
theorem lawful (x : Nat → X) (h : XsOk ks 0 x) : (walkF Tryd.prog (cfG none L19 R19 [] sumL) Tryd.f8 230 av).law { ρ0 with x := x } := by
  rw [link]
  have e : ks = [.int .i64, .int .i64, .int .i64, .int .i64, .int .i64, .int .i64, .int .i64, .int .i64, .int .i64, .int .i64, .int .i64, .int .i64] := by kernel_rfl
  rw [e] at h
  obtain ⟨k0, k1, k2, k3, k4, k5, k6, k7, k8, k9, k10, k11, _⟩ := h
  exact lawP_ok _ _ _ _ _ _ _ _ _ _ _ _ ⟨k0.2.1, k0.2.2⟩ ⟨k1.2.1, k1.2.2⟩ ⟨k2.2.1, k2.2.2⟩ ⟨k3.2.1, k3.2.2⟩ ⟨k4.2.1, k4.2.2⟩ ⟨k5.2.1, k5.2.2⟩ ⟨k6.2.1, k6.2.2⟩ ⟨k7.2.1, k7.2.2⟩ ⟨k8.2.1, k8.2.2⟩ ⟨k9.2.1, k9.2.2⟩ ⟨k10.2.1, k10.2.2⟩ ⟨k11.2.1, k11.2.2⟩
theorem shape {H : Type} {ds : List (DataW H)} (h : ds.length = 2) : Rows.brushBoxesCountSpec.fn H ds = { results := [.lit (.bool true)], args := ds } := by
  match ds, h with
  | [d1, d2], _ => rfl
theorem calls {H : Type} {enc : TypeId × Value → H} (W : World) (base : Nat) (args : Array Value) (ds : List (DataW H)) (p : List MemPlace) (hval : ∀ (j : Nat) t v, Tryd.f8.params[j]? = some t → args[j]? = some v → Value.okWide Tryd.prog W .any base t v)
    (hA : DataW.TrodAll enc Tryd.prog W 0 (fun _ => true) true Tryd.f8.params.toList args.toList ds p) (hg : GlobOk ρ0.g W.heap.size W) : Calls Tryd.prog 8 args W fun e w' => e = .returned (.bool true) ∧ Below W.heap.size W w' := by
  rw [Tryd.params8] at hA hval
  have ha : argsS Tryd.prog [25, 25] 0 = some (av, ks) := by kernel_rfl
  let x : Nat → X := fun j => ((args.toList.flatMap fun v => v.cells.toList).map valX).getD j (xI 0)
  obtain ⟨hv, hx⟩ := argsS_ok (ρ := { ρ0 with x := x }) (b0 := base) (r := .any) hA (fun i t v ht hv => hval i t v (by simpa using ht) (by simpa using hv)) ha (fun i v hi => by
    show ((args.toList.flatMap fun v => v.cells.toList).map valX).getD (0 + i) (xI 0) = valX v
    rw [Nat.zero_add, List.getD_eq_getElem?_getD, List.getElem?_map, hi]; rfl)
  have := law_calls ((L19_ok).withX x) Tryd.func8 rfl 230 (vs := av) (us := args.toList) hg hv (lawful x hx)
  simpa using this
set_option maxRecDepth 100000 in
theorem lifted (os : Os) (started : os.Started) (H : Type) (enc : TypeId × Value → H) :
    ReturnsInHanded {} Tryd.checked os 8 .any (fun w args => (Rows.brushBoxesCountSpec.pre enc Tryd.prog Tryd.f8 [] false w args ∧ laidMetH Tryd.prog [("voxel/point.axes", Rows.laid_voxel_point_axes)] w) ∧ sizedMet enc Tryd.prog Tryd.f8 (OpenSpec.ofChange Rows.brushBoxesCountSpec) false w args)
      (Rows.brushBoxesCountSpec.post enc Tryd.prog Tryd.f8 false true false false) := by
  refine returnsInHanded_of_change_and (C := Tryd.checked) (X := fun w _ => laidMetH Tryd.prog [("voxel/point.axes", Rows.laid_voxel_point_axes)] w) (fun _ _ _ hh h => h.of_heap hh) own started (by kernel_rfl) Tryd.func8
    (ChangeSpec.witness_shaped (enc := enc) (C := Tryd.checked) (os := os) (X := fun w _ => laidMetH Tryd.prog [("voxel/point.axes", Rows.laid_voxel_point_axes)] w) false (World.doorLaid Tryd.prog 400 os) #[((Tryd.prog.info? 25).bind (·.zero)).getD undef, ((Tryd.prog.info? 25).bind (·.zero)).getD undef] 8 rfl (World.shaped_of_RefB (by kernel_rfl) (by kernel_rfl)) (by kernel_rfl) (by kernel_rfl) (by kernel_rfl) (door_met os _)) ?_
  intro W base args ds gs before hval hW _ _ hL _
  have hW0 := hW
  obtain ⟨p, q, hA, hV, _⟩ := hW0
  have hlen : ds.length = 2 := (trodAll_len hA).trans (by kernel_rfl)
  refine (calls W base args ds p hval hA (glob_ok hL)).mono fun e W' ⟨he, hb⟩ => ?_
  subst he
  exact ⟨_, rfl, law_post kids slices (by rw [Tryd.params8]; decide +kernel) rfl rfl Tryd.underlying4 (shape hlen) hW hb⟩
theorem over : Rows.BrushBoxesCountSaid :=
  OpenClaim.holds_of_wide 8 Tryd.f8 rfl rfl rfl rfl rfl rfl rfl ⟨rfl, rfl, rfl, rfl, rfl⟩ rfl rfl rfl rfl rfl (by kernel_rfl) Tryd.func8 (by kernel_rfl)
    (of_decide_eq_true (by kernel_rfl)) (by unfold Func.isWrapper; first | (rw [if_pos (by decide +kernel)]; kernel_rfl) | (rw [if_neg (by decide +kernel)]; exact ⟨rfl, rfl⟩))
    (fun os started H enc _ => lifted os started H enc)

/-- The statement: the row, its listed variable tied to the program's text. -/
theorem proved : Rows.BrushBoxesCountCardSaid :=
  Claim7.holds_tied_plain_at .later [] [.data] true (true, "fb0e81cf4b9c8844a018cf37c2f05fe586486bc4df72dfad1e5961343b60e0a6") false
    over (fun _ h => by cases h) (by kernel_rfl) (fun _ h => by cases h) brushBoxesCount_row_tie rfl ⟨rfl, rfl⟩ (by kernel_rfl) rfl
    (fun f fn hf hfn => by
      obtain rfl : f = 8 := Option.some.inj ((show Tryd.prog.funcNamed "voxel/voxellaw19.BrushBoxesCount" = some 8 by kernel_rfl).symm.trans hf) |>.symm
      obtain rfl : fn = Tryd.f8 := (Option.some.inj (Tryd.func8.symm.trans hfn)).symm
      exact ⟨by kernel_rfl, fun j t ht => by
        rw [Tryd.params8] at ht
        have hm : t ∈ [25, 25] := by simpa using Array.mem_of_getElem? ht
        have hall : ([25, 25].all fun u => !Tryd.prog.wantsStandIn u) = true := by kernel_rfl
        exact (show Tryd.prog.wantsStandIn t = false by simpa using List.all_eq_true.1 hall t hm)⟩)
    (by kernel_rfl)
#print axioms proved
end Go.Proofs.YtipcadjfhndcnaaDoor.brushBoxesCount
