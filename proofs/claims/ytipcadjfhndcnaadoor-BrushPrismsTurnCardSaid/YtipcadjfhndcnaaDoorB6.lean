/- Proved: BrushPrismsTurn: the statement 'BrushPrismsTurnCardSaid' of this seat, for every input that it names; no condition besides. -/
import Derived.Test.YtipcadjfhndcnaaDoorC19T
import Derived.Test.YtipcadjfhndcnaaDoorRows
import Derived.Test.YtipcadjfhndcnaaDoorCards
import Derived.Test.YtipcadjfhndcnaaDoorTie
import Derived.SevenTiedAt
import Derived.ProofKit
import Derived.LaidMore
import Derived.Stop.Joined
namespace Go.Proofs.YtipcadjfhndcnaaDoor.brushPrismsTurn
open Go Go.ChangeShapes Go.WideShapes Go.ChangeAt Go.RowKit Vc
set_option linter.unusedVariables false

theorem inter_self {p : Bx} (h : neB p.a p.b p.c p.d p.e p.f) : p.inter p = p := by
  obtain ⟨a, b, c, d, e, f⟩ := p
  unfold Bx.inter itB
  simp only [Int.max_self, Int.min_self, if_pos h]
theorem prm_count {p : Bx} {t : Int} (ht : inT t) (hv : ¬ 4000 < p.vol) : (lsE (prmB p t) (p.inter p) = 0 ∧ p.vol ≤ 2 * ((lsL (prmB p t) (p.inter p)).length : Int)) ∧ ((lsL (prmB p t) (p.inter p)).length : Int) ≤ p.vol := by
  have iv := inter_vol p p
  have few := few_lsL (has := prmB p t) (p := p.inter p) (by omega)
  rw [few.1, few.2]
  have vn := p.vol_nn
  by_cases hn : neB p.a p.b p.c p.d p.e p.f
  · rw [inter_self hn]
    have h1 := prm_half (p := p) (iv_inT ht)
    have h2 := List.length_filter_le (prmB p t) (cellsB p)
    rw [cellsB_len] at h1 h2
    refine ⟨⟨rfl, ?_⟩, ?_⟩ <;> omega
  · have hz : p.vol = 0 := vol_zero hn
    have h2 := List.length_filter_le (prmB p t) (cellsB (p.inter p))
    rw [cellsB_len] at h2
    have vm := (p.inter p).vol_nn
    refine ⟨⟨rfl, ?_⟩, ?_⟩ <;> omega

/-- The law's walk, as the machine leaves it. -/
def lawP (x0 : Int) (x1 : Int) (x2 : Int) (x3 : Int) (x4 : Int) (x5 : Int) (x6 : Int) (x7 : Int) (x8 : Int) (x9 : Int) (x10 : Int) : Prop :=
  (
   ((¬ (((((-300000) ≤ x0) ∧ (x0 < 300001)) ∧ (((-300000) ≤ x1) ∧ (x1 < 300001))) ∧ (((-300000) ≤ x2) ∧ (x2 < 300001)))) →
    (true = true))
  ∧
   ((((((-300000) ≤ x0) ∧ (x0 < 300001)) ∧ (((-300000) ≤ x1) ∧ (x1 < 300001))) ∧ (((-300000) ≤ x2) ∧ (x2 < 300001))) →
    (
     ((¬ (((((-300000) ≤ x3) ∧ (x3 < 300001)) ∧ (((-300000) ≤ x4) ∧ (x4 < 300001))) ∧ (((-300000) ≤ x5) ∧ (x5 < 300001)))) →
      (true = true))
    ∧
     ((((((-300000) ≤ x3) ∧ (x3 < 300001)) ∧ (((-300000) ≤ x4) ∧ (x4 < 300001))) ∧ (((-300000) ≤ x5) ∧ (x5 < 300001))) →
      (
       ((¬ (((((-300000) ≤ x6) ∧ (x6 < 300001)) ∧ (((-300000) ≤ x7) ∧ (x7 < 300001))) ∧ (((-300000) ≤ x8) ∧ (x8 < 300001)))) →
        (true = true))
      ∧
       ((((((-300000) ≤ x6) ∧ (x6 < 300001)) ∧ (((-300000) ≤ x7) ∧ (x7 < 300001))) ∧ (((-300000) ≤ x8) ∧ (x8 < 300001))) →
        (
         ((¬ (((Ff 421 [(xI (x0 + 0)), (xI (x1 + 0)), (xI (x2 + 0)), (xI (x3 + 0)), (xI (x4 + 0)), (xI (x5 + 0)), (xI ((x9 % 48) + 0)), (xI (x6 + 0)), (xI (x7 + 0)), (xI (x8 + 0))]).b == (Ff 421 [(xI ((Ff 300 [(xI ((x10 % 48) + 0)), (xI (x0 + 0)), (xI (x1 + 0)), (xI (x2 + 0)), (xI (x3 + 0)), (xI (x4 + 0)), (xI (x5 + 0))]).i + 0)), (xI ((Ff 301 [(xI ((x10 % 48) + 0)), (xI (x0 + 0)), (xI (x1 + 0)), (xI (x2 + 0)), (xI (x3 + 0)), (xI (x4 + 0)), (xI (x5 + 0))]).i + 0)), (xI ((Ff 302 [(xI ((x10 % 48) + 0)), (xI (x0 + 0)), (xI (x1 + 0)), (xI (x2 + 0)), (xI (x3 + 0)), (xI (x4 + 0)), (xI (x5 + 0))]).i + 0)), (xI ((Ff 303 [(xI ((x10 % 48) + 0)), (xI (x0 + 0)), (xI (x1 + 0)), (xI (x2 + 0)), (xI (x3 + 0)), (xI (x4 + 0)), (xI (x5 + 0))]).i + 0)), (xI ((Ff 304 [(xI ((x10 % 48) + 0)), (xI (x0 + 0)), (xI (x1 + 0)), (xI (x2 + 0)), (xI (x3 + 0)), (xI (x4 + 0)), (xI (x5 + 0))]).i + 0)), (xI ((Ff 305 [(xI ((x10 % 48) + 0)), (xI (x0 + 0)), (xI (x1 + 0)), (xI (x2 + 0)), (xI (x3 + 0)), (xI (x4 + 0)), (xI (x5 + 0))]).i + 0)), (xI ((Ff 310 [(xI ((x10 % 48) + 0)), (xI ((x9 % 48) + 0))]).i + 0)), (xI ((Ff 293 [(xI ((x10 % 48) + 0)), (xI (x6 + 0)), (xI (x7 + 0)), (xI (x8 + 0))]).i + 0)), (xI ((Ff 294 [(xI ((x10 % 48) + 0)), (xI (x6 + 0)), (xI (x7 + 0)), (xI (x8 + 0))]).i + 0)), (xI ((Ff 295 [(xI ((x10 % 48) + 0)), (xI (x6 + 0)), (xI (x7 + 0)), (xI (x8 + 0))]).i + 0))]).b) = true)) →
          (false = true))
        ∧
         ((((Ff 421 [(xI (x0 + 0)), (xI (x1 + 0)), (xI (x2 + 0)), (xI (x3 + 0)), (xI (x4 + 0)), (xI (x5 + 0)), (xI ((x9 % 48) + 0)), (xI (x6 + 0)), (xI (x7 + 0)), (xI (x8 + 0))]).b == (Ff 421 [(xI ((Ff 300 [(xI ((x10 % 48) + 0)), (xI (x0 + 0)), (xI (x1 + 0)), (xI (x2 + 0)), (xI (x3 + 0)), (xI (x4 + 0)), (xI (x5 + 0))]).i + 0)), (xI ((Ff 301 [(xI ((x10 % 48) + 0)), (xI (x0 + 0)), (xI (x1 + 0)), (xI (x2 + 0)), (xI (x3 + 0)), (xI (x4 + 0)), (xI (x5 + 0))]).i + 0)), (xI ((Ff 302 [(xI ((x10 % 48) + 0)), (xI (x0 + 0)), (xI (x1 + 0)), (xI (x2 + 0)), (xI (x3 + 0)), (xI (x4 + 0)), (xI (x5 + 0))]).i + 0)), (xI ((Ff 303 [(xI ((x10 % 48) + 0)), (xI (x0 + 0)), (xI (x1 + 0)), (xI (x2 + 0)), (xI (x3 + 0)), (xI (x4 + 0)), (xI (x5 + 0))]).i + 0)), (xI ((Ff 304 [(xI ((x10 % 48) + 0)), (xI (x0 + 0)), (xI (x1 + 0)), (xI (x2 + 0)), (xI (x3 + 0)), (xI (x4 + 0)), (xI (x5 + 0))]).i + 0)), (xI ((Ff 305 [(xI ((x10 % 48) + 0)), (xI (x0 + 0)), (xI (x1 + 0)), (xI (x2 + 0)), (xI (x3 + 0)), (xI (x4 + 0)), (xI (x5 + 0))]).i + 0)), (xI ((Ff 310 [(xI ((x10 % 48) + 0)), (xI ((x9 % 48) + 0))]).i + 0)), (xI ((Ff 293 [(xI ((x10 % 48) + 0)), (xI (x6 + 0)), (xI (x7 + 0)), (xI (x8 + 0))]).i + 0)), (xI ((Ff 294 [(xI ((x10 % 48) + 0)), (xI (x6 + 0)), (xI (x7 + 0)), (xI (x8 + 0))]).i + 0)), (xI ((Ff 295 [(xI ((x10 % 48) + 0)), (xI (x6 + 0)), (xI (x7 + 0)), (xI (x8 + 0))]).i + 0))]).b) = true) →
          (
           ((4000 < (Ff 210 [(xI (x0 + 0)), (xI (x1 + 0)), (xI (x2 + 0)), (xI (x3 + 0)), (xI (x4 + 0)), (xI (x5 + 0))]).i) →
            (true = true))
          ∧
           ((¬ (4000 < (Ff 210 [(xI (x0 + 0)), (xI (x1 + 0)), (xI (x2 + 0)), (xI (x3 + 0)), (xI (x4 + 0)), (xI (x5 + 0))]).i)) →
            ((((Ff 405 [(xI (x0 + 0)), (xI (x1 + 0)), (xI (x2 + 0)), (xI (x3 + 0)), (xI (x4 + 0)), (xI (x5 + 0)), (xI ((x9 % 48) + 0)), (xI (x0 + 0)), (xI (x1 + 0)), (xI (x2 + 0)), (xI (x3 + 0)), (xI (x4 + 0)), (xI (x5 + 0))]).i = 0) ∧ ((Ff 210 [(xI (x0 + 0)), (xI (x1 + 0)), (xI (x2 + 0)), (xI (x3 + 0)), (xI (x4 + 0)), (xI (x5 + 0))]).i ≤ (2 * (Ff 404 [(xI (x0 + 0)), (xI (x1 + 0)), (xI (x2 + 0)), (xI (x3 + 0)), (xI (x4 + 0)), (xI (x5 + 0)), (xI ((x9 % 48) + 0)), (xI (x0 + 0)), (xI (x1 + 0)), (xI (x2 + 0)), (xI (x3 + 0)), (xI (x4 + 0)), (xI (x5 + 0))]).i))) ∧ ((Ff 404 [(xI (x0 + 0)), (xI (x1 + 0)), (xI (x2 + 0)), (xI (x3 + 0)), (xI (x4 + 0)), (xI (x5 + 0)), (xI ((x9 % 48) + 0)), (xI (x0 + 0)), (xI (x1 + 0)), (xI (x2 + 0)), (xI (x3 + 0)), (xI (x4 + 0)), (xI (x5 + 0))]).i ≤ (Ff 210 [(xI (x0 + 0)), (xI (x1 + 0)), (xI (x2 + 0)), (xI (x3 + 0)), (xI (x4 + 0)), (xI (x5 + 0))]).i))))))))))))
noncomputable def av : List SV := match argsS Tryd.prog [25, 23, 5, 5] 0 with | some (vs, _) => vs | none => []
noncomputable def ks : List Lf := match argsS Tryd.prog [25, 23, 5, 5] 0 with | some (_, ks) => ks | none => []
theorem link (x : Nat → X) : (walkF Tryd.prog (cfG none L19p R19 [] sumL) Tryd.f7 320 av).law { ρ0 with x := x } = lawP (x 0).i (x 1).i (x 2).i (x 3).i (x 4).i (x 5).i (x 6).i (x 7).i (x 8).i (x 9).i (x 10).i := by kernel_rfl
set_option maxHeartbeats 1000000 in
theorem lawP_ok (x0 : Int) (x1 : Int) (x2 : Int) (x3 : Int) (x4 : Int) (x5 : Int) (x6 : Int) (x7 : Int) (x8 : Int) (x9 : Int) (x10 : Int) (h0 : -9223372036854775808 ≤ x0 ∧ x0 ≤ 9223372036854775807) (h1 : -9223372036854775808 ≤ x1 ∧ x1 ≤ 9223372036854775807) (h2 : -9223372036854775808 ≤ x2 ∧ x2 ≤ 9223372036854775807) (h3 : -9223372036854775808 ≤ x3 ∧ x3 ≤ 9223372036854775807) (h4 : -9223372036854775808 ≤ x4 ∧ x4 ≤ 9223372036854775807) (h5 : -9223372036854775808 ≤ x5 ∧ x5 ≤ 9223372036854775807) (h6 : -9223372036854775808 ≤ x6 ∧ x6 ≤ 9223372036854775807) (h7 : -9223372036854775808 ≤ x7 ∧ x7 ≤ 9223372036854775807) (h8 : -9223372036854775808 ≤ x8 ∧ x8 ≤ 9223372036854775807) (h9 : 0 ≤ x9 ∧ x9 ≤ 255) (h10 : 0 ≤ x10 ∧ x10 ≤ 255) : lawP x0 x1 x2 x3 x4 x5 x6 x7 x8 x9 x10 := by
  unfold lawP
  have ht : inT (x9 % 48) := by unfold inT; omega
  have hs : inT (x10 % 48) := by unfold inT; omega
  simp only [Int.add_zero, G300, G301, G302, G303, G304, G305, G310, G293, G294, G295, G421, G210, G404, G405, xI_i, xB_b, rowG_i, if_pos ht]
  rw [inPrm_turn hs ht]
  refine ⟨fun _ => by trivial, fun _ => ⟨fun _ => by trivial, fun _ => ⟨fun _ => by trivial, fun _ => ⟨fun h => absurd (beq_self_eq_true _) h, fun _ => ⟨fun _ => by trivial, fun hv => ?_⟩⟩⟩⟩⟩
  exact prm_count (p := ⟨x0, x1, x2, x3, x4, x5⟩) ht hv

/-! ### The frame -/
theorem lawful (x : Nat → X) (h : XsOk ks 0 x) : (walkF Tryd.prog (cfG none L19p R19 [] sumL) Tryd.f7 320 av).law { ρ0 with x := x } := by
  rw [link]
  have e : ks = [.int .i64, .int .i64, .int .i64, .int .i64, .int .i64, .int .i64, .int .i64, .int .i64, .int .i64, .int .u8, .int .u8] := by kernel_rfl
  rw [e] at h
  obtain ⟨k0, k1, k2, k3, k4, k5, k6, k7, k8, k9, k10, _⟩ := h
  exact lawP_ok _ _ _ _ _ _ _ _ _ _ _ ⟨k0.2.1, k0.2.2⟩ ⟨k1.2.1, k1.2.2⟩ ⟨k2.2.1, k2.2.2⟩ ⟨k3.2.1, k3.2.2⟩ ⟨k4.2.1, k4.2.2⟩ ⟨k5.2.1, k5.2.2⟩ ⟨k6.2.1, k6.2.2⟩ ⟨k7.2.1, k7.2.2⟩ ⟨k8.2.1, k8.2.2⟩ ⟨k9.2.1, k9.2.2⟩ ⟨k10.2.1, k10.2.2⟩
theorem shape {H : Type} {ds : List (DataW H)} (h : ds.length = 4) : Rows.brushPrismsTurnSpec.fn H ds = { results := [.lit (.bool true)], args := ds } := by
  match ds, h with
  | [d1, d2, d3, d4], _ => rfl
theorem calls {H : Type} {enc : TypeId × Value → H} (W : World) (base : Nat) (args : Array Value) (ds : List (DataW H)) (p : List MemPlace) (hval : ∀ (j : Nat) t v, Tryd.f7.params[j]? = some t → args[j]? = some v → Value.okWide Tryd.prog W .any base t v)
    (hA : DataW.TrodAll enc Tryd.prog W 0 (fun _ => true) true Tryd.f7.params.toList args.toList ds p) (hg : GlobOk ρ0.g W.heap.size W) : Calls Tryd.prog 7 args W fun e w' => e = .returned (.bool true) ∧ Below W.heap.size W w' := by
  rw [Tryd.params7] at hA hval
  have ha : argsS Tryd.prog [25, 23, 5, 5] 0 = some (av, ks) := by kernel_rfl
  let x : Nat → X := fun j => ((args.toList.flatMap fun v => v.cells.toList).map valX).getD j (xI 0)
  obtain ⟨hv, hx⟩ := argsS_ok (ρ := { ρ0 with x := x }) (b0 := base) (r := .any) hA (fun i t v ht hv => hval i t v (by simpa using ht) (by simpa using hv)) ha (fun i v hi => by
    show ((args.toList.flatMap fun v => v.cells.toList).map valX).getD (0 + i) (xI 0) = valX v
    rw [Nat.zero_add, List.getD_eq_getElem?_getD, List.getElem?_map, hi]; rfl)
  have := law_calls ((L19p_ok).withX x) Tryd.func7 rfl 320 (vs := av) (us := args.toList) hg hv (lawful x hx)
  simpa using this
set_option maxRecDepth 100000 in
theorem lifted (os : Os) (started : os.Started) (H : Type) (enc : TypeId × Value → H) :
    ReturnsInHanded {} Tryd.checked os 7 .any (fun w args => (Rows.brushPrismsTurnSpec.pre enc Tryd.prog Tryd.f7 [] false w args ∧ laidMetH Tryd.prog [("voxel/point.axes", Rows.laid_voxel_point_axes)] w) ∧ sizedMet enc Tryd.prog Tryd.f7 (OpenSpec.ofChange Rows.brushPrismsTurnSpec) false w args)
      (Rows.brushPrismsTurnSpec.post enc Tryd.prog Tryd.f7 false true false false) := by
  refine returnsInHanded_of_change_and (C := Tryd.checked) (X := fun w _ => laidMetH Tryd.prog [("voxel/point.axes", Rows.laid_voxel_point_axes)] w) (fun _ _ _ hh h => h.of_heap hh) own started (by kernel_rfl) Tryd.func7
    (ChangeSpec.witness_shaped (enc := enc) (C := Tryd.checked) (os := os) (X := fun w _ => laidMetH Tryd.prog [("voxel/point.axes", Rows.laid_voxel_point_axes)] w) false (World.doorLaid Tryd.prog 400 os) #[((Tryd.prog.info? 25).bind (·.zero)).getD undef, ((Tryd.prog.info? 23).bind (·.zero)).getD undef, ((Tryd.prog.info? 5).bind (·.zero)).getD undef, ((Tryd.prog.info? 5).bind (·.zero)).getD undef] 8 rfl (World.shaped_of_RefB (by kernel_rfl) (by kernel_rfl)) (by kernel_rfl) (by kernel_rfl) (by kernel_rfl) (door_met os _)) ?_
  intro W base args ds gs before hval hW _ _ hL _
  have hW0 := hW
  obtain ⟨p, q, hA, hV, _⟩ := hW0
  have hlen : ds.length = 4 := (trodAll_len hA).trans (by kernel_rfl)
  refine (calls W base args ds p hval hA (glob_ok hL)).mono fun e W' ⟨he, hb⟩ => ?_
  subst he
  exact ⟨_, rfl, law_post kids slices (by rw [Tryd.params7]; decide +kernel) rfl rfl Tryd.underlying4 (shape hlen) hW hb⟩
theorem over : Rows.BrushPrismsTurnSaid :=
  OpenClaim.holds_of_wide 7 Tryd.f7 rfl rfl rfl rfl rfl rfl rfl ⟨rfl, rfl, rfl, rfl, rfl⟩ rfl rfl rfl rfl rfl (by kernel_rfl) Tryd.func7 (by kernel_rfl)
    (of_decide_eq_true (by kernel_rfl)) (by unfold Func.isWrapper; first | (rw [if_pos (by decide +kernel)]; kernel_rfl) | (rw [if_neg (by decide +kernel)]; exact ⟨rfl, rfl⟩))
    (fun os started H enc _ => lifted os started H enc)

/-- The statement: the row, its listed variable tied to the program's text. -/
theorem proved : Rows.BrushPrismsTurnCardSaid :=
  Claim7.holds_tied_plain_at .later [] [.data] true (true, "fb0e81cf4b9c8844a018cf37c2f05fe586486bc4df72dfad1e5961343b60e0a6") false
    over (fun _ h => by cases h) (by kernel_rfl) (fun _ h => by cases h) brushPrismsTurn_row_tie rfl ⟨rfl, rfl⟩ (by kernel_rfl) rfl
    (fun f fn hf hfn => by
      obtain rfl : f = 7 := Option.some.inj ((show Tryd.prog.funcNamed "voxel/voxellaw19.BrushPrismsTurn" = some 7 by kernel_rfl).symm.trans hf) |>.symm
      obtain rfl : fn = Tryd.f7 := (Option.some.inj (Tryd.func7.symm.trans hfn)).symm
      exact ⟨by kernel_rfl, fun j t ht => by
        rw [Tryd.params7] at ht
        have hm : t ∈ [25, 23, 5, 5] := by simpa using Array.mem_of_getElem? ht
        have hall : ([25, 23, 5, 5].all fun u => !Tryd.prog.wantsStandIn u) = true := by kernel_rfl
        exact (show Tryd.prog.wantsStandIn t = false by simpa using List.all_eq_true.1 hall t hm)⟩)
    (by kernel_rfl)
#print axioms proved
end Go.Proofs.YtipcadjfhndcnaaDoor.brushPrismsTurn
