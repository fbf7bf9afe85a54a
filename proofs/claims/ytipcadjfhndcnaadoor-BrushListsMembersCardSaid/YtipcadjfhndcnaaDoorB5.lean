/- Proved: BrushListsMembers: the statement 'BrushListsMembersCardSaid' of this seat, for every input that it names; no condition besides. -/
import Derived.Test.YtipcadjfhndcnaaDoorC19T
import Derived.Test.YtipcadjfhndcnaaDoorRows
import Derived.Test.YtipcadjfhndcnaaDoorCards
import Derived.Test.YtipcadjfhndcnaaDoorTie
import Derived.SevenTiedAt
import Derived.ProofKit
import Derived.LaidMore
import Derived.Stop.Joined
namespace Go.Proofs.YtipcadjfhndcnaaDoor.brushListsMembers
open Go Go.ChangeShapes Go.WideShapes Go.ChangeAt Go.RowKit Vc
set_option linter.unusedVariables false


/-- The law's walk, as the machine leaves it. -/
def lawP (x0 : Int) (x1 : Int) (x2 : Int) (x3 : Int) (x4 : Int) (x5 : Int) (x6 : Int) (x7 : Int) (x8 : Int) (x9 : Int) (x10 : Int) (x11 : Int) (x12 : Int) (x13 : Int) (x14 : Int) (x15 : Int) (x16 : Int) (x17 : Int) (x18 : Int) (x19 : Int) : Prop :=
  (
   ((¬ ((¬ ((((((-1048575) ≤ x0) ∧ (x0 ≤ 1048575)) ∧ (((-1048575) ≤ x1) ∧ (x1 ≤ 1048575))) ∧ (((-1048575) ≤ x2) ∧ (x2 ≤ 1048575))) ∧ ((((((-1048575) ≤ x3) ∧ (x3 ≤ 1048575)) ∧ (((-1048575) ≤ x4) ∧ (x4 ≤ 1048575))) ∧ (((-1048575) ≤ x5) ∧ (x5 ≤ 1048575))) ∧ ((Ff 210 [(xI (x0 + 0)), (xI (x1 + 0)), (xI (x2 + 0)), (xI (x3 + 0)), (xI (x4 + 0)), (xI (x5 + 0))]).i ≤ 40000)))) ∨ (¬ ((((((-1048575) ≤ x6) ∧ (x6 ≤ 1048575)) ∧ (((-1048575) ≤ x7) ∧ (x7 ≤ 1048575))) ∧ (((-1048575) ≤ x8) ∧ (x8 ≤ 1048575))) ∧ ((((((-1048575) ≤ x9) ∧ (x9 ≤ 1048575)) ∧ (((-1048575) ≤ x10) ∧ (x10 ≤ 1048575))) ∧ (((-1048575) ≤ x11) ∧ (x11 ≤ 1048575))) ∧ ((Ff 210 [(xI (x6 + 0)), (xI (x7 + 0)), (xI (x8 + 0)), (xI (x9 + 0)), (xI (x10 + 0)), (xI (x11 + 0))]).i ≤ 40000)))))) →
    (
     ((¬ (((((-1048575) ≤ x12) ∧ (x12 ≤ 1048575)) ∧ (((-1048575) ≤ x13) ∧ (x13 ≤ 1048575))) ∧ (((-1048575) ≤ x14) ∧ (x14 ≤ 1048575)))) →
      (true = true))
    ∧
     ((((((-1048575) ≤ x12) ∧ (x12 ≤ 1048575)) ∧ (((-1048575) ≤ x13) ∧ (x13 ≤ 1048575))) ∧ (((-1048575) ≤ x14) ∧ (x14 ≤ 1048575))) →
      (
       ((¬ (((((-1048575) ≤ x15) ∧ (x15 ≤ 1048575)) ∧ (((-1048575) ≤ x16) ∧ (x16 ≤ 1048575))) ∧ (((-1048575) ≤ x17) ∧ (x17 ≤ 1048575)))) →
        (true = true))
      ∧
       ((((((-1048575) ≤ x15) ∧ (x15 ≤ 1048575)) ∧ (((-1048575) ≤ x16) ∧ (x16 ≤ 1048575))) ∧ (((-1048575) ≤ x17) ∧ (x17 ≤ 1048575))) →
        (
         (((4000 < (Ff 210 [(xI (x0 + 0)), (xI (x1 + 0)), (xI (x2 + 0)), (xI (x3 + 0)), (xI (x4 + 0)), (xI (x5 + 0))]).i) ∨ (4000 < (Ff 210 [(xI (x6 + 0)), (xI (x7 + 0)), (xI (x8 + 0)), (xI (x9 + 0)), (xI (x10 + 0)), (xI (x11 + 0))]).i)) →
          (true = true))
        ∧
         ((¬ ((4000 < (Ff 210 [(xI (x0 + 0)), (xI (x1 + 0)), (xI (x2 + 0)), (xI (x3 + 0)), (xI (x4 + 0)), (xI (x5 + 0))]).i) ∨ (4000 < (Ff 210 [(xI (x6 + 0)), (xI (x7 + 0)), (xI (x8 + 0)), (xI (x9 + 0)), (xI (x10 + 0)), (xI (x11 + 0))]).i))) →
          (
           ((((¬ ((Ff 401 [(xI (x0 + 0)), (xI (x1 + 0)), (xI (x2 + 0)), (xI (x3 + 0)), (xI (x4 + 0)), (xI (x5 + 0)), (xI (x6 + 0)), (xI (x7 + 0)), (xI (x8 + 0)), (xI (x9 + 0)), (xI (x10 + 0)), (xI (x11 + 0))]).i = 0)) ∨ ((¬ ((Ff 403 [(xI (x12 + 0)), (xI (x13 + 0)), (xI (x14 + 0)), (xI (x18 + 0)), (xI (x6 + 0)), (xI (x7 + 0)), (xI (x8 + 0)), (xI (x9 + 0)), (xI (x10 + 0)), (xI (x11 + 0))]).i = 0)) ∧ (¬ ((Ff 403 [(xI (x12 + 0)), (xI (x13 + 0)), (xI (x14 + 0)), (xI (x18 + 0)), (xI (x6 + 0)), (xI (x7 + 0)), (xI (x8 + 0)), (xI (x9 + 0)), (xI (x10 + 0)), (xI (x11 + 0))]).i = 1)))) ∨ ((¬ ((Ff 405 [(xI (x0 + 0)), (xI (x1 + 0)), (xI (x2 + 0)), (xI (x3 + 0)), (xI (x4 + 0)), (xI (x5 + 0)), (xI (x19 + 0)), (xI (x6 + 0)), (xI (x7 + 0)), (xI (x8 + 0)), (xI (x9 + 0)), (xI (x10 + 0)), (xI (x11 + 0))]).i = 0)) ∧ (¬ ((Ff 405 [(xI (x0 + 0)), (xI (x1 + 0)), (xI (x2 + 0)), (xI (x3 + 0)), (xI (x4 + 0)), (xI (x5 + 0)), (xI (x19 + 0)), (xI (x6 + 0)), (xI (x7 + 0)), (xI (x8 + 0)), (xI (x9 + 0)), (xI (x10 + 0)), (xI (x11 + 0))]).i = 1)))) →
            (false = true))
          ∧
           ((¬ (((¬ ((Ff 401 [(xI (x0 + 0)), (xI (x1 + 0)), (xI (x2 + 0)), (xI (x3 + 0)), (xI (x4 + 0)), (xI (x5 + 0)), (xI (x6 + 0)), (xI (x7 + 0)), (xI (x8 + 0)), (xI (x9 + 0)), (xI (x10 + 0)), (xI (x11 + 0))]).i = 0)) ∨ ((¬ ((Ff 403 [(xI (x12 + 0)), (xI (x13 + 0)), (xI (x14 + 0)), (xI (x18 + 0)), (xI (x6 + 0)), (xI (x7 + 0)), (xI (x8 + 0)), (xI (x9 + 0)), (xI (x10 + 0)), (xI (x11 + 0))]).i = 0)) ∧ (¬ ((Ff 403 [(xI (x12 + 0)), (xI (x13 + 0)), (xI (x14 + 0)), (xI (x18 + 0)), (xI (x6 + 0)), (xI (x7 + 0)), (xI (x8 + 0)), (xI (x9 + 0)), (xI (x10 + 0)), (xI (x11 + 0))]).i = 1)))) ∨ ((¬ ((Ff 405 [(xI (x0 + 0)), (xI (x1 + 0)), (xI (x2 + 0)), (xI (x3 + 0)), (xI (x4 + 0)), (xI (x5 + 0)), (xI (x19 + 0)), (xI (x6 + 0)), (xI (x7 + 0)), (xI (x8 + 0)), (xI (x9 + 0)), (xI (x10 + 0)), (xI (x11 + 0))]).i = 0)) ∧ (¬ ((Ff 405 [(xI (x0 + 0)), (xI (x1 + 0)), (xI (x2 + 0)), (xI (x3 + 0)), (xI (x4 + 0)), (xI (x5 + 0)), (xI (x19 + 0)), (xI (x6 + 0)), (xI (x7 + 0)), (xI (x8 + 0)), (xI (x9 + 0)), (xI (x10 + 0)), (xI (x11 + 0))]).i = 1))))) →
            (((((((Ff 412 [(Ff 400 [(xI (x0 + 0)), (xI (x1 + 0)), (xI (x2 + 0)), (xI (x3 + 0)), (xI (x4 + 0)), (xI (x5 + 0)), (xI (x6 + 0)), (xI (x7 + 0)), (xI (x8 + 0)), (xI (x9 + 0)), (xI (x10 + 0)), (xI (x11 + 0))])]).b = true) ∧ ((Ff 412 [(Ff 402 [(xI (x12 + 0)), (xI (x13 + 0)), (xI (x14 + 0)), (xI (x18 + 0)), (xI (x6 + 0)), (xI (x7 + 0)), (xI (x8 + 0)), (xI (x9 + 0)), (xI (x10 + 0)), (xI (x11 + 0))])]).b = true)) ∧ ((Ff 412 [(Ff 404 [(xI (x0 + 0)), (xI (x1 + 0)), (xI (x2 + 0)), (xI (x3 + 0)), (xI (x4 + 0)), (xI (x5 + 0)), (xI (x19 + 0)), (xI (x6 + 0)), (xI (x7 + 0)), (xI (x8 + 0)), (xI (x9 + 0)), (xI (x10 + 0)), (xI (x11 + 0))])]).b = true)) ∧ (((Ff 411 [(Ff 400 [(xI (x0 + 0)), (xI (x1 + 0)), (xI (x2 + 0)), (xI (x3 + 0)), (xI (x4 + 0)), (xI (x5 + 0)), (xI (x6 + 0)), (xI (x7 + 0)), (xI (x8 + 0)), (xI (x9 + 0)), (xI (x10 + 0)), (xI (x11 + 0))]), (xI (x15 + 0)), (xI (x16 + 0)), (xI (x17 + 0))]).b == ((Ff 201 [(xI (x15 + 0)), (xI (x16 + 0)), (xI (x17 + 0)), (xI (x6 + 0)), (xI (x7 + 0)), (xI (x8 + 0)), (xI (x9 + 0)), (xI (x10 + 0)), (xI (x11 + 0))]).b && (Ff 201 [(xI (x15 + 0)), (xI (x16 + 0)), (xI (x17 + 0)), (xI (x0 + 0)), (xI (x1 + 0)), (xI (x2 + 0)), (xI (x3 + 0)), (xI (x4 + 0)), (xI (x5 + 0))]).b)) = true)) ∧ (((Ff 411 [(Ff 402 [(xI (x12 + 0)), (xI (x13 + 0)), (xI (x14 + 0)), (xI (x18 + 0)), (xI (x6 + 0)), (xI (x7 + 0)), (xI (x8 + 0)), (xI (x9 + 0)), (xI (x10 + 0)), (xI (x11 + 0))]), (xI (x15 + 0)), (xI (x16 + 0)), (xI (x17 + 0))]).b == ((Ff 201 [(xI (x15 + 0)), (xI (x16 + 0)), (xI (x17 + 0)), (xI (x6 + 0)), (xI (x7 + 0)), (xI (x8 + 0)), (xI (x9 + 0)), (xI (x10 + 0)), (xI (x11 + 0))]).b && (Ff 420 [(xI (x12 + 0)), (xI (x13 + 0)), (xI (x14 + 0)), (xI (x18 + 0)), (xI (x15 + 0)), (xI (x16 + 0)), (xI (x17 + 0))]).b)) = true)) ∧ (((Ff 411 [(Ff 404 [(xI (x0 + 0)), (xI (x1 + 0)), (xI (x2 + 0)), (xI (x3 + 0)), (xI (x4 + 0)), (xI (x5 + 0)), (xI (x19 + 0)), (xI (x6 + 0)), (xI (x7 + 0)), (xI (x8 + 0)), (xI (x9 + 0)), (xI (x10 + 0)), (xI (x11 + 0))]), (xI (x15 + 0)), (xI (x16 + 0)), (xI (x17 + 0))]).b == ((Ff 201 [(xI (x15 + 0)), (xI (x16 + 0)), (xI (x17 + 0)), (xI (x6 + 0)), (xI (x7 + 0)), (xI (x8 + 0)), (xI (x9 + 0)), (xI (x10 + 0)), (xI (x11 + 0))]).b && (Ff 421 [(xI (x0 + 0)), (xI (x1 + 0)), (xI (x2 + 0)), (xI (x3 + 0)), (xI (x4 + 0)), (xI (x5 + 0)), (xI (x19 + 0)), (xI (x15 + 0)), (xI (x16 + 0)), (xI (x17 + 0))]).b)) = true)))))))))))
  ∧
   (((¬ ((((((-1048575) ≤ x0) ∧ (x0 ≤ 1048575)) ∧ (((-1048575) ≤ x1) ∧ (x1 ≤ 1048575))) ∧ (((-1048575) ≤ x2) ∧ (x2 ≤ 1048575))) ∧ ((((((-1048575) ≤ x3) ∧ (x3 ≤ 1048575)) ∧ (((-1048575) ≤ x4) ∧ (x4 ≤ 1048575))) ∧ (((-1048575) ≤ x5) ∧ (x5 ≤ 1048575))) ∧ ((Ff 210 [(xI (x0 + 0)), (xI (x1 + 0)), (xI (x2 + 0)), (xI (x3 + 0)), (xI (x4 + 0)), (xI (x5 + 0))]).i ≤ 40000)))) ∨ (¬ ((((((-1048575) ≤ x6) ∧ (x6 ≤ 1048575)) ∧ (((-1048575) ≤ x7) ∧ (x7 ≤ 1048575))) ∧ (((-1048575) ≤ x8) ∧ (x8 ≤ 1048575))) ∧ ((((((-1048575) ≤ x9) ∧ (x9 ≤ 1048575)) ∧ (((-1048575) ≤ x10) ∧ (x10 ≤ 1048575))) ∧ (((-1048575) ≤ x11) ∧ (x11 ≤ 1048575))) ∧ ((Ff 210 [(xI (x6 + 0)), (xI (x7 + 0)), (xI (x8 + 0)), (xI (x9 + 0)), (xI (x10 + 0)), (xI (x11 + 0))]).i ≤ 40000))))) →
    (true = true)))
noncomputable def av : List SV := match argsS Tryd.prog [25, 25, 23, 23, 3, 3] 0 with | some (vs, _) => vs | none => []
noncomputable def ks : List Lf := match argsS Tryd.prog [25, 25, 23, 23, 3, 3] 0 with | some (_, ks) => ks | none => []
theorem link (x : Nat → X) : (walkF Tryd.prog (cfG none L19 R19c [] sumL) Tryd.f5 160 av).law { ρ0 with x := x } = lawP (x 0).i (x 1).i (x 2).i (x 3).i (x 4).i (x 5).i (x 6).i (x 7).i (x 8).i (x 9).i (x 10).i (x 11).i (x 12).i (x 13).i (x 14).i (x 15).i (x 16).i (x 17).i (x 18).i (x 19).i := by kernel_rfl
set_option maxHeartbeats 1000000 in
theorem lawP_ok (x0 : Int) (x1 : Int) (x2 : Int) (x3 : Int) (x4 : Int) (x5 : Int) (x6 : Int) (x7 : Int) (x8 : Int) (x9 : Int) (x10 : Int) (x11 : Int) (x12 : Int) (x13 : Int) (x14 : Int) (x15 : Int) (x16 : Int) (x17 : Int) (x18 : Int) (x19 : Int) (h0 : -9223372036854775808 ≤ x0 ∧ x0 ≤ 9223372036854775807) (h1 : -9223372036854775808 ≤ x1 ∧ x1 ≤ 9223372036854775807) (h2 : -9223372036854775808 ≤ x2 ∧ x2 ≤ 9223372036854775807) (h3 : -9223372036854775808 ≤ x3 ∧ x3 ≤ 9223372036854775807) (h4 : -9223372036854775808 ≤ x4 ∧ x4 ≤ 9223372036854775807) (h5 : -9223372036854775808 ≤ x5 ∧ x5 ≤ 9223372036854775807) (h6 : -9223372036854775808 ≤ x6 ∧ x6 ≤ 9223372036854775807) (h7 : -9223372036854775808 ≤ x7 ∧ x7 ≤ 9223372036854775807) (h8 : -9223372036854775808 ≤ x8 ∧ x8 ≤ 9223372036854775807) (h9 : -9223372036854775808 ≤ x9 ∧ x9 ≤ 9223372036854775807) (h10 : -9223372036854775808 ≤ x10 ∧ x10 ≤ 9223372036854775807) (h11 : -9223372036854775808 ≤ x11 ∧ x11 ≤ 9223372036854775807) (h12 : -9223372036854775808 ≤ x12 ∧ x12 ≤ 9223372036854775807) (h13 : -9223372036854775808 ≤ x13 ∧ x13 ≤ 9223372036854775807) (h14 : -9223372036854775808 ≤ x14 ∧ x14 ≤ 9223372036854775807) (h15 : -9223372036854775808 ≤ x15 ∧ x15 ≤ 9223372036854775807) (h16 : -9223372036854775808 ≤ x16 ∧ x16 ≤ 9223372036854775807) (h17 : -9223372036854775808 ≤ x17 ∧ x17 ≤ 9223372036854775807) (h18 : -9223372036854775808 ≤ x18 ∧ x18 ≤ 9223372036854775807) (h19 : -9223372036854775808 ≤ x19 ∧ x19 ≤ 9223372036854775807) : lawP x0 x1 x2 x3 x4 x5 x6 x7 x8 x9 x10 x11 x12 x13 x14 x15 x16 x17 x18 x19 := by
  unfold lawP
  simp only [Int.add_zero, G402, G403, G404, G405, G420, G421, G201, F400, F401, F210, xI_i, xB_b, b411g, b412g]
  refine ⟨fun _ => ⟨fun _ => trivial, fun _ => ⟨fun _ => trivial, fun _ => ⟨fun _ => trivial, fun hv => ?_⟩⟩⟩, fun _ => trivial⟩
  have v1 : ∀ p : Bx, (p.inter ⟨x6, x7, x8, x9, x10, x11⟩).vol ≤ 32768 := fun p => Int.le_trans (inter_vol p _) (by show volB x6 x7 x8 x9 x10 x11 ≤ 32768; omega)
  have e1 := fun has p => (few_lsL (has := has) (v1 p)).2
  simp only [e1]
  refine ⟨fun h => ?_, fun _ => ⟨⟨⟨⟨⟨inc_lsL _ _, ?_⟩, ?_⟩, ?_⟩, ?_⟩, ?_⟩⟩
  · exfalso
    rcases h with (h | h) | h
    · exact h trivial
    · by_cases hs : isSz x18
      · exact h.1 (if_pos hs)
      · exact h.2 (if_neg hs)
    · by_cases hs : inT x19
      · exact h.1 (if_pos hs)
      · exact h.2 (if_neg hs)
  · split
    · exact inc_lsL _ _
    · rfl
  · split
    · exact inc_lsL _ _
    · rfl
  · rw [beq_iff_eq, Bool.eq_iff_iff]
    simp only [Bool.and_eq_true, decide_eq_true_eq, mem_inter (v1 _), and_true]
    exact and_comm
  · rw [beq_iff_eq, Bool.eq_iff_iff]
    simp only [Bool.and_eq_true, decide_eq_true_eq]
    by_cases hs : isSz x18
    · rw [if_pos hs, mem_inter (v1 _)]
      exact ⟨fun h => ⟨h.1.2, hs, h.2⟩, fun h => ⟨⟨ball_in hs h.2.2, h.1⟩, h.2.2⟩⟩
    · rw [if_neg hs]
      exact ⟨fun h => (List.not_mem_nil h).elim, fun h => absurd h.2.1 hs⟩
  · rw [beq_iff_eq, Bool.eq_iff_iff]
    simp only [Bool.and_eq_true, decide_eq_true_eq]
    by_cases hs : inT x19
    · rw [if_pos hs, mem_inter (v1 _)]
      exact ⟨fun h => ⟨h.1.2, ⟨hs, h.1.1⟩, h.2⟩, fun h => ⟨⟨h.2.1.2, h.1⟩, h.2.2⟩⟩
    · rw [if_neg hs]
      exact ⟨fun h => (List.not_mem_nil h).elim, fun h => absurd h.2.1.1 hs⟩

/-! ### The frame -/
theorem lawful (x : Nat → X) (h : XsOk ks 0 x) : (walkF Tryd.prog (cfG none L19 R19c [] sumL) Tryd.f5 160 av).law { ρ0 with x := x } := by
  rw [link]
  have e : ks = [.int .i64, .int .i64, .int .i64, .int .i64, .int .i64, .int .i64, .int .i64, .int .i64, .int .i64, .int .i64, .int .i64, .int .i64, .int .i64, .int .i64, .int .i64, .int .i64, .int .i64, .int .i64, .int .i64, .int .i64] := by kernel_rfl
  rw [e] at h
  obtain ⟨k0, k1, k2, k3, k4, k5, k6, k7, k8, k9, k10, k11, k12, k13, k14, k15, k16, k17, k18, k19, _⟩ := h
  exact lawP_ok _ _ _ _ _ _ _ _ _ _ _ _ _ _ _ _ _ _ _ _ ⟨k0.2.1, k0.2.2⟩ ⟨k1.2.1, k1.2.2⟩ ⟨k2.2.1, k2.2.2⟩ ⟨k3.2.1, k3.2.2⟩ ⟨k4.2.1, k4.2.2⟩ ⟨k5.2.1, k5.2.2⟩ ⟨k6.2.1, k6.2.2⟩ ⟨k7.2.1, k7.2.2⟩ ⟨k8.2.1, k8.2.2⟩ ⟨k9.2.1, k9.2.2⟩ ⟨k10.2.1, k10.2.2⟩ ⟨k11.2.1, k11.2.2⟩ ⟨k12.2.1, k12.2.2⟩ ⟨k13.2.1, k13.2.2⟩ ⟨k14.2.1, k14.2.2⟩ ⟨k15.2.1, k15.2.2⟩ ⟨k16.2.1, k16.2.2⟩ ⟨k17.2.1, k17.2.2⟩ ⟨k18.2.1, k18.2.2⟩ ⟨k19.2.1, k19.2.2⟩
theorem shape {H : Type} {ds : List (DataW H)} (h : ds.length = 6) : Rows.brushListsMembersSpec.fn H ds = { results := [.lit (.bool true)], args := ds } := by
  match ds, h with
  | [d1, d2, d3, d4, d5, d6], _ => rfl
theorem calls {H : Type} {enc : TypeId × Value → H} (W : World) (base : Nat) (args : Array Value) (ds : List (DataW H)) (p : List MemPlace) (hval : ∀ (j : Nat) t v, Tryd.f5.params[j]? = some t → args[j]? = some v → Value.okWide Tryd.prog W .any base t v)
    (hA : DataW.TrodAll enc Tryd.prog W 0 (fun _ => true) true Tryd.f5.params.toList args.toList ds p) (hg : GlobOk ρ0.g W.heap.size W) : Calls Tryd.prog 5 args W fun e w' => e = .returned (.bool true) ∧ Below W.heap.size W w' := by
  rw [Tryd.params5] at hA hval
  have ha : argsS Tryd.prog [25, 25, 23, 23, 3, 3] 0 = some (av, ks) := by kernel_rfl
  let x : Nat → X := fun j => ((args.toList.flatMap fun v => v.cells.toList).map valX).getD j (xI 0)
  obtain ⟨hv, hx⟩ := argsS_ok (ρ := { ρ0 with x := x }) (b0 := base) (r := .any) hA (fun i t v ht hv => hval i t v (by simpa using ht) (by simpa using hv)) ha (fun i v hi => by
    show ((args.toList.flatMap fun v => v.cells.toList).map valX).getD (0 + i) (xI 0) = valX v
    rw [Nat.zero_add, List.getD_eq_getElem?_getD, List.getElem?_map, hi]; rfl)
  have := law_calls ((L19c_ok).withX x) Tryd.func5 rfl 160 (vs := av) (us := args.toList) hg hv (lawful x hx)
  simpa using this
set_option maxRecDepth 100000 in
theorem lifted (os : Os) (started : os.Started) (H : Type) (enc : TypeId × Value → H) :
    ReturnsInHanded {} Tryd.checked os 5 .any (fun w args => (Rows.brushListsMembersSpec.pre enc Tryd.prog Tryd.f5 [] false w args ∧ laidMetH Tryd.prog [("voxel/point.axes", Rows.laid_voxel_point_axes)] w) ∧ sizedMet enc Tryd.prog Tryd.f5 (OpenSpec.ofChange Rows.brushListsMembersSpec) false w args)
      (Rows.brushListsMembersSpec.post enc Tryd.prog Tryd.f5 false true false false) := by
  refine returnsInHanded_of_change_and (C := Tryd.checked) (X := fun w _ => laidMetH Tryd.prog [("voxel/point.axes", Rows.laid_voxel_point_axes)] w) (fun _ _ _ hh h => h.of_heap hh) own started (by kernel_rfl) Tryd.func5
    (ChangeSpec.witness_shaped (enc := enc) (C := Tryd.checked) (os := os) (X := fun w _ => laidMetH Tryd.prog [("voxel/point.axes", Rows.laid_voxel_point_axes)] w) false (World.doorLaid Tryd.prog 400 os) #[((Tryd.prog.info? 25).bind (·.zero)).getD undef, ((Tryd.prog.info? 25).bind (·.zero)).getD undef, ((Tryd.prog.info? 23).bind (·.zero)).getD undef, ((Tryd.prog.info? 23).bind (·.zero)).getD undef, ((Tryd.prog.info? 3).bind (·.zero)).getD undef, ((Tryd.prog.info? 3).bind (·.zero)).getD undef] 8 rfl (World.shaped_of_RefB (by kernel_rfl) (by kernel_rfl)) (by kernel_rfl) (by kernel_rfl) (by kernel_rfl) (door_met os _)) ?_
  intro W base args ds gs before hval hW _ _ hL _
  have hW0 := hW
  obtain ⟨p, q, hA, hV, _⟩ := hW0
  have hlen : ds.length = 6 := (trodAll_len hA).trans (by kernel_rfl)
  refine (calls W base args ds p hval hA (glob_ok hL)).mono fun e W' ⟨he, hb⟩ => ?_
  subst he
  exact ⟨_, rfl, law_post kids slices (by rw [Tryd.params5]; decide +kernel) rfl rfl Tryd.underlying4 (shape hlen) hW hb⟩
theorem over : Rows.BrushListsMembersSaid :=
  OpenClaim.holds_of_wide 5 Tryd.f5 rfl rfl rfl rfl rfl rfl rfl ⟨rfl, rfl, rfl, rfl, rfl⟩ rfl rfl rfl rfl rfl (by kernel_rfl) Tryd.func5 (by kernel_rfl)
    (of_decide_eq_true (by kernel_rfl)) (by unfold Func.isWrapper; first | (rw [if_pos (by decide +kernel)]; kernel_rfl) | (rw [if_neg (by decide +kernel)]; exact ⟨rfl, rfl⟩))
    (fun os started H enc _ => lifted os started H enc)

/-- The statement: the row, its listed variable tied to the program's text. -/
theorem proved : Rows.BrushListsMembersCardSaid :=
  Claim7.holds_tied_plain_at .later [] [.data] true (true, "fb0e81cf4b9c8844a018cf37c2f05fe586486bc4df72dfad1e5961343b60e0a6") false
    over (fun _ h => by cases h) (by kernel_rfl) (fun _ h => by cases h) brushListsMembers_row_tie rfl ⟨rfl, rfl⟩ (by kernel_rfl) rfl
    (fun f fn hf hfn => by
      obtain rfl : f = 5 := Option.some.inj ((show Tryd.prog.funcNamed "voxel/voxellaw19.BrushListsMembers" = some 5 by kernel_rfl).symm.trans hf) |>.symm
      obtain rfl : fn = Tryd.f5 := (Option.some.inj (Tryd.func5.symm.trans hfn)).symm
      exact ⟨by kernel_rfl, fun j t ht => by
        rw [Tryd.params5] at ht
        have hm : t ∈ [25, 25, 23, 23, 3, 3] := by simpa using Array.mem_of_getElem? ht
        have hall : ([25, 25, 23, 23, 3, 3].all fun u => !Tryd.prog.wantsStandIn u) = true := by kernel_rfl
        exact (show Tryd.prog.wantsStandIn t = false by simpa using List.all_eq_true.1 hall t hm)⟩)
    (by kernel_rfl)
#print axioms proved
end Go.Proofs.YtipcadjfhndcnaaDoor.brushListsMembers
