/- Layer 7: what the walk of the law of iterators takes as known. -/
import Derived.Test.YtleapeclbkclaaaDoorC07V
import Derived.Test.YtleapeclbkclaaaDoorC07Z
namespace Go.Proofs.YtleapeclbkclaaaDoor
namespace Vc
open Go Go.RowKit
set_option linter.unusedVariables false

def L07v : List Ctr := cAt :: L07
def lpGV : List LSpec := [⟨[0, 75, 0], 30, [(.tmp 10, 0, 2097152), (.cell 17 0, 0, 2097152)], [], exs 8, 992, 992⟩,
  ⟨[0, 75, 0], 30, [(.tmp 10, 0, 2097152), (.cell 15 0, 0, 2097152)], [], exs 8, 992, 992⟩,
  ⟨[0, 75, 0], 20, [(.tmp 10, 0, 2097152), (.cell 11 0, 0, 2097152)], [], exs 8, 992, 992⟩,
  ⟨[4, 0], 40, [(.tmp 59, 0, 256), (.tmp 10, 0, 2097152)], [], exs 8, 993, 993⟩]
theorem L07v_ok : CfgOk Tryd.prog ρ0 (cfG none L07v R07 lpGV sumC) := cfG_ok (keepL07.cons kAt nAt) keepR07 noF
section
variable {b : Bx} {l : X} {i m n : Int} {cs : List Int}
theorem getL_ix (hv : b.vol = l.i) (h0 : 0 ≤ i) (h1 : i < l.i) : getL b (lstX deI l) (b.at i) = (l.r i 0).i := by
  rw [getL_has (at_has h0 (by omega)), idx_at h0 (by omega)]
  exact lxI_at h0 h1
theorem cp_step (h : 0 ≤ m) : ∀ {cs : List Int}, cs.countP (fun x => decide (0 ≤ x) && decide (x < m + 1)) = cs.countP (fun x => decide (0 ≤ x) && decide (x < m)) + cs.count m
  | [] => rfl
  | a :: cs => by
    rw [List.countP_cons, List.countP_cons, List.count_cons, cp_step h (cs := cs)]
    by_cases e : a = m
    · subst e
      simp only [decide_eq_true h, decide_eq_true (show a < a + 1 by omega), decide_eq_false (show ¬ a < a by omega), Bool.and_self, Bool.and_false, beq_self_eq_true, if_true, Bool.false_eq_true, if_false]
      omega
    · have e1 : (decide (0 ≤ a) && decide (a < m + 1)) = (decide (0 ≤ a) && decide (a < m)) := by
        rw [Bool.eq_iff_iff, Bool.and_eq_true, Bool.and_eq_true, decide_eq_true_eq, decide_eq_true_eq, decide_eq_true_eq]
        omega
      rw [e1, if_neg (c := (a == m) = true) fun h => e (beq_iff_eq.1 h)]
      omega
theorem cp_zero : cs.countP (fun x => decide (0 ≤ x) && decide (x < 0)) = 0 := List.countP_eq_zero.2 fun x _ => by
  rw [Bool.and_eq_true, decide_eq_true_eq, decide_eq_true_eq]
  omega
theorem cp_all (h : cs.all matB = true) : cs.countP (fun x => decide (0 ≤ x) && decide (x < 256)) = cs.length := List.countP_eq_length.2 fun x hx => List.all_eq_true.1 h x hx
theorem cnt_out (h : cs.all matB = true) (hn : matB n = false) : cs.count n = 0 := List.count_eq_zero.2 fun hm => by
  have := List.all_eq_true.1 h n hm
  rw [hn] at this
  cases this
theorem wrapC {x : Int} (h0 : 0 ≤ x) (h1 : x ≤ 1000) : IntKind.wrap .i64 x = x := wrap_fits ⟨by show -9223372036854775808 ≤ x; omega, by show x ≤ 9223372036854775807; omega⟩
/-- One material more has been counted. -/
theorem cp_next {k c : Int} (hm : 0 ≤ m) (hl : (cs.length : Int) ≤ 1000) (hk : k = (cs.countP fun x => decide (0 ≤ x) && decide (x < m) : Nat)) (hc : c = (cs.count m : Nat)) :
    0 ≤ IntKind.wrap .i64 (k + c) ∧ IntKind.wrap .i64 (k + c) ≤ 1000 ∧ IntKind.wrap .i64 (k + c) = (cs.countP fun x => decide (0 ≤ x) && decide (x < m + 1) : Nat) := by
  have h1 : k + c = (cs.countP fun x => decide (0 ≤ x) && decide (x < m + 1) : Nat) := by
    rw [cp_step hm]
    omega
  have h2 := List.countP_le_length (p := fun x => decide (0 ≤ x) && decide (x < m + 1)) (l := cs)
  rw [wrapC (by omega) (by omega), h1]
  omega
end
end Vc
end Go.Proofs.YtleapeclbkclaaaDoor
