/- Layer 7, plain: differences and what they write. -/
import Derived.Test.YtleapeclbkclaaaDoorC07Z
import Derived.Test.YtleapeclbkclaaaDoorC07K
namespace Go.Proofs.YtleapeclbkclaaaDoor
namespace Vc
open Go Go.RowKit
set_option linter.unusedVariables false

section
variable {b b' : Bx} {cs cs' : List Int} {p q : Pt}
theorem mat_getD : ∀ {l : List Int} {k : Nat}, l.all matB = true → matB (l.getD k 0) = true := fun {l k} hl => by
  rw [List.getD_eq_getElem?_getD]
  cases hk : l[k]? with
  | none => rfl
  | some x => exact List.all_eq_true.1 hl x (List.mem_of_getElem? hk)
theorem mat_getL (hl : cs.all matB = true) : matB (getL b cs p) = true := by
  unfold getL
  split
  · exact mat_getD hl
  · rfl
theorem difP_eq {i : Nat} : difP b cs b' cs' i = if b'.has (b.at i) = true ∧ getL b' cs' (b.at i) ≠ cs.getD i 0 then some (b.at i, cs.getD i 0, getL b' cs' (b.at i)) else none := by
  unfold difP
  by_cases h : b'.has (b.at i) = true ∧ getL b' cs' (b.at i) ≠ cs.getD i 0
  · rw [if_pos h, if_pos (by rw [h.1, decide_eq_false h.2]; rfl)]
  · rw [if_neg h, if_neg]
    rw [Bool.and_eq_true]
    exact fun x => h ⟨x.1, of_decide_eq_false (by simpa using x.2)⟩
theorem wr_difN (hv : b.vol = cs.length) : ∀ {n : Nat}, n ≤ cs.length → ∀ j : Nat, j < cs.length →
    (wrL b cs ((List.range n).filterMap (difP b cs b' cs'))).getD j 0 = if j < n ∧ b'.has (b.at j) = true then getL b' cs' (b.at j) else cs.getD j 0
  | 0, _, j, hj => by
    rw [if_neg (by omega)]
    rfl
  | n + 1, hn, j, hj => by
    have ih := wr_difN hv (n := n) (by omega) j hj
    rw [List.range_succ, List.filterMap_append]
    have hat : b.idx (b.at n) = n := idx_at (by omega) (by omega)
    by_cases hc : b'.has (b.at n) = true ∧ getL b' cs' (b.at n) ≠ cs.getD n 0
    · have e : [n].filterMap (difP b cs b' cs') = [(b.at n, cs.getD n 0, getL b' cs' (b.at n))] := by
        simp only [List.filterMap_cons, List.filterMap_nil, difP_eq, if_pos hc]
      rw [e, wr_snoc]
      unfold setL
      rw [if_pos (by show 0 ≤ b.idx (b.at n); omega), getD_set, wr_len]
      show (if (b.idx (b.at n)).toNat = j ∧ _ then _ else _) = _
      rw [hat]
      by_cases ej : n = j
      · subst ej
        rw [if_pos ⟨by omega, by omega⟩, if_pos ⟨by omega, hc.1⟩]
      · rw [if_neg (by omega), ih]
        by_cases hl : j < n
        · simp only [hl, show j < n + 1 by omega, true_and]
        · simp only [hl, show ¬ j < n + 1 by omega, false_and, if_false]
    · have e : [n].filterMap (difP b cs b' cs') = [] := by
        simp only [List.filterMap_cons, List.filterMap_nil, difP_eq, if_neg hc]
      rw [e, List.append_nil, ih]
      by_cases ej : n = j
      · subst ej
        rw [if_neg (by omega)]
        split
        · rename_i h
          exact (Decidable.not_not.1 fun hne => hc ⟨h.2, fun x => hne x.symm⟩)
        · rfl
      · by_cases hl : j < n
        · simp only [hl, show j < n + 1 by omega, true_and]
        · simp only [hl, show ¬ j < n + 1 by omega, false_and, if_false]
/-- To write the differences is to paste. -/
theorem wr_dif (hv : b.vol = cs.length) : wrL b cs (difL b cs b' cs') = pasL b cs b' cs' := by
  refine ext_getD 0 (by rw [wr_len, pas_len]) fun j hj => ?_
  rw [wr_len] at hj
  rw [pas_getD hj]
  refine (wr_difN hv (Nat.le_refl _) j hj).trans ?_
  simp only [hj, true_and]
theorem dif_pas : difL b (pasL b cs b' cs') b' cs' = [] := by
  unfold difL
  rw [List.filterMap_eq_nil_iff]
  intro i hi
  rw [List.mem_range, pas_len] at hi
  rw [difP_eq, if_neg]
  rw [pas_getD hi]
  intro h
  rw [if_pos h.1] at h
  exact h.2 rfl
theorem pas_pas : pasL b (pasL b cs b' cs') b' cs' = pasL b cs b' cs' := by
  refine ext_getD 0 (by rw [pas_len]) fun j hj => ?_
  rw [pas_len, pas_len] at hj
  rw [pas_getD (by rw [pas_len]; exact hj), pas_getD hj]
  split <;> rfl
theorem dif_chg (hb : validG ⟨b, cs⟩ = true) (hm : cs'.all matB = true) {c : Ch} (h : c ∈ difL b cs b' cs') : chgB c := by
  obtain ⟨i, hi, e⟩ := List.mem_filterMap.1 h
  rw [List.mem_range] at hi
  rw [difP_eq] at e
  have hv : b.vol = cs.length := val_len hb
  have hr := bx_in (val_in hb)
  split at e
  · cases e
    have := has_def.1 (at_has (b := b) (i := i) (by omega) (by omega))
    exact ⟨by show _ ≤ (b.at i).1 ∧ (b.at i).1 ≤ _; omega, by show _ ≤ (b.at i).2.1 ∧ (b.at i).2.1 ≤ _; omega, by show _ ≤ (b.at i).2.2 ∧ (b.at i).2.2 ≤ _; omega, mat_getL hm⟩
  · cases e
theorem lst_dif : lstX deC (rowG enC (difL b cs b' cs')) = difL b cs b' cs' := lstX_rowG (enc := enC) (dec := deC) (fun _ => rfl) _
theorem dif_chgs (hb : validG ⟨b, cs⟩ = true) (hm : cs'.all matB = true) : ∀ k : Nat, (k : Int) < (rowG enC (difL b cs b' cs')).i → chgB (deC ((rowG enC (difL b cs b' cs')).r k)) := fun k hk => by
  have := lx_mem (dec := deC) (l := rowG enC (difL b cs b' cs')) (k := k) (by omega) hk
  rw [lst_dif] at this
  exact dif_chg hb hm this
end
end Vc
end Go.Proofs.YtleapeclbkclaaaDoor
