/- Layer 41, plain: what is known of a slide. -/
import Derived.Test.YtokicaoapclicaaC41M
namespace Go.Proofs.Ytokicaoapclicaa
namespace Vc
open Go Go.RowKit
set_option linter.unusedVariables false

section
variable {l : List Bx} {q : Bx} {x d : Int}
theorem mv_zero : mvB q x 0 = q := by
  unfold mvB
  split
  · simp
  · split <;> simp
theorem mv_add {m n : Int} : mvB (mvB q x m) x n = mvB q x (m + n) := by
  unfold mvB
  split
  · simp [Int.add_assoc]
  · split <;> simp [Int.add_assoc]
theorem sl_in (hx : 0 ≤ x ∧ x ≤ 2) (h : ¬ ovB l q = true) : slB l q x d = if d < 0 then -(slC (slD l q x) (-d).toNat 0) else slC (slU l q x) d.toNat 0 := if_neg fun h' => by
  rcases h' with h' | h' | h'
  · omega
  · omega
  · exact h h'
theorem sl_sign (hx : 0 ≤ x ∧ x ≤ 2) (h : ¬ ovB l q = true) : (d < 0 ∧ d ≤ slB l q x d ∧ slB l q x d ≤ 0) ∨ (¬ d < 0 ∧ 0 ≤ slB l q x d ∧ slB l q x d ≤ d) := by
  rw [sl_in hx h]
  by_cases hd : d < 0
  · rw [if_pos hd]
    have := slC_rng (hit := slD l q x) (k := (-d).toNat) (m := 0)
    exact .inl ⟨hd, by omega, by omega⟩
  · rw [if_neg hd]
    have := slC_rng (hit := slU l q x) (k := d.toNat) (m := 0)
    exact .inr ⟨hd, by omega, by omega⟩
theorem sl_no (hx : 0 ≤ x ∧ x ≤ 2) (h : ¬ ovB l q = true) {j : Int} (hj : (0 ≤ j ∧ j ≤ slB l q x d) ∨ (slB l q x d ≤ j ∧ j ≤ 0)) : ¬ ovB l (mvB q x j) = true := by
  by_cases j0 : j = 0
  · rw [j0, mv_zero]; exact h
  · have hs := sl_sign (d := d) hx h
    rw [sl_in hx h] at hj hs
    by_cases hd : d < 0
    · rw [if_pos hd] at hj hs
      have := slC_no (hit := slD l q x) (k := (-d).toNat) (m := 0) (j := -j) (by omega) (by omega)
      unfold slD at this
      rwa [Int.neg_neg] at this
    · rw [if_neg hd] at hj hs
      exact slC_no (hit := slU l q x) (k := d.toNat) (m := 0) (j := j) (by omega) (by omega)
theorem sl_free (hx : 0 ≤ x ∧ x ≤ 2) (h : ¬ ovB l q = true) : ¬ ovB l (mvB q x (slB l q x d)) = true := sl_no (d := d) hx h (by
  rcases sl_sign (d := d) hx h with h | h
  · exact .inr ⟨Int.le_refl _, h.2.2⟩
  · exact .inl ⟨h.2.1, Int.le_refl _⟩)
theorem sl_stop (hx : 0 ≤ x ∧ x ≤ 2) (h : ¬ ovB l q = true) : slB l q x d = d ∨ ovB l (mvB q x (slB l q x d + stB d)) = true := by
  rw [sl_in hx h]
  by_cases hd : d < 0
  · rw [if_pos hd, stB_neg hd]
    rcases slC_end (hit := slD l q x) (k := (-d).toNat) (m := 0) with e | e
    · exact .inl (by omega)
    · refine .inr ?_
      unfold slD at e ⊢
      rw [← e]
      congr 2
      omega
  · rw [if_neg hd, stB_pos hd]
    rcases slC_end (hit := slU l q x) (k := d.toNat) (m := 0) with e | e
    · exact .inl (by omega)
    · exact .inr e
theorem sl_back (hx : 0 ≤ x ∧ x ≤ 2) (h : ¬ ovB l q = true) : slB l (mvB q x (slB l q x d)) x (0 - slB l q x d) = 0 - slB l q x d := by
  have hf := sl_free (d := d) hx h
  have hs := sl_sign (d := d) hx h
  have hn := fun j => sl_no (d := d) (j := j) hx h
  generalize slB l q x d = s at *
  rw [sl_in hx hf]
  by_cases hd : 0 - s < 0
  · rw [if_pos hd, slC_eq (r := s) (by omega) (by omega) (fun j h1 h2 => ?_) (.inl (by omega))]
    · omega
    · unfold slD
      rw [mv_add]
      exact hn _ (by omega)
  · rw [if_neg hd, slC_eq (r := 0 - s) (by omega) (by omega) (fun j h1 h2 => ?_) (.inl (by omega))]
    unfold slU
    rw [mv_add]
    exact hn _ (by omega)
theorem mv_rng (hq : (-1000 ≤ q.a ∧ q.a ≤ 1000) ∧ (-1000 ≤ q.b ∧ q.b ≤ 1000) ∧ (-1000 ≤ q.c ∧ q.c ≤ 1000) ∧ (-1000 ≤ q.d ∧ q.d ≤ 1000) ∧ (-1000 ≤ q.e ∧ q.e ≤ 1000) ∧ (-1000 ≤ q.f ∧ q.f ≤ 1000)) {n : Int} (hn : -64 ≤ n ∧ n ≤ 64) :
    (-2000 ≤ (mvB q x n).a ∧ (mvB q x n).a ≤ 2000) ∧ (-2000 ≤ (mvB q x n).b ∧ (mvB q x n).b ≤ 2000) ∧ (-2000 ≤ (mvB q x n).c ∧ (mvB q x n).c ≤ 2000) ∧ (-2000 ≤ (mvB q x n).d ∧ (mvB q x n).d ≤ 2000) ∧ (-2000 ≤ (mvB q x n).e ∧ (mvB q x n).e ≤ 2000) ∧ (-2000 ≤ (mvB q x n).f ∧ (mvB q x n).f ≤ 2000) := by
  unfold mvB
  split
  · simp only; omega
  · split
    · simp only; omega
    · simp only; omega
end
end Vc
end Go.Proofs.Ytokicaoapclicaa
