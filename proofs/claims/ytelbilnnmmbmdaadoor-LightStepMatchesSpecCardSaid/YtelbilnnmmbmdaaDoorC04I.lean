/- Layer 4 in plain terms: boxes as sets. -/
import Derived.Test.YtelbilnnmmbmdaaDoorC04H
namespace Go.Proofs.YtelbilnnmmbmdaaDoor
namespace Vc
open Go Go.RowKit
set_option linter.unusedVariables false
section
variable {x y z a b c d e f a' b' c' d' e' f' : Int}
theorem in_inter : inB x y z (itB a b c d e f a' b' c' d' e' f' (max a a')) (itB a b c d e f a' b' c' d' e' f' (max b b')) (itB a b c d e f a' b' c' d' e' f' (max c c')) (itB a b c d e f a' b' c' d' e' f' (min d d')) (itB a b c d e f a' b' c' d' e' f' (min e e')) (itB a b c d e f a' b' c' d' e' f' (min f f')) ↔ inB x y z a b c d e f ∧ inB x y z a' b' c' d' e' f' := by
 unfold itB
 by_cases r : neB (max a a') (max b b') (max c c') (min d d') (min e e') (min f f')
 ·simp only [if_pos r]; unfold inB; omega
 ·simp only [if_neg r]; unfold neB at r; unfold inB; omega
theorem in_hull (h : inB x y z a b c d e f ∨ inB x y z a' b' c' d' e' f') : inB x y z (huB a b c d e f a' b' c' d' e' f' a a' (min a a')) (huB a b c d e f a' b' c' d' e' f' b b' (min b b')) (huB a b c d e f a' b' c' d' e' f' c c' (min c c')) (huB a b c d e f a' b' c' d' e' f' d d' (max d d')) (huB a b c d e f a' b' c' d' e' f' e e' (max e e')) (huB a b c d e f a' b' c' d' e' f' f f' (max f f')) := by
 unfold huB
 by_cases p : neB a b c d e f
 ·by_cases q : neB a' b' c' d' e' f'
  ·simp only [if_pos p, if_pos q]; unfold inB at h ⊢; omega
  ·simp only [if_pos p, if_neg q]
   rcases h with h | h
   ·exact h
   ·exact absurd (inB_ne h) q
 ·by_cases q : neB a' b' c' d' e' f'
  ·simp only [if_neg p, if_pos q]
   rcases h with h | h
   ·exact absurd (inB_ne h) p
   ·exact h
  ·rcases h with h | h
   ·exact absurd (inB_ne h) p
   ·exact absurd (inB_ne h) q
theorem vol_zero (h : ¬ neB a b c d e f) : volB a b c d e f = 0 := by unfold volB; exact if_neg h
theorem vol_pos (h : neB a b c d e f) : 0 < volB a b c d e f := by
 rw [vol_ne h]; unfold neB at h; exact Int.mul_pos (Int.mul_pos (by omega) (by omega)) (by omega)
theorem vol_inter : volB (itB a b c d e f a' b' c' d' e' f' (max a a')) (itB a b c d e f a' b' c' d' e' f' (max b b')) (itB a b c d e f a' b' c' d' e' f' (max c c')) (itB a b c d e f a' b' c' d' e' f' (min d d')) (itB a b c d e f a' b' c' d' e' f' (min e e')) (itB a b c d e f a' b' c' d' e' f' (min f f')) ≤ volB a b c d e f := by
 unfold itB
 by_cases r : neB (max a a') (max b b') (max c c') (min d d') (min e e') (min f f')
 ·simp only [if_pos r]
  have q : neB a b c d e f := by unfold neB at r ⊢; omega
  rw [vol_ne r, vol_ne q]
  unfold neB at r q
  exact Int.mul_le_mul (Int.mul_le_mul (by omega) (by omega) (by omega) (by omega)) (by omega) (by omega) (Int.mul_nonneg (by omega) (by omega))
 ·simp only [if_neg r]
  have z : volB 0 0 0 0 0 0 = 0 := vol_zero (by unfold neB; omega)
  rw [z]
  by_cases q : neB a b c d e f
  ·exact Int.le_of_lt (vol_pos q)
  ·rw [vol_zero q]; exact Int.le_refl 0
theorem co_in (h : coB a b c d e f a' b' c' d' e' f') (k : inB x y z a' b' c' d' e' f') : inB x y z a b c d e f := by
 have := h (inB_ne k)
 unfold inB at k ⊢; omega
theorem co_hull : coB (huB a b c d e f a' b' c' d' e' f' a a' (min a a')) (huB a b c d e f a' b' c' d' e' f' b b' (min b b')) (huB a b c d e f a' b' c' d' e' f' c c' (min c c')) (huB a b c d e f a' b' c' d' e' f' d d' (max d d')) (huB a b c d e f a' b' c' d' e' f' e e' (max e e')) (huB a b c d e f a' b' c' d' e' f' f f' (max f f')) a b c d e f := by
 intro p
 unfold huB
 by_cases q : neB a' b' c' d' e' f'
 ·simp only [if_pos p, if_pos q]; omega
 ·simp only [if_pos p, if_neg q]; omega
theorem vol_empty : volB a b c d e f = 0 ↔ ¬ neB a b c d e f := by
 by_cases h : neB a b c d e f
 ·exact ⟨fun k => absurd k (by have := vol_pos h; omega), fun k => absurd h k⟩
 ·exact ⟨fun _ => h, fun _ => vol_zero h⟩
end
theorem beq_decN {p q : Prop} {i : Decidable p} {j : Decidable q} (h : p ↔ ¬ q) : (@decide p i == !@decide q j) = true := by rw [beq_iff_eq, ← decide_not, decide_eq_decide]; exact h
theorem beq_dec6 {p1 p2 p3 p4 p5 p6 q : Prop} {i1 : Decidable p1} {i2 : Decidable p2} {i3 : Decidable p3} {i4 : Decidable p4} {i5 : Decidable p5} {i6 : Decidable p6} {j : Decidable q} (h : (p1 ∧ p2 ∧ p3 ∧ p4 ∧ p5 ∧ p6) ↔ q) : ((@decide p1 i1 && @decide p2 i2 && @decide p3 i3 && @decide p4 i4 && @decide p5 i5 && @decide p6 i6) == @decide q j) = true := by
 rw [beq_iff_eq, Bool.eq_iff_iff]
 simp only [Bool.and_eq_true, decide_eq_true_eq, and_assoc]
 exact h
end Vc
end Go.Proofs.YtelbilnnmmbmdaaDoor
