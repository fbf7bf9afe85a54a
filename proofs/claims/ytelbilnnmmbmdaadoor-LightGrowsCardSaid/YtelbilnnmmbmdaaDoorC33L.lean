/- Layer 33, plain: tables. -/
import Derived.Test.YtelbilnnmmbmdaaDoorC33C
import Derived.Test.YtelbilnnmmbmdaaDoorC07Q
namespace Go.Proofs.YtelbilnnmmbmdaaDoor
namespace Vc
open Go Go.RowKit
set_option linter.unusedVariables false
theorem toS {i : Int} (h : 0 ≤ i) : (i + 1).toNat = i.toNat + 1 := by omega
theorem rngI {v c lo hi : Int} (e : v = c) (h : lo ≤ c ∧ c ≤ hi) : c = v ∧ lo ≤ v ∧ v ≤ hi := by
 subst e
 exact ⟨rfl, h⟩
section
variable {b : Bx} {l t : X} {cs : List Int} {p : Pt} {n k i d : Int}
theorem fld_off (h : n < 0 ∨ t.i ≤ n) : fldX t n k = false := by
 unfold fldX
 rw [Bool.and_eq_false_iff, Bool.and_eq_false_iff, decide_eq_false_iff_not, decide_eq_false_iff_not]
 omega
theorem fld_on (h : ¬ (n < 0 ∨ t.i ≤ n)) : fldX t n k = (t.r n k).b := by
 unfold fldX
 rw [decide_eq_true (by omega), decide_eq_true (by omega)]
 rfl
theorem getL_in (h : b.has p = true) (hv : b.vol = l.i) : getL b (lstX deI l) p = (l.r (b.idx p) 0).i := by
 have hi := idx_ok h
 unfold getL
 rw [if_pos hi.1, lxI_at hi.1 (by omega)]
theorem getL_out (h : ¬ 0 ≤ b.idx p) : getL b cs p = 0 := if_neg h
end
theorem nmc_iff {s : X} {i : Int} : nmcB s i = true ↔ (97 ≤ bytV s.v i ∧ bytV s.v i ≤ 122) ∨ ((bytV s.v i = 45 ∧ 0 < i) ∧ i < s.i - 1) := by
 unfold nmcB ltrB bytX
 simp only [Bool.and_eq_true, Bool.or_eq_true, decide_eq_true_eq]
theorem nm_step {s : X} {i : Int} (h0 : 0 ≤ i) : nmB s (i + 1).toNat = (nmB s i.toNat && nmcB s i) := by
 rw [toS h0]
 show (nmB s i.toNat && nmcB s (i.toNat : Nat)) = _
 rw [Int.toNat_of_nonneg h0]
theorem nm_no {s : X} {n : Nat} (h : ¬ nmcB s n = true) : ∀ {m : Nat}, n < m → ¬ nmB s m = true
 | m + 1, hm, hc => by
  have hc : (nmB s m && nmcB s m) = true := hc
  rw [Bool.and_eq_true] at hc
  by_cases e : n = m
  ·subst e
   exact h hc.2
  ·exact nm_no h (by omega) hc.1
theorem nm_iff {s : X} : nmX' s = true ↔ (1 ≤ s.i ∧ s.i ≤ 32) ∧ nmB s s.i.toNat = true := by
 unfold nmX'
 simp only [Bool.and_eq_true, decide_eq_true_eq]
theorem val_iff {s : X} {a b c : Bool} {f x y z : Int} : valM s a b c f x y z = true ↔ ((0 ≤ x ∧ x ≤ 15) ∧ (0 ≤ y ∧ y ≤ 15) ∧ (0 ≤ z ∧ z ≤ 15)) ∧ ((((nmX' s = true ∧ (¬ a = true ∨ ¬ b = true)) ∧ (¬ c = true ∨ a = true)) ∧ 1 ≤ f) ∧ f ≤ 16) := by
 unfold valM
 simp only [Bool.and_eq_true, Bool.or_eq_true, decide_eq_true_eq, Bool.not_eq_true', Bool.not_eq_true]
 constructor
 ·rintro ⟨⟨⟨⟨⟨⟨⟨⟨⟨⟨h0, h1⟩, h2⟩, h3⟩, h4⟩, h5⟩, h6⟩, h7⟩, h8⟩, h9⟩, h10⟩
  exact ⟨⟨⟨h0, h1⟩, ⟨h2, h3⟩, h4, h5⟩, ⟨⟨⟨h6, h7⟩, h8⟩, h9⟩, h10⟩
 ·rintro ⟨⟨⟨h0, h1⟩, ⟨h2, h3⟩, h4, h5⟩, ⟨⟨⟨h6, h7⟩, h8⟩, h9⟩, h10⟩
  exact ⟨⟨⟨⟨⟨⟨⟨⟨⟨⟨h0, h1⟩, h2⟩, h3⟩, h4⟩, h5⟩, h6⟩, h7⟩, h8⟩, h9⟩, h10⟩
theorem find_range {p : Nat → Bool} : ∀ {n i : Nat}, i < n → p i = true → (∀ k, k < i → p k = false) → (List.range n).find? p = some i
 | n + 1, i, h, hp, hn => by
  rw [List.range_succ, List.find?_append]
  by_cases e : i < n
  ·rw [find_range e hp hn]
   rfl
  ·have : i = n := by omega
   subst this
   have : (List.range i).find? p = none := List.find?_eq_none.2 fun x hx => by
    rw [hn x (List.mem_range.1 hx)]
    exact Bool.false_ne_true
   rw [this]
   simp [hp]
theorem fnd_some {t s : X} {i : Int} (h0 : 0 ≤ i) (h1 : i < t.i) (hp : strEq (t.r i 0).v s.v = true) (hn : ∀ k : Nat, (k : Int) < i → strEq (t.r k 0).v s.v = false) : fndX t s = some i.toNat := by
 refine find_range (by omega) ?_ fun k hk => hn k (by omega)
 show strEq (t.r (i.toNat : Nat) 0).v s.v = true
 rw [Int.toNat_of_nonneg h0]
 exact hp
theorem fnd_none {t s : X} {i : Int} (h1 : t.i ≤ i) (hn : ∀ k : Nat, (k : Int) < i → strEq (t.r k 0).v s.v = false) : fndX t s = none :=
 List.find?_eq_none.2 fun x hx => by
  rw [hn x (by have := List.mem_range.1 hx; omega)]
  exact Bool.false_ne_true
theorem air_iff {t : X} : airX t = true ↔ strEq (t.r 0 0).v (.string airS) = true ∧ ¬ (t.r 0 1).b = true ∧ ¬ (t.r 0 2).b = true ∧ ¬ (t.r 0 3).b = true ∧ (t.r 0 4).i = 1 ∧ (t.r 0 5).i = 0 ∧ (t.r 0 6).i = 0 ∧ (t.r 0 7).i = 0 := by
 unfold airX
 simp only [Bool.and_eq_true, decide_eq_true_eq, beq_iff_eq, Bool.not_eq_true]
 constructor
 ·rintro ⟨h0, h1, h2, h3, h⟩
  exact ⟨h0, h1.symm, h2.symm, h3.symm, h⟩
 ·rintro ⟨h0, h1, h2, h3, h⟩
  exact ⟨h0, h1.symm, h2.symm, h3.symm, h⟩
section
variable {t : X} {i : Int}
theorem chk_a (h : 256 < t.i) : chkT t = (-1, 2) := if_pos h
theorem chk_b (h : ¬ 256 < t.i) (h2 : t.i = 0) : chkT t = (-1, 1) := (if_neg h).trans (if_pos h2)
theorem chk_c (h : ¬ 256 < t.i) (h2 : ¬ t.i = 0) (h3 : ¬ airX t = true) : chkT t = (0, 1) := ((if_neg h).trans (if_neg h2)).trans (if_pos (by rw [Bool.not_eq_true']; exact Bool.eq_false_iff.2 h3))
theorem chk_d (h : ¬ 256 < t.i) (h2 : ¬ t.i = 0) (h3 : airX t = true) : chkT t = chkF t t.i.toNat 0 := ((if_neg h).trans (if_neg h2)).trans (if_neg (by rw [h3]; decide))
theorem chk_step (h1 : i < t.i) : chkF t (t.i - i).toNat i = if !vldX t i then (i, 1) else if (((fndX t (nmlX (t.r i 0))).getD 0 : Nat) : Int) < i then (i, 10) else chkF t (t.i - (i + 1)).toNat (i + 1) := by
 rw [show (t.i - i).toNat = (t.i - (i + 1)).toNat + 1 by omega]
 rfl
end
theorem chkF_all {t : X} : ∀ {n : Nat} {i : Int}, (chkF t n i).2 = 0 → ∀ k : Int, i ≤ k → k < i + n → vldX t k = true
 | 0, i, _, k, h0, h1 => by omega
 | n + 1, i, h, k, h0, h1 => by
  have h : (if !vldX t i then (i, 1) else if (((fndX t (nmlX (t.r i 0))).getD 0 : Nat) : Int) < i then (i, 10) else chkF t n (i + 1)).2 = 0 := h
  by_cases hv : vldX t i = true
  ·rw [hv, if_neg (by decide)] at h
   by_cases hf : (((fndX t (nmlX (t.r i 0))).getD 0 : Nat) : Int) < i
   ·rw [if_pos hf] at h
    cases h
   ·rw [if_neg hf] at h
    by_cases e : k = i
    ·rw [e]; exact hv
    ·exact chkF_all h k (by omega) (by omega)
  ·rw [if_pos (by rw [Bool.not_eq_true']; exact Bool.eq_false_iff.2 hv)] at h
   cases h
theorem chk_vld {t : X} {k : Int} (h : (chkT t).2 = 0) (h0 : 0 ≤ k) (h1 : k < t.i) : vldX t k = true := by
 by_cases a : 256 < t.i
 ·rw [chk_a a] at h; exact absurd h (by decide)
 ·by_cases b : t.i = 0
  ·omega
  ·by_cases c : airX t = true
   ·rw [chk_d a b c] at h
    exact chkF_all h k h0 (by omega)
   ·rw [chk_c a b c] at h; exact absurd h (by decide)
theorem vld_rng {t : X} {i : Int} (h : vldX t i = true) : ((0 ≤ (t.r i 5).i ∧ (t.r i 5).i ≤ 15) ∧ (0 ≤ (t.r i 6).i ∧ (t.r i 6).i ≤ 15) ∧ (0 ≤ (t.r i 7).i ∧ (t.r i 7).i ≤ 15)) ∧ 1 ≤ (t.r i 4).i ∧ (t.r i 4).i ≤ 16 := by
 have := val_iff.1 (show valM (nmlX (t.r i 0)) (t.r i 1).b (t.r i 2).b (t.r i 3).b (t.r i 4).i (t.r i 5).i (t.r i 6).i (t.r i 7).i = true from h)
 exact ⟨this.1, this.2.1.2, this.2.2⟩
theorem fad_rng {t : X} {n : Int} (h : (chkT t).2 = 0) : 1 ≤ fadX t n ∧ fadX t n ≤ 16 := by
 unfold fadX
 by_cases hn : 0 ≤ n ∧ n < t.i
 ·rw [if_pos hn]
  exact (vld_rng (chk_vld h hn.1 hn.2)).2
 ·rw [if_neg hn]
  decide
theorem emt_rng {t : X} {n c : Int} (h : (chkT t).2 = 0) (h0 : 0 ≤ c) (h1 : c < 3) : 0 ≤ emtX t n c ∧ emtX t n c ≤ 15 := by
 unfold emtX
 by_cases hn : 0 ≤ n ∧ n < t.i
 ·rw [if_pos hn]
  have := (vld_rng (chk_vld h hn.1 hn.2)).1
  have hc : c = 0 ∨ c = 1 ∨ c = 2 := by omega
  rcases hc with rfl | rfl | rfl
  ·exact this.1
  ·exact this.2.1
  ·exact this.2.2
 ·rw [if_neg hn]
  decide
end Vc
end Go.Proofs.YtelbilnnmmbmdaaDoor
