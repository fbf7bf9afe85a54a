/- Layer 33, plain: runes and names. -/
import Derived.Test.YtelbilnnmmbmdaaDoorC33D
namespace Go.Proofs.YtelbilnnmmbmdaaDoor
namespace Vc
open Go Go.RowKit
set_option linter.unusedVariables false
theorem get_byt {s : ByteArray} {i : Nat} : ((s.get! i).toNat : Int) = bytV (.string s) i := by
 show ((s.get! i).toNat : Int) = ((s.data.toList.getD (i : Int).toNat 0).toNat : Nat)
 congr 2
 cases s with
 | mk d =>
  show d[i]! = _
  rw [Int.toNat_natCast, List.getD_eq_getElem?_getD, Array.getElem?_toList, Array.getElem!_eq_getD, Array.getD_eq_getD_getElem?]
  rfl
theorem dec_small {s : ByteArray} {i : Nat} (h : (s.get! i).toNat < 128) : Utf8.decode s i = ((s.get! i).toNat, 1) := by
 unfold Utf8.decode
 simp only [Nat.add_zero]
 rw [if_pos (by omega)]
theorem dec_big {s : ByteArray} {i : Nat} (h : ¬ (s.get! i).toNat < 128) : 128 ≤ (Utf8.decode s i).1 := by
 unfold Utf8.decode
 simp only [Nat.add_zero]
 rw [if_neg (by omega)]
 split
 ·split
  ·rename_i h1; exact h1
  ·exact (by decide : 128 ≤ 65533)
 ·split
  ·split
   ·rename_i h1
    simp only [Bool.and_eq_true, decide_eq_true_eq] at h1
    exact Nat.le_trans (by decide) h1.1
   ·exact (by decide : 128 ≤ 65533)
  ·split
   ·split
    ·rename_i h1
     simp only [Bool.and_eq_true, decide_eq_true_eq] at h1
     exact Nat.le_trans (by decide) h1.1
    ·exact (by decide : 128 ≤ 65533)
   ·exact (by decide : 128 ≤ 65533)
theorem run_byt {v : Value} {s : ByteArray} {i : Int} (hv : v = .string s) (h0 : 0 ≤ i) : (bytV v i < 128 ∧ decR v i = bytV v i ∧ decW v i = 1) ∨ (128 ≤ bytV v i ∧ 128 ≤ decR v i) := by
 subst hv
 have e : ((s.get! i.toNat).toNat : Int) = bytV (.string s) i := by
  have := get_byt (s := s) (i := i.toNat)
  rwa [Int.toNat_of_nonneg h0] at this
 by_cases h : (s.get! i.toNat).toNat < 128
 ·have hd := dec_small h
  refine .inl ⟨by omega, ?_, ?_⟩
  ·show ((Utf8.decode s i.toNat).1 : Int) = _
   rw [hd]; exact e
  ·show ((Utf8.decode s i.toNat).2 : Int) = _
   rw [hd]; rfl
 ·have hd := dec_big h
  refine .inr ⟨by omega, ?_⟩
  show (128 : Int) ≤ ((Utf8.decode s i.toNat).1 : Nat)
  omega
theorem ltr_iff {n : Int} : ltrB n = true ↔ 97 ≤ n ∧ n ≤ 122 := by
 unfold ltrB
 simp
theorem nmA_step {s : X} {i : Int} (h0 : 0 ≤ i) : nmA s (i + 1).toNat = (nmA s i.toNat && (ltrB (bytV s.v i) || decide (bytV s.v i = 45))) := by
 rw [toS h0]
 show (nmA s i.toNat && (ltrB (bytV s.v (i.toNat : Nat)) || decide (bytV s.v (i.toNat : Nat) = 45))) = _
 rw [Int.toNat_of_nonneg h0]
theorem nmA_B {s : X} (h0 : ¬ bytV s.v 0 = 45) (h1 : ¬ bytV s.v (s.i - 1) = 45) : ∀ {n : Nat}, (n : Int) ≤ s.i → nmA s n = true → nmB s n = true
 | 0, _, _ => rfl
 | n + 1, hn, h => by
  have h : (nmA s n && (ltrB (bytV s.v n) || decide (bytV s.v n = 45))) = true := h
  rw [Bool.and_eq_true, Bool.or_eq_true, decide_eq_true_eq, ltr_iff] at h
  have ih := nmA_B h0 h1 (n := n) (by omega) h.1
  show (nmB s n && nmcB s n) = true
  rw [ih, Bool.true_and, nmc_iff]
  rcases h.2 with q | q
  ·exact .inl q
  ·refine .inr ⟨⟨q, ?_⟩, ?_⟩
   ·rcases Nat.eq_zero_or_pos n with z | z
    ·subst z; exact (h0 q).elim
    ·omega
   ·by_cases e : (n : Int) = s.i - 1
    ·rw [e] at q; exact (h1 q).elim
    ·omega
theorem nmB_at {s : X} : ∀ {n i : Nat}, nmB s n = true → i < n → nmcB s i = true
 | n + 1, i, h, hi => by
  have h : (nmB s n && nmcB s n) = true := h
  rw [Bool.and_eq_true] at h
  by_cases e : i = n
  ·rw [e]; exact h.2
  ·exact nmB_at h.1 (by omega)
theorem nm_at {s : X} {i : Int} (h : nmX' s = true) (h0 : 0 ≤ i) (h1 : i < s.i) : (97 ≤ bytV s.v i ∧ bytV s.v i ≤ 122) ∨ ((bytV s.v i = 45 ∧ 0 < i) ∧ i < s.i - 1) := by
 have := nmB_at (i := i.toNat) (nm_iff.1 h).2 (by omega)
 rw [Int.toNat_of_nonneg h0] at this
 exact nmc_iff.1 this
theorem mem_fnd {t m : X} {i : Int} (h0 : 0 ≤ i) (h1 : i < t.i) (hm : m.i = i) (hn : ∀ k : Nat, (k : Int) < i → (m.r k 0).v = (t.r k 0).v) (hs : ∃ s : ByteArray, (t.r i 0).v = .string s) :
 memV m.r m.i (t.r i 0).v = true ↔ (((fndX t (nmlX (t.r i 0))).getD 0 : Nat) : Int) < i := by
 have hself : strEq (t.r i 0).v (t.r i 0).v = true := by
  obtain ⟨s, e⟩ := hs
  rw [e]
  exact beq_self_eq_true _
 have hsome : (fndX t (nmlX (t.r i 0))).isSome = true := by
  unfold fndX
  rw [List.find?_isSome]
  exact ⟨i.toNat, List.mem_range.2 (by omega), by rw [Int.toNat_of_nonneg h0]; exact hself⟩
 obtain ⟨j, hj⟩ := Option.isSome_iff_exists.1 hsome
 rw [hj]
 show _ ↔ (j : Int) < i
 have hj' : (List.range t.i.toNat).find? (fun (k : Nat) => strEq (t.r k 0).v (t.r i 0).v) = some j := hj
 unfold memV
 rw [List.any_eq_true, hm]
 constructor
 ·rintro ⟨k, hk, he⟩
  have hk := List.mem_range.1 hk
  rw [hn k (by omega)] at he
  rcases Nat.lt_or_ge k j with h | h
  ·have := (List.find?_range_eq_some.1 hj').2.2 k h
   rw [he] at this
   cases this
  ·omega
 ·intro h
  refine ⟨j, List.mem_range.2 (by omega), ?_⟩
  rw [hn j h]
  exact (List.find?_range_eq_some.1 hj').1
end Vc
end Go.Proofs.YtelbilnnmmbmdaaDoor
