/- Layer 33, plain: lists of levels as they are written. -/
import Derived.Test.YtelbilnnmmbmdaaDoorC33R
import Derived.Test.YtelbilnnmmbmdaaDoorC33N
namespace Go.Proofs.YtelbilnnmmbmdaaDoor
namespace Vc
open Go Go.RowKit
set_option linter.unusedVariables false
theorem grok {a b c d e f : Int} {l t k : X} (gl : 0 ≤ l.i) (h : okC (grX (xI a) (xI b) (xI c) (xI d) (xI e) (xI f) l) t k = true) :
 validG (grX (xI a) (xI b) (xI c) (xI d) (xI e) (xI f) l) = true ∧ (chkT t).2 = 0 ∧ (k.i = 0 ∨ k.i = l.i) ∧ ((lstX deI l).length : Int) = l.i ∧ (bxI a b c d e f).vol = (lstX deI l).length ∧ l.i ≤ 2097152 := by
 obtain ⟨gv, ht, hk⟩ := okC_iff.1 h
 obtain ⟨k0, k1, k2, k3, k4⟩ := (v700 gl).1 gv
 have el : ((lstX deI l).length : Int) = l.i := by rw [lstX_len]; omega
 exact ⟨gv, ht, by rw [← el]; exact hk, el, by rw [el]; exact k3, by omega⟩
theorem xor_dir {d : Int} (h0 : 0 ≤ d) (h1 : d < 6) : (if bits Go.BinOp.xor Go.IntKind.i64 d 1 = 4 then (5 : Int) else 0) = 5 ↔ d = 5 := by
 rcases dir6 h0 h1 with rfl | rfl | rfl | rfl | rfl | rfl <;> decide
section
variable {l t v w : X} {i j n : Int}
theorem scn_step {e e0 e1 e2 : X} (h : ∀ j : Nat, (j : Int) < i → scnQ l t v w j) (hi : 0 ≤ i) (hv : v.i = i) (hw : w.i = i) (he : e.i = fadX t (l.r i 0).i) (h0 : e0.i = emtX t (l.r i 0).i 0) (h1 : e1.i = emtX t (l.r i 0).i 1) (h2 : e2.i = emtX t (l.r i 0).i 2) (j : Nat) (hj : (j : Int) < i + 1) :
 scnQ l t (mkX (rwCat v.r v.i (rwTab 1 [e])) (v.i + 1)) (mkX (rwCat w.r w.i (rwTab 3 [e0, e1, e2])) (w.i + 1)) j := by
 by_cases hl : (j : Int) < i
 ·have := h j hl
  unfold scnQ mkX rwCat
  simp only
  rw [if_pos (by omega), if_pos (by omega), if_pos (by omega), if_pos (by omega)]
  exact this
 ·have hj : (j : Int) = i := by omega
  unfold scnQ mkX rwCat
  simp only
  rw [if_neg (by omega), if_neg (by omega), if_neg (by omega), if_neg (by omega), hj, hv, hw, Int.sub_self]
  exact ⟨he, h0, h1, h2⟩
theorem scn_at (h : ∀ j : Nat, (j : Int) < n → scnQ l t v w j) (h0 : 0 ≤ j) (h1 : j < n) : scnQ l t v w j := by
 have := h j.toNat (by omega)
 rwa [Int.toNat_of_nonneg h0] at this
theorem rowQ_set4 {e0 e1 e2 e3 : X} {F : Int → Int} (h : ¬ j = i → rowQ v j F) (h0 : j = i → e0.i = F 0 ∧ e1.i = F 1 ∧ e2.i = F 2 ∧ e3.i = F 3) : rowQ (mkX (rwSet (rwSet (rwSet (rwSet v.r i 0 e0) i 1 e1) i 2 e2) i 3 e3) n) j F := by
 by_cases hj : j = i
 ·subst hj
  obtain ⟨a, b, c, d⟩ := h0 rfl
  refine ⟨?_, ?_, ?_, ?_⟩
  ·rw [← a]; simp [lvX, mkX, rwSet, X.y]
  ·rw [← b]; simp [lvX, mkX, rwSet, X.y]
  ·rw [← c]; simp [lvX, mkX, rwSet, X.y]
  ·rw [← d]; simp [lvX, mkX, rwSet, X.y]
 ·obtain ⟨a, b, c, d⟩ := h hj
  refine ⟨?_, ?_, ?_, ?_⟩
  ·rw [← a]; simp [lvX, mkX, rwSet, hj]
  ·rw [← b]; simp [lvX, mkX, rwSet, hj]
  ·rw [← c]; simp [lvX, mkX, rwSet, hj]
  ·rw [← d]; simp [lvX, mkX, rwSet, hj]
theorem rowQ_congr {F G : Int → Int} (h : rowQ v j F) (e : ∀ c : Int, 0 ≤ c → c < 4 → F c = G c) : rowQ v j G := by
 obtain ⟨a, b, c, d⟩ := h
 exact ⟨a.trans (e 0 (by decide) (by decide)), b.trans (e 1 (by decide) (by decide)), c.trans (e 2 (by decide) (by decide)), d.trans (e 3 (by decide) (by decide))⟩
theorem rowQ_at {F : Int → Int} {c : Int} (h : rowQ v j F) (h0 : 0 ≤ c) (h1 : c < 4) : lvX v j c = F c := by
 have hc : c = 0 ∨ c = 1 ∨ c = 2 ∨ c = 3 := by omega
 rcases hc with rfl | rfl | rfl | rfl
 ·exact h.1
 ·exact h.2.1
 ·exact h.2.2.1
 ·exact h.2.2.2
theorem rowQ_cat {e0 e1 e2 e3 : X} {F : Int → Int → Int} (h : ∀ j : Nat, (j : Int) < i → rowQ v j (F j)) (hi : 0 ≤ i) (hv : v.i = i) (he : e0.i = F i 0 ∧ e1.i = F i 1 ∧ e2.i = F i 2 ∧ e3.i = F i 3) (j : Nat) (hj : (j : Int) < i + 1) : rowQ (mkX (rwCat v.r v.i (rwTab 4 [e0, e1, e2, e3])) (v.i + 1)) j (F j) := by
 by_cases hl : (j : Int) < i
 ·have := h j hl
  unfold rowQ lvX mkX rwCat
  simp only
  rw [if_pos (by omega), if_pos (by omega), if_pos (by omega), if_pos (by omega)]
  exact this
 ·have hj : (j : Int) = i := by omega
  unfold rowQ lvX mkX rwCat
  simp only
  rw [if_neg (by omega), if_neg (by omega), if_neg (by omega), if_neg (by omega), hj, hv, Int.sub_self]
  exact he
theorem rowEq_lv {F : Int → Int → Int} (hn : v.i = n) (h0 : 0 ≤ n) (hh : n ≤ 2097152) (h : ∀ j : Nat, (j : Int) < n → rowQ v j (F j)) : rowEq SLv (rowF n F) v.r v.i 2097152 := by
 refine ⟨hn.symm, by omega, fun j hj => ?_⟩
 obtain ⟨a, b, c, d⟩ := h j (by omega)
 exact ⟨a.symm, b.symm, c.symm, d.symm, trivial⟩
end
section
variable {b : Bx} {cs : List Int} {t k o v : X} {i n : Int}
theorem st46_zero {x : Int} {S : Int → Int → Int} (j : Nat) : rowQ (mkX (rwRep [xI 0, xI 0, xI 0, xI 0]) x) j fun ch => if (j : Int) < 0 then S j ch else 0 := by
 have hn : ¬ (j : Int) < 0 := by omega
 refine ⟨?_, ?_, ?_, ?_⟩ <;> exact (if_neg hn).symm
theorem st46_skip (h : ∀ j : Nat, (j : Int) < n → rowQ v j fun ch => if (j : Int) < i then stpF b cs t k (lvX o) j ch else 0) (hk : ¬ knwX k i = true) (j : Nat) (hj : (j : Int) < n) : rowQ v j fun ch => if (j : Int) < i + 1 then stpF b cs t k (lvX o) j ch else 0 := by
 refine rowQ_congr (h j hj) fun c _ _ => ?_
 by_cases hl : (j : Int) < i
 ·rw [if_pos hl, if_pos (by omega)]
 ·by_cases e : (j : Int) = i
  ·rw [if_neg hl, if_pos (by omega), e, stp_off hk]
  ·rw [if_neg hl, if_neg (by omega)]
theorem st47_own {e0 e1 e2 e3 : X} {m : Int} (h : ∀ j : Nat, (j : Int) < n → rowQ v j fun ch => if (j : Int) < i then stpF b cs t k (lvX o) j ch else 0) (he : e0.i = ownB b cs t i 0 ∧ e1.i = ownB b cs t i 1 ∧ e2.i = ownB b cs t i 2 ∧ e3.i = ownB b cs t i 3) (j : Nat) (hj : (j : Int) < n) :
 rowQ (mkX (rwSet (rwSet (rwSet (rwSet v.r i 0 e0) i 1 e1) i 2 e2) i 3 e3) m) j fun ch => if (j : Int) < i then stpF b cs t k (lvX o) j ch else if (j : Int) = i then lgtN b cs t k (lvX o) j ch 0 else 0 := by
 refine rowQ_set4 (fun hne => rowQ_congr (h j hj) fun c _ _ => ?_) fun hji => ?_
 ·by_cases hl : (j : Int) < i
  ·rw [if_pos hl, if_pos hl]
  ·rw [if_neg hl, if_neg hl, if_neg hne]
 ·simp only [hji, if_neg (Int.lt_irrefl i), if_true]
  exact he
theorem st47_step {e0 e1 e2 e3 : X} {m : Int} {d : Nat} (h : ∀ j : Nat, (j : Int) < n → rowQ v j fun ch => if (j : Int) < i then stpF b cs t k (lvX o) j ch else if (j : Int) = i then lgtN b cs t k (lvX o) j ch d else 0) (hi : 0 ≤ i) (hin : i < n) (hn : ngbB b k (b.at i) d = true)
 (he : ∀ c : Int, 0 ≤ c → c < 4 → (if c = 0 then e0 else if c = 1 then e1 else if c = 2 then e2 else e3).i = max (lvX v i c) (pssB (fadX t (cs.getD i.toNat 0)) c d (lvX o (b.idx (stpP (b.at i) d)) c))) (j : Nat) (hj : (j : Int) < n) :
 rowQ (mkX (rwSet (rwSet (rwSet (rwSet v.r i 0 e0) i 1 e1) i 2 e2) i 3 e3) m) j fun ch => if (j : Int) < i then stpF b cs t k (lvX o) j ch else if (j : Int) = i then lgtN b cs t k (lvX o) j ch (d + 1) else 0 := by
 have hv : ∀ c : Int, 0 ≤ c → c < 4 → lvX v i c = lgtN b cs t k (lvX o) i c d := fun c h0 h1 => by
  have := rowQ_at (h i.toNat (by omega)) h0 h1
  simp only [Int.toNat_of_nonneg hi, if_neg (Int.lt_irrefl i), if_true] at this
  exact this
 have e : ∀ c : Int, 0 ≤ c → c < 4 → max (lvX v i c) (pssB (fadX t (cs.getD i.toNat 0)) c d (lvX o (b.idx (stpP (b.at i) d)) c)) = lgtN b cs t k (lvX o) i c (d + 1) := fun c h0 h1 => by
  rw [hv c h0 h1]
  exact (if_pos hn).symm
 refine rowQ_set4 (fun hne => rowQ_congr (h j hj) fun c _ _ => ?_) fun hji => ?_
 ·by_cases hl : (j : Int) < i
  ·rw [if_pos hl, if_pos hl]
  ·rw [if_neg hl, if_neg hl, if_neg hne, if_neg hne]
 ·simp only [hji, if_neg (Int.lt_irrefl i), if_true]
  exact ⟨(he 0 (by decide) (by decide)).trans (e 0 (by decide) (by decide)), (he 1 (by decide) (by decide)).trans (e 1 (by decide) (by decide)), (he 2 (by decide) (by decide)).trans (e 2 (by decide) (by decide)), (he 3 (by decide) (by decide)).trans (e 3 (by decide) (by decide))⟩
theorem st47_stay {d : Nat} (h : ∀ j : Nat, (j : Int) < n → rowQ v j fun ch => if (j : Int) < i then stpF b cs t k (lvX o) j ch else if (j : Int) = i then lgtN b cs t k (lvX o) j ch d else 0) (hn : ¬ ngbB b k (b.at i) d = true) (j : Nat) (hj : (j : Int) < n) :
 rowQ v j fun ch => if (j : Int) < i then stpF b cs t k (lvX o) j ch else if (j : Int) = i then lgtN b cs t k (lvX o) j ch (d + 1) else 0 := by
 refine rowQ_congr (h j hj) fun c _ _ => ?_
 by_cases hl : (j : Int) < i
 ·rw [if_pos hl, if_pos hl]
 ·by_cases e : (j : Int) = i
  ·rw [if_neg hl, if_neg hl, if_pos e, if_pos e, e]
   exact (if_neg hn).symm
  ·rw [if_neg hl, if_neg hl, if_neg e, if_neg e]
theorem st47_done (h : ∀ j : Nat, (j : Int) < n → rowQ v j fun ch => if (j : Int) < i then stpF b cs t k (lvX o) j ch else if (j : Int) = i then lgtN b cs t k (lvX o) j ch 6 else 0) (hk : knwX k i = true) (j : Nat) (hj : (j : Int) < n) :
 rowQ v j fun ch => if (j : Int) < i + 1 then stpF b cs t k (lvX o) j ch else 0 := by
 refine rowQ_congr (h j hj) fun c _ _ => ?_
 by_cases hl : (j : Int) < i
 ·rw [if_pos hl, if_pos (by omega)]
 ·by_cases e : (j : Int) = i
  ·rw [if_neg hl, if_pos e, if_pos (by omega), e, stp_on hk]
  ·rw [if_neg hl, if_neg e, if_neg (by omega)]
end
theorem smN_C {o : X} : ∀ n : Nat, smN (lvX o) n = smC o 0 n + smC o 1 n + smC o 2 n + smC o 3 n
 | 0 => rfl
 | n + 1 => by
  have := smN_C (o := o) n
  unfold smN smC
  omega
section
variable {b : Bx} {l t k o : X} {n : Int}
theorem ful_stp (hv : b.vol = (lstX deI l).length) (ht : (chkT t).2 = 0) : Stp (lstX deI l).length (stpF b (lstX deI l) t k) := stp_ok hv ht
theorem lv_row {v : X} (el : ((lstX deI l).length : Int) = l.i) (hv : v.i = l.i) (h : RowOk SLv v.r v.i.toNat) : lvR (lstX deI l).length (lvX v) := fun i c a d e f => row4 h a (by omega) e f
theorem ful_eq (hv : b.vol = (lstX deI l).length) (ht : (chkT t).2 = 0) (hl : lvR (lstX deI l).length (lvX o)) (hu : leR (lstX deI l).length (lvX o) (fulF b (lstX deI l) t k)) (hs : leR (lstX deI l).length (stpF b (lstX deI l) t k (lvX o)) (lvX o)) : eqR (lstX deI l).length (lvX o) (fulF b (lstX deI l) t k) :=
 hu.anti (lfp_least (ful_stp hv ht) hl hs)
theorem ful_fix (hv : b.vol = (lstX deI l).length) (ht : (chkT t).2 = 0) : eqR (lstX deI l).length (stpF b (lstX deI l) t k (fulF b (lstX deI l) t k)) (fulF b (lstX deI l) t k) := lfp_fix (ful_stp hv ht)
theorem ful_lv (hv : b.vol = (lstX deI l).length) (ht : (chkT t).2 = 0) : lvR (lstX deI l).length (fulF b (lstX deI l) t k) := lfp_lv (ful_stp hv ht)
theorem rowQ_of {v : X} {F : Int → Int → Int} {j : Int} (h : ∀ c : Int, 0 ≤ c → c < 4 → lvX v j c = F j c) : rowQ v j (F j) := ⟨h 0 (by decide) (by decide), h 1 (by decide) (by decide), h 2 (by decide) (by decide), h 3 (by decide) (by decide)⟩
end
end Vc
end Go.Proofs.YtelbilnnmmbmdaaDoor
