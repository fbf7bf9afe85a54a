/- Boxes and their cells, plain. -/
import Derived.Test.YtelbilnnmmbmdaaDoorC04I
namespace Go.Proofs.YtelbilnnmmbmdaaDoor
namespace Vc
open Go Go.RowKit
set_option linter.unusedVariables false
section
variable {b : Bx} {p q : Pt} {i j : Int}
theorem has_iff : b.has p = true ↔ inB p.1 p.2.1 p.2.2 b.a b.b b.c b.d b.e b.f := decide_eq_true_iff
theorem has_def : b.has p = true ↔ (b.a ≤ p.1 ∧ p.1 < b.d) ∧ (b.b ≤ p.2.1 ∧ p.2.1 < b.e) ∧ (b.c ≤ p.2.2 ∧ p.2.2 < b.f) := by
 rw [has_iff]
 unfold inB
 omega
theorem idx_has : 0 ≤ b.idx p ↔ b.has p = true := by
 rw [has_iff]
 exact id_iff ..
theorem idx_out (h : ¬ b.has p = true) : b.idx p = -1 := id_out fun h' => h (has_iff.2 h')
theorem idx_ok (h : b.has p = true) : 0 ≤ b.idx p ∧ b.idx p < b.vol := by
 have := id_lt (has_iff.1 h)
 exact this
theorem at_has (h0 : 0 ≤ i) (h1 : i < b.vol) : b.has (b.at i) = true := has_iff.2 (at_in ⟨h0, h1⟩)
theorem idx_at (h0 : 0 ≤ i) (h1 : i < b.vol) : b.idx (b.at i) = i := id_at ⟨h0, h1⟩
theorem at_idx (h : b.has p = true) : b.at (b.idx p) = p := by
 obtain ⟨h1, h2, h3⟩ := at_id (has_iff.1 h)
 exact Prod.ext h1 (Prod.ext h2 h3)
theorem idx_inj (h : b.has p = true) (h' : b.has q = true) (e : b.idx p = b.idx q) : p = q := by
 rw [← at_idx h, ← at_idx h', e]
theorem at_inj (h0 : 0 ≤ i) (h1 : i < b.vol) (h2 : 0 ≤ j) (h3 : j < b.vol) (e : b.at i = b.at j) : i = j := by
 rw [← idx_at h0 h1, ← idx_at h2 h3, e]
theorem vol_of (h : b.a < b.d ∧ b.b < b.e ∧ b.c < b.f) : b.vol = (b.d - b.a) * (b.e - b.b) * (b.f - b.c) := vol_ne (a := b.a) (b := b.b) (c := b.c) (d := b.d) (e := b.e) (f := b.f) h
theorem vol_pos' (h : b.a < b.d ∧ b.b < b.e ∧ b.c < b.f) : 0 < b.vol := vol_pos (a := b.a) (b := b.b) (c := b.c) (d := b.d) (e := b.e) (f := b.f) h
theorem vol_nn : 0 ≤ b.vol := by
 by_cases h : neB b.a b.b b.c b.d b.e b.f
 ·exact Int.le_of_lt (vol_pos h)
 ·exact Int.le_of_eq (vol_zero h).symm
theorem ne_of_vol (h : 0 < b.vol) : b.a < b.d ∧ b.b < b.e ∧ b.c < b.f := by
 by_cases hn : neB b.a b.b b.c b.d b.e b.f
 ·exact hn
 ·have : b.vol = 0 := vol_zero hn
  omega
theorem ne_of_has (h : b.has p = true) : b.a < b.d ∧ b.b < b.e ∧ b.c < b.f := by
 rw [has_def] at h
 omega
theorem at_zero (h : b.a < b.d ∧ b.b < b.e ∧ b.c < b.f) : b.at 0 = (b.a, b.b, b.c) := by
 have hc : b.has (b.a, b.b, b.c) = true := has_def.2 (by simp only; omega)
 have h2 : b.idx (b.a, b.b, b.c) = 0 := by
  show idB b.a b.b b.c b.d b.e b.f b.a b.b b.c = 0
  rw [id_in (has_iff.1 hc)]
  simp
 rw [← h2]
 exact at_idx hc
theorem bx_ext {b b' : Bx} (h1 : b.a = b'.a) (h2 : b.b = b'.b) (h3 : b.c = b'.c) (h4 : b.d = b'.d) (h5 : b.e = b'.e) (h6 : b.f = b'.f) : b = b' := by
 cases b; cases b'
 simp only at h1 h2 h3 h4 h5 h6
 subst h1; subst h2; subst h3; subst h4; subst h5; subst h6
 rfl
end
section
variable {o : X} {n : Int} {k : Nat}
theorem lx_getD {α : Type} {dec : (Int → Y) → α} {d : α} (h : (k : Int) < o.i) : (lstX dec o).getD k d = dec (o.r k) := by
 rw [List.getD_eq_getElem?_getD, lstX_get (by omega)]
 rfl
theorem lxB_getD (h : (k : Int) < o.i) : (lstX deB o).getD k false = (o.r k 0).b := lx_getD h
theorem lxI_getD (h : (k : Int) < o.i) : (lstX deI o).getD k 0 = (o.r k 0).i := lx_getD h
theorem lxB_at (h0 : 0 ≤ n) (h : n < o.i) : (lstX deB o).getD n.toNat false = (o.r n 0).b := by
 have := lxB_getD (o := o) (k := n.toNat) (by omega)
 rw [this, Int.toNat_of_nonneg h0]
theorem lxI_at (h0 : 0 ≤ n) (h : n < o.i) : (lstX deI o).getD n.toNat 0 = (o.r n 0).i := by
 have := lxI_getD (o := o) (k := n.toNat) (by omega)
 rw [this, Int.toNat_of_nonneg h0]
theorem getD_out {α : Type} {l : List α} {d : α} (h : l.length ≤ k) : l.getD k d = d := by
 rw [List.getD_eq_getElem?_getD, List.getElem?_eq_none h]
 rfl
theorem getD_set {α : Type} {l : List α} {i : Nat} {a d : α} : (l.set i a).getD k d = if i = k ∧ i < l.length then a else l.getD k d := by
 simp only [List.getD_eq_getElem?_getD, List.getElem?_set]
 by_cases h : i = k
 ·subst h
  by_cases h2 : i < l.length
  ·simp [h2]
  ·simp [h2]
 ·simp [h]
theorem ext_getD {α : Type} {l m : List α} (d : α) (h : l.length = m.length) (h2 : ∀ k, k < l.length → l.getD k d = m.getD k d) : l = m := by
 refine List.ext_getElem h fun i h1 h3 => ?_
 have := h2 i h1
 simpa [List.getD_eq_getElem?_getD, h1, h3] using this
end
section
variable {α : Type} {dec : (Int → Y) → α} {l : X} {k : Int}
theorem lx_take (h0 : 0 ≤ k) (h1 : k < l.i) : (lstX dec l).take (k + 1).toNat = (lstX dec l).take k.toNat ++ [dec (l.r k)] := by
 rw [show (k + 1).toNat = k.toNat + 1 by omega, List.take_add_one, lstX_get (by omega), Int.toNat_of_nonneg h0]
 rfl
theorem lx_mem (h0 : 0 ≤ k) (h1 : k < l.i) : dec (l.r k) ∈ lstX dec l := by
 have := lstX_get (dec := dec) (x := l) (i := k.toNat) (by omega)
 rw [Int.toNat_of_nonneg h0] at this
 exact List.mem_of_getElem? this
theorem lx_all (h1 : l.i ≤ k) : (lstX dec l).take k.toNat = lstX dec l := List.take_of_length_le (by rw [lstX_len]; omega)
end
theorem lxI_allS {f : Int → Bool} {l : X} {k : Int} (h0 : 0 ≤ k) (h1 : k < l.i) (h : ((lstX deI l).take k.toNat).all f = true) (hf : f (l.r k 0).i = true) : ((lstX deI l).take (k + 1).toNat).all f = true := by
 rw [lx_take h0 h1, List.all_append, h]
 simp only [List.all_cons, List.all_nil, Bool.true_and, Bool.and_true]
 exact hf
theorem lxI_allA {f : Int → Bool} {l : X} {k : Int} (h0 : 0 ≤ k) (h1 : k < l.i) (h : (lstX deI l).all f = true) : f (l.r k 0).i = true := List.all_eq_true.1 h _ (lx_mem (dec := deI) h0 h1)
theorem matB_iff {n : Int} : matB n = true ↔ 0 ≤ n ∧ n < 256 := by
 unfold matB
 rw [Bool.and_eq_true, decide_eq_true_eq, decide_eq_true_eq]
theorem v700 {a b c d e f : Int} {l : X} (h : 0 ≤ l.i) : validG (grX (xI a) (xI b) (xI c) (xI d) (xI e) (xI f) l) = true ↔
 ((-1048575 ≤ a ∧ a ≤ 1048575) ∧ (-1048575 ≤ b ∧ b ≤ 1048575) ∧ (-1048575 ≤ c ∧ c ≤ 1048575) ∧ (-1048575 ≤ d ∧ d ≤ 1048575) ∧ (-1048575 ≤ e ∧ e ≤ 1048575) ∧ (-1048575 ≤ f ∧ f ≤ 1048575)) ∧
   ((a = 0 ∧ b = 0 ∧ c = 0 ∧ d = 0 ∧ e = 0 ∧ f = 0) ∨ volB a b c d e f ≠ 0) ∧ volB a b c d e f ≤ 2097152 ∧ volB a b c d e f = l.i ∧ (lstX deI l).all matB = true := by
 unfold validG
 have e0 : ((grX (xI a) (xI b) (xI c) (xI d) (xI e) (xI f) l).cs.length : Int) = l.i := by
  show ((lstX deI l).length : Int) = l.i
  rw [lstX_len]
  omega
 rw [e0]
 show (Bx.in20 ⟨a, b, c, d, e, f⟩ && (Bx.isZ ⟨a, b, c, d, e, f⟩ || decide (volB a b c d e f ≠ 0)) && decide (volB a b c d e f ≤ 2097152) && decide (volB a b c d e f = l.i) && (lstX deI l).all matB) = true ↔ _
 unfold Bx.in20 Bx.isZ Vc.in20
 simp only [Bool.and_eq_true, Bool.or_eq_true, decide_eq_true_eq, and_assoc]
abbrev bxI (a b c d e f : Int) : Bx := bxX (xI a) (xI b) (xI c) (xI d) (xI e) (xI f)
end Vc
end Go.Proofs.YtelbilnnmmbmdaaDoor
