/- Layer 7, plain: more of grids. -/
import Derived.Test.YtaacclebncplbaaGreatDoorC07D
import Derived.Test.YtaacclebncplbaaGreatDoorC07Q
import Derived.Test.YtaacclebncplbaaGreatDoorC04I
namespace Go.Proofs.YtaacclebncplbaaGreatDoor
namespace Vc
open Go Go.RowKit
set_option linter.unusedVariables false
theorem rngI {v c lo hi : Int} (e : v = c) (h : lo ≤ c ∧ c ≤ hi) : c = v ∧ lo ≤ v ∧ v ≤ hi := by
 subst e
 exact ⟨rfl, h⟩
section
variable {b b' : Bx} {l t : X} {cs : List Int} {p : Pt} {n k i d : Int}
theorem getL_in (h : b.has p = true) (hv : b.vol = l.i) : getL b (lstX deI l) p = (l.r (b.idx p) 0).i := by
 have hi := idx_ok h
 unfold getL
 rw [if_pos hi.1, lxI_at hi.1 (by omega)]
theorem getL_out (h : ¬ 0 ≤ b.idx p) : getL b cs p = 0 := if_neg h
theorem pas_self (hv : b.vol = l.i) (h0 : 0 ≤ l.i) : pasL b (lstX deI l) b (lstX deI l) = lstX deI l := by
 refine ext_getD 0 (by unfold pasL; rw [List.length_map, List.length_range]) fun j hj => ?_
 have hj' : j < (lstX deI l).length := by unfold pasL at hj; rw [List.length_map, List.length_range] at hj; exact hj
 have hl : (j : Int) < b.vol := by rw [lstX_len] at hj'; omega
 unfold pasL
 rw [List.getD_eq_getElem?_getD, List.getElem?_map, List.getElem?_range hj']
 show (if b.has (b.at j) then (lstX deI l).getD (b.idx (b.at j)).toNat 0 else (lstX deI l).getD j 0) = _
 rw [if_pos (at_has (by omega) hl), idx_at (by omega) hl]
 rfl
end
theorem eqG_iff {a b c d e f a' b' c' d' e' f' : Int} {l l' : X} : eqG (bxI a b c d e f) (lstX deI l) (bxI a' b' c' d' e' f') (lstX deI l') = true ↔ (a = a' ∧ b = b' ∧ c = c' ∧ d = d' ∧ e = e' ∧ f = f') ∧ lstX deI l = lstX deI l' := by
 unfold eqG
 simp only [Bool.and_eq_true, decide_eq_true_eq]
 constructor
 ·rintro ⟨⟨⟨⟨⟨⟨h0, h1⟩, h2⟩, h3⟩, h4⟩, h5⟩, h6⟩
  exact ⟨⟨h0, h1, h2, h3, h4, h5⟩, h6⟩
 ·rintro ⟨⟨h0, h1, h2, h3, h4, h5⟩, h6⟩
  exact ⟨⟨⟨⟨⟨⟨h0, h1⟩, h2⟩, h3⟩, h4⟩, h5⟩, h6⟩
theorem lst_len {l l' : X} (h0 : 0 ≤ l.i) (h1 : 0 ≤ l'.i) (h : lstX deI l = lstX deI l') : l.i = l'.i := by
 have := congrArg List.length h
 rw [lstX_len, lstX_len] at this
 omega
theorem lst_at {l l' : X} {i : Int} (h0 : 0 ≤ i) (h1 : i < l.i) (h2 : i < l'.i) (h : lstX deI l = lstX deI l') : (l.r i 0).i = (l'.r i 0).i := by
 rw [← lxI_at h0 h1, ← lxI_at h0 h2, h]
theorem cnt_step {l : X} {k n : Int} (h0 : 0 ≤ k) (h1 : k < l.i) : (((lstX deI l).take (k + 1).toNat).count n : Nat) = ((lstX deI l).take k.toNat).count n + if (l.r k 0).i = n then 1 else 0 := by
 rw [lx_take h0 h1, List.count_append, List.count_singleton]
 show _ + (if ((l.r k 0).i == n) = true then 1 else 0) = _
 simp only [beq_iff_eq]
theorem cnt_le {l : X} {k n : Int} (h0 : 0 ≤ k) : ((((lstX deI l).take k.toNat).count n : Nat) : Int) ≤ k := by
 have h := List.count_le_length (a := n) (l := (lstX deI l).take k.toNat)
 have h2 := List.length_take_le k.toNat (lstX deI l)
 omega
theorem mask32 {x : Int} (h0 : 0 ≤ x) (h1 : x ≤ 4294967295) : bits .and .u64 x 4294967295 = x := by
 have hm : (BitVec.ofInt 64 (4294967295 : Int)).toNat = 2 ^ 32 - 1 := rfl
 have ha : (BitVec.ofInt 64 x &&& BitVec.ofInt 64 (4294967295 : Int)).toNat = (BitVec.ofInt 64 x).toNat % 2 ^ 32 := by
  rw [BitVec.toNat_and, hm, Nat.and_two_pow_sub_one_eq_mod]
 have hx := ofInt_toNat x
 show IntKind.u64.wrap ((BitVec.ofInt 64 x &&& BitVec.ofInt 64 (4294967295 : Int)).toNat : Int) = _
 rw [ha]
 have e : (((BitVec.ofInt 64 x).toNat % 2 ^ 32 : Nat) : Int) = x := by omega
 rw [e]
 exact wrap_fits ⟨by show (0 : Int) ≤ x; omega, by show x ≤ 18446744073709551615; omega⟩
theorem wrapU {x : Int} (h0 : 0 ≤ x) (h1 : x ≤ 18446744073709551615) : IntKind.wrap .u64 x = x := wrap_fits ⟨h0, h1⟩
theorem high0 {v : Int} (h0 : 0 ≤ v) (h1 : v ≤ 2097152) : ((((IntKind.wrap Go.IntKind.u64 ((bits Go.BinOp.and Go.IntKind.u64 1 4294967295) * (bits Go.BinOp.and Go.IntKind.u64 v 4294967295))) / 4294967296) / 4294967296) + ((IntKind.wrap Go.IntKind.u64 ((bits Go.BinOp.and Go.IntKind.u64 ((IntKind.wrap Go.IntKind.u64 ((bits Go.BinOp.and Go.IntKind.u64 1 4294967295) * (bits Go.BinOp.and Go.IntKind.u64 v 4294967295))) / 4294967296) 4294967295) + (IntKind.wrap Go.IntKind.u64 ((bits Go.BinOp.and Go.IntKind.u64 1 4294967295) * (v / 4294967296))))) / 4294967296)) = 0 := by
 rw [mask32 (x := 1) (by omega) (by omega), mask32 h0 (by omega), Int.one_mul, wrapU h0 (by omega), Int.one_mul]
 have e : v / 4294967296 = 0 := by omega
 rw [e, show (0 : Int) / 4294967296 = 0 from rfl, mask32 (x := 0) (by omega) (by omega), wrapU (x := 0) (by omega) (by omega)]
 rfl
section
variable {b : Bx} {n : Int}
theorem new_b0 (h : newE b n ≠ 0 ∨ b.vol = 0) : newB b n = bx0 := if_neg (by omega)
theorem new_l0 (h : newE b n ≠ 0 ∨ b.vol = 0) : newL b n = [] := by
 unfold newL
 split
 ·rw [show b.vol = 0 by omega]; rfl
 ·rfl
theorem new_b1 (h : newE b n = 0) (hv : b.vol ≠ 0) : newB b n = b := if_pos ⟨h, hv⟩
theorem new_l1 (h : newE b n = 0) : newL b n = List.replicate b.vol.toNat n := if_pos h
theorem new_e1 (h : ¬ (b.in20 = true ∧ matB n = true)) : newE b n = 1 := by
 unfold newE
 rw [if_pos]
 rw [Bool.or_eq_true, Bool.not_eq_true', Bool.not_eq_true', ← Bool.not_eq_true, ← Bool.not_eq_true]
 exact Decidable.not_and_iff_or_not.1 h
theorem new_e2 (h : b.in20 = true ∧ matB n = true) (hv : 2097152 < b.vol) : newE b n = 2 := by
 unfold newE
 rw [h.1, h.2, if_neg (by decide), if_pos hv]
theorem new_e0 (h : b.in20 = true ∧ matB n = true) (hv : ¬ 2097152 < b.vol) : newE b n = 0 := by
 unfold newE
 rw [h.1, h.2, if_neg (by decide), if_neg hv]
end
theorem in20_iff {a b c d e f : Int} : (bxI a b c d e f).in20 = true ↔ (-1048575 ≤ a ∧ a ≤ 1048575) ∧ (-1048575 ≤ b ∧ b ≤ 1048575) ∧ (-1048575 ≤ c ∧ c ≤ 1048575) ∧ (-1048575 ≤ d ∧ d ≤ 1048575) ∧ (-1048575 ≤ e ∧ e ≤ 1048575) ∧ (-1048575 ≤ f ∧ f ≤ 1048575) := by
 show Bx.in20 ⟨a, b, c, d, e, f⟩ = true ↔ _
 unfold Bx.in20 Vc.in20
 simp only [Bool.and_eq_true, decide_eq_true_eq, and_assoc]
section
variable {a b c d e f n k m : Int} {R : Int → Int → Y}
theorem new_no (hE : newE (bxI a b c d e f) n = k) (h0 : k ≠ 0 ∨ (bxI a b c d e f).vol = 0) (hk : 0 ≤ k ∧ k ≤ 2) :
 ((0 = (newB (bxI a b c d e f) n).a ∧ -1048575 ≤ (newB (bxI a b c d e f) n).a ∧ (newB (bxI a b c d e f) n).a ≤ 1048575) ∧ ((0 = (newB (bxI a b c d e f) n).b ∧ -1048575 ≤ (newB (bxI a b c d e f) n).b ∧ (newB (bxI a b c d e f) n).b ≤ 1048575) ∧ ((0 = (newB (bxI a b c d e f) n).c ∧ -1048575 ≤ (newB (bxI a b c d e f) n).c ∧ (newB (bxI a b c d e f) n).c ≤ 1048575) ∧ ((0 = (newB (bxI a b c d e f) n).d ∧ -1048575 ≤ (newB (bxI a b c d e f) n).d ∧ (newB (bxI a b c d e f) n).d ≤ 1048575) ∧ ((0 = (newB (bxI a b c d e f) n).e ∧ -1048575 ≤ (newB (bxI a b c d e f) n).e ∧ (newB (bxI a b c d e f) n).e ≤ 1048575) ∧ ((0 = (newB (bxI a b c d e f) n).f ∧ -1048575 ≤ (newB (bxI a b c d e f) n).f ∧ (newB (bxI a b c d e f) n).f ≤ 1048575) ∧ ((rowG enI (newL (bxI a b c d e f) n)).i = 0 ∧ 0 ≤ (1000000000 : Int)))))))) ∧
   ((k = newE (bxI a b c d e f) n ∧ 0 ≤ newE (bxI a b c d e f) n ∧ newE (bxI a b c d e f) n ≤ 2) ∧ True) := by
 have h : newE (bxI a b c d e f) n ≠ 0 ∨ (bxI a b c d e f).vol = 0 := by rw [hE]; exact h0
 rw [new_b0 h, new_l0 h, hE]
 exact ⟨⟨⟨rfl, by decide⟩, ⟨rfl, by decide⟩, ⟨rfl, by decide⟩, ⟨rfl, by decide⟩, ⟨rfl, by decide⟩, ⟨rfl, by decide⟩, rfl, by decide⟩, ⟨rfl, hk⟩, trivial⟩
theorem new_yes (hE : newE (bxI a b c d e f) n = 0) (hv : (bxI a b c d e f).vol ≠ 0) (hr : (bxI a b c d e f).in20 = true) (hm : m = (bxI a b c d e f).vol) (h0 : 0 ≤ m) (h1 : m ≤ 1000000000) (hR : ∀ i : Nat, (i : Int) < m → (R i 0).i = n) :
 ((a = (newB (bxI a b c d e f) n).a ∧ -1048575 ≤ (newB (bxI a b c d e f) n).a ∧ (newB (bxI a b c d e f) n).a ≤ 1048575) ∧ ((b = (newB (bxI a b c d e f) n).b ∧ -1048575 ≤ (newB (bxI a b c d e f) n).b ∧ (newB (bxI a b c d e f) n).b ≤ 1048575) ∧ ((c = (newB (bxI a b c d e f) n).c ∧ -1048575 ≤ (newB (bxI a b c d e f) n).c ∧ (newB (bxI a b c d e f) n).c ≤ 1048575) ∧ ((d = (newB (bxI a b c d e f) n).d ∧ -1048575 ≤ (newB (bxI a b c d e f) n).d ∧ (newB (bxI a b c d e f) n).d ≤ 1048575) ∧ ((e = (newB (bxI a b c d e f) n).e ∧ -1048575 ≤ (newB (bxI a b c d e f) n).e ∧ (newB (bxI a b c d e f) n).e ≤ 1048575) ∧ ((f = (newB (bxI a b c d e f) n).f ∧ -1048575 ≤ (newB (bxI a b c d e f) n).f ∧ (newB (bxI a b c d e f) n).f ≤ 1048575) ∧ (rowEq [S64] (rowG enI (newL (bxI a b c d e f) n)) R m 1000000000))))))) ∧
   ((0 = newE (bxI a b c d e f) n ∧ 0 ≤ newE (bxI a b c d e f) n ∧ newE (bxI a b c d e f) n ≤ 2) ∧ True) := by
 have hr' := in20_iff.1 hr
 rw [new_b1 hE hv, new_l1 hE, hE]
 refine ⟨⟨⟨rfl, hr'.1⟩, ⟨rfl, hr'.2.1⟩, ⟨rfl, hr'.2.2.1⟩, ⟨rfl, hr'.2.2.2.1⟩, ⟨rfl, hr'.2.2.2.2.1⟩, ⟨rfl, hr'.2.2.2.2.2⟩, rowEq_of eqEl_int h0 h1 ?_⟩, ⟨rfl, by decide⟩, trivial⟩
 apply List.ext_getElem?
 intro i
 by_cases hi : i < m.toNat
 ·rw [lstX_get (x := mkX R m) hi, List.getElem?_replicate, if_pos (by omega)]
  show some (R i 0).i = some n
  rw [hR i (by omega)]
 ·rw [List.getElem?_eq_none (by rw [lstX_len]; exact Nat.le_of_not_lt hi), List.getElem?_eq_none (by rw [List.length_replicate]; omega)]
end
end Vc
end Go.Proofs.YtaacclebncplbaaGreatDoor
