/- Layer 7, plain: cells pasted row by row. -/
import Derived.Test.YtelbilnnmmbmdaaDoorC07L
namespace Go.Proofs.YtelbilnnmmbmdaaDoor
namespace Vc
open Go Go.RowKit
set_option linter.unusedVariables false
section
variable {b b' : Bx} {l l' o : X} {p : Pt} {x y z j : Int}
theorem int_has : (b.int b').has p = true ↔ b.has p = true ∧ b'.has p = true := by
 rw [has_iff, has_iff, has_iff]
 exact in_inter
theorem int_ne (h : (b.int b').c < (b.int b').f) : (b.int b').a < (b.int b').d ∧ (b.int b').b < (b.int b').e := by
 by_cases hn : neB (max b.a b'.a) (max b.b b'.b) (max b.c b'.c) (min b.d b'.d) (min b.e b'.e) (min b.f b'.f)
 ·unfold Bx.int itB
  simp only [if_pos hn]
  exact ⟨hn.1, hn.2.1⟩
 ·unfold Bx.int itB at h
  simp only [if_neg hn] at h
  omega
theorem int_nil (h : ¬ (b.a < b.d ∧ b.b < b.e ∧ b.c < b.f)) : (b.int b').c = 0 ∧ (b.int b').f = 0 := by
 have hn : ¬ neB (max b.a b'.a) (max b.b b'.b) (max b.c b'.c) (min b.d b'.d) (min b.e b'.e) (min b.f b'.f) := fun hn => h (by unfold neB at hn; omega)
 unfold Bx.int itB
 simp only [if_neg hn]
 exact ⟨trivial, trivial⟩
theorem idx_row (h : b.has (x, y, z) = true) (h' : b.has (x + j, y, z) = true) : b.idx (x + j, y, z) = b.idx (x, y, z) + j := by
 show idB b.a b.b b.c b.d b.e b.f (x + j) y z = idB b.a b.b b.c b.d b.e b.f x y z + j
 rw [id_in (has_iff.1 h), id_in (has_iff.1 h')]
 simp only
 omega
theorem pas_congr {S T : Pt → Bool} (hv : b.vol = l.i) (h : pasI b l b' l' S o) (he : ∀ p, (b.int b').has p = true → S p = T p) : pasI b l b' l' T o := ⟨h.1, fun i hi => by
 rw [h.2 i hi]
 cases hb : b'.has (b.at i) with
 | false => rfl
 | true => rw [he _ (int_has.2 ⟨at_has (by omega) (by omega), hb⟩)]⟩
theorem pas_none (hi : l.i = l.i) : pasI b l b' l' (fun _ => false) l := ⟨rfl, fun i hi => by
 rw [Bool.and_false]
 rfl⟩
theorem pas_step {n : Int} (hv : b.vol = l.i) (hv' : b'.vol = l'.i) (hz : (b.int b').c ≤ z ∧ z < (b.int b').f) (hy : (b.int b').b ≤ y ∧ y < (b.int b').e) (hn : n = (b.int b').d - (b.int b').a)
 (h : pasI b l b' l' (fun p => decide (p.2.2 < z) || (decide (p.2.2 = z) && decide (p.2.1 < y))) o) :
 (0 ≤ b'.idx ((b.int b').a, y, z) ∧ b'.idx ((b.int b').a, y, z) + n ≤ l'.i ∧ 0 ≤ b.idx ((b.int b').a, y, z) ∧ b.idx ((b.int b').a, y, z) + n ≤ l.i ∧ 0 < n) ∧
   pasI b l b' l' (fun p => decide (p.2.2 < z) || (decide (p.2.2 = z) && decide (p.2.1 < y + 1))) (mkX (rwCpy o.r (b.idx ((b.int b').a, y, z)) n (rwSh l'.r (b'.idx ((b.int b').a, y, z))) 0) o.i) := by
 obtain ⟨na, nb⟩ := int_ne (b := b) (b' := b') (by omega)
 have hP : ∀ j : Int, 0 ≤ j → j < n → (b.int b').has ((b.int b').a + j, y, z) = true := fun j h0 h1 => has_def.2 (by simp only; omega)
 have hP0 : (b.int b').has ((b.int b').a, y, z) = true := has_def.2 (by simp only; omega)
 have hB0 := int_has.1 hP0
 have hB : ∀ j : Int, 0 ≤ j → j < n → b.idx ((b.int b').a + j, y, z) = b.idx ((b.int b').a, y, z) + j ∧ b'.idx ((b.int b').a + j, y, z) = b'.idx ((b.int b').a, y, z) + j ∧ b.has ((b.int b').a + j, y, z) = true ∧ b'.has ((b.int b').a + j, y, z) = true := fun j h0 h1 => by
  have hj := int_has.1 (hP j h0 h1)
  exact ⟨idx_row hB0.1 hj.1, idx_row hB0.2 hj.2, hj⟩
 have k0 := idx_ok hB0.1
 have k0' := idx_ok hB0.2
 have kn := hB (n - 1) (by omega) (by omega)
 have k1 := idx_ok kn.2.2.1
 have k1' := idx_ok kn.2.2.2
 refine ⟨by omega, h.1, fun i hi => ?_⟩
 have hi' : (i : Int) < b.vol := by omega
 have hai := at_has (b := b) (i := i) (by omega) hi'
 have hid := idx_at (b := b) (i := i) (by omega) hi'
 show (if b.idx ((b.int b').a, y, z) ≤ (i : Int) ∧ (i : Int) < b.idx ((b.int b').a, y, z) + n then rwSh l'.r (b'.idx ((b.int b').a, y, z)) ((i : Int) - b.idx ((b.int b').a, y, z) + 0) 0 else o.r i 0).i = _
 by_cases hr : b.idx ((b.int b').a, y, z) ≤ (i : Int) ∧ (i : Int) < b.idx ((b.int b').a, y, z) + n
 ·have e := hB ((i : Int) - b.idx ((b.int b').a, y, z)) (by omega) (by omega)
  have ep : b.at i = ((b.int b').a + ((i : Int) - b.idx ((b.int b').a, y, z)), y, z) := idx_inj hai e.2.2.1 (by omega)
  rw [if_pos hr, ep, if_pos]
  ·rw [e.2.1]
   show (l'.r ((i : Int) - b.idx ((b.int b').a, y, z) + 0 + b'.idx ((b.int b').a, y, z)) 0).i = _
   congr 2
   omega
  ·rw [e.2.2.2, Bool.true_and]
   simp only [decide_true, Bool.true_and, Bool.or_eq_true, decide_eq_true_eq]
   exact .inr (by omega)
 ·rw [if_neg hr, h.2 i hi]
  cases hb : b'.has (b.at i) with
  | false => rfl
  | true =>
   have hh := int_has.2 ⟨hai, hb⟩
   have ne : ¬ ((b.at i).2.2 = z ∧ (b.at i).2.1 = y) := fun hc => by
    exact hr (by
     have hd := has_def.1 hh
     have hx := hB ((b.at i).1 - (b.int b').a) (by omega) (by omega)
     have e : ((b.int b').a + ((b.at i).1 - (b.int b').a), y, z) = b.at i := Prod.ext (by show (b.int b').a + ((b.at i).1 - (b.int b').a) = (b.at i).1; omega) (Prod.ext hc.2.symm hc.1.symm)
     rw [e, hid] at hx
     omega)
   have : (decide ((b.at i).2.2 < z) || (decide ((b.at i).2.2 = z) && decide ((b.at i).2.1 < y))) = (decide ((b.at i).2.2 < z) || (decide ((b.at i).2.2 = z) && decide ((b.at i).2.1 < y + 1))) := by
    rw [Bool.eq_iff_iff]
    simp only [Bool.or_eq_true, Bool.and_eq_true, decide_eq_true_eq]
    omega
   simp only [Bool.true_and]
   rw [this]
theorem pas_end {S : Pt → Bool} (hv : b.vol = l.i) (hv' : b'.vol = l'.i) (h0 : 0 ≤ l.i) (h : pasI b l b' l' S o) (hS : ∀ p, (b.int b').has p = true → S p = true) : lstX deI (mkX o.r o.i) = pasL b (lstX deI l) b' (lstX deI l') := by
 refine ext_getD 0 ?_ fun k hk => ?_
 ·unfold pasL
  rw [lstX_eta, lstX_len, List.length_map, List.length_range, lstX_len, h.1]
 ·rw [lstX_eta, lstX_len] at hk
  have hk' : (k : Int) < l.i := by rw [← h.1]; omega
  rw [lstX_eta, lxI_getD (by omega), h.2 k hk']
  unfold pasL
  rw [List.getD_eq_getElem?_getD, List.getElem?_map, List.getElem?_range (by rw [lstX_len]; omega)]
  show _ = if b'.has (b.at k) then _ else _
  cases hb : b'.has (b.at k) with
  | false =>
   rw [Bool.false_and, lxI_getD hk']
   rfl
  | true =>
   have hi := idx_ok hb
   rw [hS _ (int_has.2 ⟨at_has (by omega) (by omega), hb⟩), lxI_at hi.1 (by omega)]
   rfl
end
end Vc
end Go.Proofs.YtelbilnnmmbmdaaDoor
