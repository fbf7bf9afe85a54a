/- Layer 30, plain: where a cell goes. -/
import Derived.Test.YtgbaelpcbhgdjaaDoorC30C
import Derived.Test.YtgbaelpcbhgdjaaDoorC07Q
namespace Go.Proofs.YtgbaelpcbhgdjaaDoor
namespace Vc
open Go Go.RowKit
set_option linter.unusedVariables false

theorem rngI {v c lo hi : Int} (e : v = c) (h : lo ≤ c ∧ c ≤ hi) : c = v ∧ lo ≤ v ∧ v ≤ hi := by
  subst e
  exact ⟨rfl, h⟩
section
variable {b : Bx} {l t : X} {cs : List Int} {p : Pt} {n k i d : Int}
theorem fld_off (h : n < 0 ∨ t.i ≤ n) : fldX t n k = false := by
  unfold fldX
  rw [Bool.and_eq_false_iff, Bool.and_eq_false_iff, decide_eq_false_iff_not, decide_eq_false_iff_not]
  omega
theorem fld_on (h : ¬ (n < 0 ∨ t.i ≤ n)) : fldX t n k = (t.r n k).b := by
  unfold fldX
  rw [decide_eq_true (by omega), decide_eq_true (by omega)]
  rfl
theorem fre_iff : freX t n = true ↔ ¬ solX t n = true ∧ ¬ liqX t n = true := by
  unfold freX
  cases solX t n <;> cases liqX t n <;> simp
theorem getL_in (h : b.has p = true) (hv : b.vol = l.i) : getL b (lstX deI l) p = (l.r (b.idx p) 0).i := by
  have hi := idx_ok h
  unfold getL
  rw [if_pos hi.1, lxI_at hi.1 (by omega)]
theorem getL_out (h : ¬ 0 ≤ b.idx p) : getL b cs p = 0 := if_neg h
theorem tlS {T : Option Pt} {x y z : Int} (h : T = some (x, y, z)) (hx : -1048576 ≤ x ∧ x ≤ 1048576) (hy : -1048576 ≤ y ∧ y ≤ 1048576) (hz : -1048576 ≤ z ∧ z ≤ 1048576) :
    ((x = (T.getD (0, 0, 0)).1 ∧ -1048576 ≤ (T.getD (0, 0, 0)).1 ∧ (T.getD (0, 0, 0)).1 ≤ 1048576) ∧ ((y = (T.getD (0, 0, 0)).2.1 ∧ -1048576 ≤ (T.getD (0, 0, 0)).2.1 ∧ (T.getD (0, 0, 0)).2.1 ≤ 1048576) ∧ (z = (T.getD (0, 0, 0)).2.2 ∧ -1048576 ≤ (T.getD (0, 0, 0)).2.2 ∧ (T.getD (0, 0, 0)).2.2 ≤ 1048576))) ∧ ((true = true ↔ T.isSome = true) ∧ True) := by
  subst h
  exact ⟨⟨⟨rfl, hx⟩, ⟨rfl, hy⟩, ⟨rfl, hz⟩⟩, iff_of_true rfl rfl, trivial⟩
theorem tlN {T : Option Pt} (h : T = none) :
    ((0 = (T.getD (0, 0, 0)).1 ∧ -1048576 ≤ (T.getD (0, 0, 0)).1 ∧ (T.getD (0, 0, 0)).1 ≤ 1048576) ∧ ((0 = (T.getD (0, 0, 0)).2.1 ∧ -1048576 ≤ (T.getD (0, 0, 0)).2.1 ∧ (T.getD (0, 0, 0)).2.1 ≤ 1048576) ∧ (0 = (T.getD (0, 0, 0)).2.2 ∧ -1048576 ≤ (T.getD (0, 0, 0)).2.2 ∧ (T.getD (0, 0, 0)).2.2 ≤ 1048576))) ∧ ((false = true ↔ T.isSome = true) ∧ True) := by
  subst h
  exact ⟨⟨⟨rfl, by decide, by decide⟩, ⟨rfl, by decide, by decide⟩, ⟨rfl, by decide, by decide⟩⟩, Iff.rfl, trivial⟩
theorem pas_self (hv : b.vol = l.i) (h0 : 0 ≤ l.i) : pasL b (lstX deI l) b (lstX deI l) = lstX deI l := by
  refine ext_getD 0 (by unfold pasL; rw [List.length_map, List.length_range]) fun j hj => ?_
  have hj' : j < (lstX deI l).length := by unfold pasL at hj; rw [List.length_map, List.length_range] at hj; exact hj
  have hl : (j : Int) < b.vol := by rw [lstX_len] at hj'; omega
  unfold pasL
  rw [List.getD_eq_getElem?_getD, List.getElem?_map, List.getElem?_range hj']
  show (if b.has (b.at j) then (lstX deI l).getD (b.idx (b.at j)).toNat 0 else (lstX deI l).getD j 0) = _
  rw [if_pos (at_has (by omega) hl), idx_at (by omega) hl]
  rfl
theorem tgt_out (h : ¬ b.has p = true) : tgtB b cs t k p = none := by
  unfold tgtB
  rw [if_pos (by rw [Bool.not_eq_true'] ; exact Bool.eq_false_iff.2 h)]
theorem tgt_fall (h : b.has p = true) (hf : falX t (getL b cs p) = true) : tgtB b cs t k p = if b.has (dnP p) && !solX t (getL b cs (dnP p)) then some (dnP p) else none := by
  unfold tgtB
  rw [if_neg (by rw [h]; decide), if_pos hf]
theorem tgt_stay (h : b.has p = true) (hf : ¬ falX t (getL b cs p) = true) (hl : ¬ liqX t (getL b cs p) = true) : tgtB b cs t k p = none := by
  unfold tgtB
  rw [if_neg (by rw [h]; decide), if_neg hf, if_neg hl]
theorem tgt_liq (h : b.has p = true) (hf : ¬ falX t (getL b cs p) = true) (hl : liqX t (getL b cs p) = true) : tgtB b cs t k p = if freB b cs t (dnP p) then some (dnP p) else flwB b cs t k p 4 := by
  unfold tgtB
  rw [if_neg (by rw [h]; decide), if_neg hf, if_pos hl]
theorem flw_step (h0 : 0 ≤ i) (h1 : i < 4) : flwB b cs t k p (4 - i).toNat = if floB b cs t p ((k + i) % 4) then some (dnP (dirP p ((k + i) % 4))) else flwB b cs t k p (4 - (i + 1)).toNat := by
  have e : (4 - i).toNat = (4 - (i + 1)).toNat + 1 := by omega
  rw [e]
  have e2 : (k + (3 - ((4 - (i + 1)).toNat : Int))) = k + i := by omega
  show (if floB b cs t p ((k + (3 - ((4 - (i + 1)).toNat : Int))) % 4) then _ else _) = _
  rw [e2]
theorem fre_has (h : freB b cs t p = true) : b.has p = true := by
  unfold freB at h
  rw [Bool.and_eq_true] at h
  exact h.1
theorem flw_has {q : Pt} : ∀ {m : Nat}, flwB b cs t k p m = some q → b.has q = true
  | 0, h => by cases h
  | m + 1, h => by
    unfold flwB at h
    split at h
    · rename_i hf
      cases h
      unfold floB at hf
      rw [Bool.and_eq_true] at hf
      exact fre_has hf.2
    · exact flw_has h
theorem tgt_has {q : Pt} (h : tgtB b cs t k p = some q) : b.has p = true ∧ b.has q = true := by
  unfold tgtB at h
  split at h
  · cases h
  · rename_i hp
    refine ⟨by simpa using hp, ?_⟩
    split at h
    · split at h
      · rename_i hc
        cases h
        rw [Bool.and_eq_true] at hc
        exact hc.1
      · cases h
    · split at h
      · split at h
        · rename_i hc
          cases h
          exact fre_has hc
        · exact flw_has h
      · cases h
/-- The leaf of a target that another one gives. -/
theorem tlE {T U : Option Pt} (h : U = T) (hr : ∀ q, T = some q → (-1048576 ≤ q.1 ∧ q.1 ≤ 1048576) ∧ (-1048576 ≤ q.2.1 ∧ q.2.1 ≤ 1048576) ∧ (-1048576 ≤ q.2.2 ∧ q.2.2 ≤ 1048576)) :
    (((U.getD (0, 0, 0)).1 = (T.getD (0, 0, 0)).1 ∧ -1048576 ≤ (T.getD (0, 0, 0)).1 ∧ (T.getD (0, 0, 0)).1 ≤ 1048576) ∧ (((U.getD (0, 0, 0)).2.1 = (T.getD (0, 0, 0)).2.1 ∧ -1048576 ≤ (T.getD (0, 0, 0)).2.1 ∧ (T.getD (0, 0, 0)).2.1 ≤ 1048576) ∧ ((U.getD (0, 0, 0)).2.2 = (T.getD (0, 0, 0)).2.2 ∧ -1048576 ≤ (T.getD (0, 0, 0)).2.2 ∧ (T.getD (0, 0, 0)).2.2 ≤ 1048576))) ∧ ((U.isSome = true ↔ T.isSome = true) ∧ True) := by
  subst h
  cases U with
  | none => exact ⟨⟨⟨rfl, by decide, by decide⟩, ⟨rfl, by decide, by decide⟩, ⟨rfl, by decide, by decide⟩⟩, Iff.rfl, trivial⟩
  | some q =>
    obtain ⟨h1, h2, h3⟩ := hr q rfl
    exact ⟨⟨⟨rfl, h1⟩, ⟨rfl, h2⟩, ⟨rfl, h3⟩⟩, Iff.rfl, trivial⟩
theorem tmod_k : ((Int.tmod k 4 + 4) % 4 + i) % 4 = (k + i) % 4 := by
  have := Int.tmod_add_mul_tdiv k 4
  omega
theorem flw_mod : flwB b cs t (k % 4) p n.toNat = flwB b cs t k p n.toNat := by
  generalize n.toNat = m
  induction m with
  | zero => rfl
  | succ m ih =>
    show (if floB b cs t p ((k % 4 + (3 - (m : Int))) % 4) then _ else _) = if floB b cs t p ((k + (3 - (m : Int))) % 4) then _ else _
    rw [show (k % 4 + (3 - (m : Int))) % 4 = (k + (3 - (m : Int))) % 4 by omega, ih]
theorem tgt_mod : tgtB b cs t (k % 4) p = tgtB b cs t k p := by
  unfold tgtB
  have := flw_mod (b := b) (cs := cs) (t := t) (k := k) (p := p) (n := 4)
  rw [show (4 : Int).toNat = 4 from rfl] at this
  rw [this]
theorem dir_x {x y z : Int} : (bif decide (d = 0) then x + 1 else bif decide (d = 1) then x else bif decide (d = 2) then x - 1 else x) = (dirP (x, y, z) d).1 := by
  unfold dirP
  simp only [Bool.cond_eq_ite, decide_eq_true_eq]
  split
  · rfl
  · split
    · rfl
    · split <;> rfl
theorem dir_y {x y z : Int} : (bif decide (d = 0) then y else bif decide (d = 1) then y + 1 else bif decide (d = 2) then y else y - 1) = (dirP (x, y, z) d).2.1 := by
  unfold dirP
  simp only [Bool.cond_eq_ite, decide_eq_true_eq]
  split
  · rfl
  · split
    · rfl
    · split <;> rfl
theorem dir_z {x y z : Int} : z = (dirP (x, y, z) d).2.2 := by
  unfold dirP
  split
  · rfl
  · split
    · rfl
    · split <;> rfl
theorem dir_rng {x y z : Int} (hx : -1048575 ≤ x ∧ x < 1048575) (hy : -1048575 ≤ y ∧ y < 1048575) (hz : -1048575 ≤ z ∧ z < 1048575) : (-1048576 ≤ (dirP (x, y, z) d).1 ∧ (dirP (x, y, z) d).1 ≤ 1048576) ∧ (-1048576 ≤ (dirP (x, y, z) d).2.1 ∧ (dirP (x, y, z) d).2.1 ≤ 1048576) := by
  unfold dirP
  split
  · simp only; omega
  · split
    · simp only; omega
    · split
      · simp only; omega
      · simp only; omega
end
section
variable {a b c d e f l t k x y z i : X}
theorem q870_0 : Px 870 [a, b, c, d, e, f, l, t, k, x, y, z, xI 0] := ⟨Int.le_refl _, (by decide), rfl⟩
theorem q870_s {D : Int} (h : Px 870 [a, b, c, d, e, f, l, t, k, x, y, z, i]) (hi : i.i < 4) (hd : (k.i + i.i) % 4 = D) (hn : ¬ floB (bxX a b c d e f) (lstX deI l) t (x.i, y.i, z.i) D = true) : Px 870 [a, b, c, d, e, f, l, t, k, x, y, z, xI (i.i + 1)] := by
  obtain ⟨h0, h1, h2⟩ := h
  refine ⟨show 0 ≤ i.i + 1 by omega, show i.i + 1 ≤ 4 by omega, ?_⟩
  rw [flw_step h0 hi, hd, if_neg hn] at h2
  exact h2
theorem q870_e {D : Int} (h : Px 870 [a, b, c, d, e, f, l, t, k, x, y, z, i]) (hi : i.i < 4) (hd : (k.i + i.i) % 4 = D) (hn : floB (bxX a b c d e f) (lstX deI l) t (x.i, y.i, z.i) D = true) : flwB (bxX a b c d e f) (lstX deI l) t k.i (x.i, y.i, z.i) 4 = some (dnP (dirP (x.i, y.i, z.i) D)) := by
  obtain ⟨h0, h1, h2⟩ := h
  rw [flw_step h0 hi, hd, if_pos hn] at h2
  exact h2.symm
theorem q870_n (h : Px 870 [a, b, c, d, e, f, l, t, k, x, y, z, i]) (hi : ¬ i.i < 4) : flwB (bxX a b c d e f) (lstX deI l) t k.i (x.i, y.i, z.i) 4 = none := by
  obtain ⟨h0, h1, h2⟩ := h
  rw [show (4 - i.i).toNat = 0 by omega] at h2
  exact h2.symm
end
end Vc
end Go.Proofs.YtgbaelpcbhgdjaaDoor
