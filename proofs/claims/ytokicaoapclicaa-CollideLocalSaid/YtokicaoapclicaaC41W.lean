/- Layer 41, plain: what the walk over the boxes owes. -/
import Derived.Test.YtokicaoapclicaaC41Q
namespace Go.Proofs.Ytokicaoapclicaa
namespace Vc
open Go Go.RowKit
set_option linter.unusedVariables false

theorem rowG_at {α : Type} {en : α → Int → Y} {L : List α} {j : Int} {a : α} (h : L[j.toNat]? = some a) : (rowG en L).r j = en a := by
  funext p
  show (match L[j.toNat]? with | some a => en a p | none => y0) = _
  rw [h]
theorem ov_take {L : List Bx} {x : X} {k : Int} {q : Bx} (hL : lstX deX (mkX x.r x.i) = L) (h0 : 0 ≤ k) (h1 : k ≤ x.i) : ovB (lstX deX (mkX (rwSh x.r 0) k)) q = ovB (L.take k.toNat) q := by
  rw [lstX_sh (n := x.i) (by omega) (by omega) h0, hL]
  rfl
theorem sumV_nn : ∀ (L : List Bx), 0 ≤ (L.map Bx.vol).sum
  | [] => Int.le_refl _
  | x :: L => by
    have := sumV_nn L
    have := vol_nn (b := x)
    simp only [List.map_cons, List.sum_cons]
    omega
theorem sumV_step {L : List Bx} {i : Nat} {x : Bx} (h : L[i]? = some x) : ((L.take (i + 1)).map Bx.vol).sum = ((L.take i).map Bx.vol).sum + x.vol := by
  rw [List.take_add_one, h]
  simp
theorem sumV_le {L : List Bx} (i : Nat) : ((L.take i).map Bx.vol).sum ≤ (L.map Bx.vol).sum := by
  have h : (L.map Bx.vol).sum = ((L.take i).map Bx.vol).sum + ((L.drop i).map Bx.vol).sum := by
    rw [← List.sum_append, ← List.map_append, List.take_append_drop]
  have := sumV_nn (L.drop i)
  omega
theorem cnt_take {op : List Bool} {k : Nat} (h : k < op.length) : (op.take (k + 1)).count true = (op.take k).count true + (if op.getD k false = true then 1 else 0) := by
  rw [List.take_add_one, List.getElem?_eq_getElem h, List.count_append, List.getD_eq_getElem?_getD, List.getElem?_eq_getElem h]
  cases op[k] <;> simp
theorem cnt_le {op : List Bool} {k : Nat} : (op.take k).count true ≤ k := Nat.le_trans List.count_le_length (by rw [List.length_take]; omega)
theorem ex_step {P : Nat → Prop} {k : Int} (h0 : 0 ≤ k) : (∃ j : Nat, (j : Int) < k + 1 ∧ P j) ↔ (∃ j : Nat, (j : Int) < k ∧ P j) ∨ P k.toNat := by
  constructor
  · rintro ⟨j, h1, h2⟩
    by_cases e : (j : Int) = k
    · right
      rwa [show k.toNat = j by omega]
    · exact .inl ⟨j, by omega, h2⟩
  · rintro (⟨j, h1, h2⟩ | h)
    · exact ⟨j, by omega, h2⟩
    · exact ⟨k.toNat, by omega, h⟩
section
variable {l t : X}
theorem sol_getD {k : Int} (h0 : 0 ≤ k) (h1 : k < l.i) : (solL (lstX deI l) t).getD k.toNat false = solX t (l.r k 0).i := by
  unfold solL
  rw [List.getD_eq_getElem?_getD, List.getElem?_map, lstX_get (by omega), Int.toNat_of_nonneg h0]
  rfl
theorem sol_cnt (h0 : 0 ≤ l.i) : ((solL (lstX deI l) t).count true : Int) ≤ l.i := by
  have := List.count_le_length (a := true) (l := solL (lstX deI l) t)
  rw [sol_len] at this
  omega
/-- One cell more. -/
theorem q643_s {a b c d e f ba bb bc bd be bf k n u m v : X} (h : Px 643 [a, b, c, d, e, f, l, t, ba, bb, bc, bd, be, bf, k, n, u]) (hk : k.i < l.i)
    (hm : m.i = n.i + (if solX t (l.r k.i 0).i = true then 1 else 0)) (hv : v.b = true ↔ u.b = true ∨ (solX t (l.r k.i 0).i = true ∧ (bxX ba bb bc bd be bf).has ((bxX a b c d e f).at k.i) = true)) :
    Px 643 [a, b, c, d, e, f, l, t, ba, bb, bc, bd, be, bf, xI (k.i + 1), m, v] := by
  obtain ⟨h0, h1, h2, h3⟩ := h
  refine ⟨show 0 ≤ k.i + 1 by omega, show k.i + 1 ≤ l.i by omega, ?_, ?_⟩
  · show m.i = (((solL (lstX deI l) t).take (k.i + 1).toNat).count true : Nat)
    rw [show (k.i + 1).toNat = k.i.toNat + 1 by omega, cnt_take (by rw [sol_len]; omega), sol_getD h0 hk, hm, h2]
    split <;> simp
  · show v.b = true ↔ ∃ j : Nat, (j : Int) < k.i + 1 ∧ _
    rw [ex_step h0, hv, h3, sol_getD h0 hk, Int.toNat_of_nonneg h0]
end
section
variable {g b : Bx} {cs : List Int} {t : X} {p : Pt} {n : Int}
theorem setL_len : (setL g cs p n).length = cs.length := by
  unfold setL
  split
  · rw [List.length_set]
  · rfl
/-- A cell outside a body does not matter to it. -/
theorem ov_set (ho : (cs.length : Int) = g.vol) (hb : ¬ b.has p = true) : ovB (boxesB g (solL cs t)) b = ovB (boxesB g (solL (setL g cs p n) t)) b := by
  have h1 : ((solL cs t).length : Int) = g.vol := by unfold solL; rw [List.length_map]; exact ho
  have h2 : ((solL (setL g cs p n) t).length : Int) = g.vol := by unfold solL; rw [List.length_map, setL_len]; exact ho
  rw [Bool.eq_iff_iff, box_ov h1, box_ov h2]
  have key : ∀ j : Nat, b.has (g.at j) = true → (solL (setL g cs p n) t).getD j false = (solL cs t).getD j false := fun j hj => by
    unfold setL
    split
    · rename_i h0
      have hp := at_idx (idx_has.1 h0)
      unfold solL
      rw [List.map_set, getD_set, if_neg]
      rintro ⟨e, _⟩
      rw [← e, Int.toNat_of_nonneg h0, hp] at hj
      exact hb hj
    · rfl
  constructor
  · rintro ⟨j, k1, k2, k3⟩
    exact ⟨j, k1, by rw [key j k3]; exact k2, k3⟩
  · rintro ⟨j, k1, k2, k3⟩
    exact ⟨j, k1, by rw [← key j k3]; exact k2, k3⟩
end
end Vc
end Go.Proofs.Ytokicaoapclicaa
