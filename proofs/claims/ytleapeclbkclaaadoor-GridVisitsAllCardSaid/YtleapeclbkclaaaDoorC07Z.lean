/- Layer 7, plain: what the laws ask. -/
import Derived.Test.YtleapeclbkclaaaDoorC07T
namespace Go.Proofs.YtleapeclbkclaaaDoor
namespace Vc
open Go Go.RowKit
set_option linter.unusedVariables false

section
variable {b b' : Bx} {cs cs' : List Int} {p q : Pt} {n s : Int}
theorem eqG_self : eqG b cs b cs = true := by
  unfold eqG
  simp
theorem eqG_of (h : b = b') (h2 : cs = cs') : eqG b cs b' cs' = true := by
  subst h h2
  exact eqG_self
theorem val_len {g : Gr} (h : validG g = true) : g.bx.vol = g.cs.length := by
  unfold validG at h
  simp only [Bool.and_eq_true, decide_eq_true_eq] at h
  exact h.1.2
theorem val_mat {g : Gr} (h : validG g = true) : g.cs.all matB = true := by
  unfold validG at h
  simp only [Bool.and_eq_true] at h
  exact h.2
/-- Another list of as many materials in the same box. -/
theorem val_cells (h : validG ⟨b, cs⟩ = true) (hl : cs'.length = cs.length) (hm : cs'.all matB = true) : validG ⟨b, cs'⟩ = true := by
  unfold validG at h ⊢
  simp only [Bool.and_eq_true, decide_eq_true_eq] at h ⊢
  exact ⟨⟨h.1.1, by rw [hl]; exact h.1.2⟩, hm⟩
theorem val_setM (h : validG ⟨b, cs⟩ = true) (hn : matB n = true) : validG ⟨b, setL b cs p n⟩ = true := by
  refine val_cells h set_len ?_
  have hm : cs.all matB = true := val_mat h
  unfold setL
  split
  · refine List.all_eq_true.2 fun x hx => ?_
    rcases List.mem_or_eq_of_mem_set hx with h1 | h1
    · exact List.all_eq_true.1 hm x h1
    · rw [h1]; exact hn
  · exact hm
theorem getL_has (h : b.has p = true) : getL b cs p = cs.getD (b.idx p).toNat 0 := if_pos (idx_ok h).1
theorem getL_no (h : ¬ b.has p = true) : getL b cs p = 0 := if_neg fun h' => h (idx_has.1 h')
theorem get_set (hv : b.vol = cs.length) : getL b (setL b cs p n) p = if b.has p = true then n else 0 := by
  split
  · rename_i h
    have hi := idx_ok h
    rw [getL_has h]
    unfold setL
    rw [if_pos hi.1, getD_set, if_pos ⟨rfl, by omega⟩]
  · rename_i h
    rw [getL_no h]
theorem get_set_ne (h : p ≠ q) : getL b (setL b cs p n) q = getL b cs q := by
  by_cases hq : b.has q = true
  · rw [getL_has hq, getL_has hq]
    unfold setL
    split
    · rename_i hp
      have hp' := idx_has.1 hp
      rw [getD_set, if_neg]
      intro he
      have := idx_ok hq
      exact h (idx_inj hp' hq (by omega))
    · rfl
  · rw [getL_no hq, getL_no hq]
theorem getL_at (h : (n : Int) = n) {i : Nat} (hi : (i : Int) < b.vol) : getL b cs (b.at i) = cs.getD i 0 := by
  rw [getL_has (at_has (by omega) hi), idx_at (by omega) hi]
  rfl
/-- Two lists of a box's cells are equal if all cells are. -/
theorem getL_ext (h1 : b.vol = cs.length) (h2 : b.vol = cs'.length) (h : ∀ p, b.has p = true → getL b cs p = getL b cs' p) : cs = cs' := by
  refine ext_getD 0 (by omega) fun j hj => ?_
  have hj' : (j : Int) < b.vol := by omega
  have := h (b.at j) (at_has (by omega) hj')
  rwa [getL_at (n := 0) rfl hj', getL_at (n := 0) rfl hj'] at this
theorem get_pas (hv : b.vol = cs.length) : getL b (pasL b cs b' cs') p = if b.has p = true ∧ b'.has p = true then getL b' cs' p else getL b cs p := by
  by_cases h : b.has p = true
  · have hi := idx_ok h
    have hj : (b.idx p).toNat < cs.length := by omega
    have hat : b.at ((b.idx p).toNat : Nat) = p := by rw [Int.toNat_of_nonneg hi.1]; exact at_idx h
    rw [getL_has h, pas_getD hj, hat, getL_has (cs := cs) h]
    by_cases h' : b'.has p = true
    · rw [if_pos h', if_pos ⟨h, h'⟩]
    · rw [if_neg h', if_neg fun x => h' x.2]
  · rw [getL_no h, if_neg fun x => h x.1, getL_no h]
theorem pas_all (hm : cs.all matB = true) (hm' : cs'.all matB = true) : (pasL b cs b' cs').all matB = true := by
  refine List.all_eq_true.2 fun x hx => ?_
  unfold pasL at hx
  obtain ⟨i, hi, rfl⟩ := List.mem_map.1 hx
  have hd : ∀ {l : List Int} {k : Nat}, l.all matB = true → matB (l.getD k 0) = true := fun {l k} hl => by
    rw [List.getD_eq_getElem?_getD]
    cases hk : l[k]? with
    | none => rfl
    | some x => exact List.all_eq_true.1 hl x (List.mem_of_getElem? hk)
  split
  · exact hd hm'
  · exact hd hm
theorem val_pas (h : validG ⟨b, cs⟩ = true) (hm' : cs'.all matB = true) : validG ⟨b, pasL b cs b' cs'⟩ = true := val_cells h pas_len (pas_all (val_mat h) hm')
end
/-! ### Cropped and shifted -/
section
variable {b b' : Bx} {cs cs' : List Int} {p q : Pt} {n s : Int}
theorem isZ_eq (h : b.isZ = true) : b = bx0 := by
  unfold Bx.isZ at h
  simp only [Bool.and_eq_true, decide_eq_true_eq] at h
  exact bx_ext h.1.1.1.1.1 h.1.1.1.1.2 h.1.1.1.2 h.1.1.2 h.1.2 h.2
theorem val_box (h : validG ⟨b, cs⟩ = true) : b = bx0 ∨ neB b.a b.b b.c b.d b.e b.f := by
  unfold validG at h
  simp only [Bool.and_eq_true, Bool.or_eq_true, decide_eq_true_eq] at h
  rcases h.1.1.1.2 with h1 | h1
  · exact .inl (isZ_eq h1)
  · refine .inr (Decidable.byContradiction fun hn => h1 ?_)
    exact if_neg hn
theorem val_in (h : validG ⟨b, cs⟩ = true) : b.in20 = true := by
  unfold validG at h
  simp only [Bool.and_eq_true] at h
  exact h.1.1.1.1
theorem val_vol (h : validG ⟨b, cs⟩ = true) : b.vol ≤ 2097152 := by
  unfold validG at h
  simp only [Bool.and_eq_true, decide_eq_true_eq] at h
  exact h.1.1.2
theorem new_getL0 : getL (newB b 0) (newL b 0) p = 0 := by
  unfold getL
  split
  · unfold newL
    split
    · rw [List.getD_eq_getElem?_getD, List.getElem?_replicate]
      split <;> rfl
    · rfl
  · rfl
theorem newB_has (h : newE b 0 = 0) : (newB b 0).has p = b.has p := by
  by_cases hv : b.vol = 0
  · rw [new_b0 (.inr hv)]
    have h1 : ¬ b.has p = true := fun hh => by
      have := vol_pos' (ne_of_has hh)
      omega
    have h2 : ¬ bx0.has p = true := fun hh => by
      have := (ne_of_has hh).1
      exact absurd this (by decide)
    rw [Bool.not_eq_true] at h1 h2
    rw [h1, h2]
  · rw [new_b1 h hv]
theorem crp_get (h : newE b' 0 = 0) : getL (newB b' 0) (crpL b cs b') p = if b'.has p = true then getL b cs p else 0 := by
  unfold crpL
  rw [get_pas (val_len (g := ⟨newB b' 0, newL b' 0⟩) (new_val h)), newB_has h, new_getL0]
  by_cases h1 : b'.has p = true
  · rw [if_pos h1]
    by_cases h2 : b.has p = true
    · rw [if_pos ⟨h1, h2⟩]
    · rw [if_neg fun x => h2 x.2, getL_no h2]
  · rw [if_neg h1, if_neg fun x => h1 x.1]
theorem new_of (h : validG ⟨b, cs⟩ = true) : newE b 0 = 0 := new_e0 ⟨val_in h, rfl⟩ (by have := val_vol h; omega)
theorem newB_of (h : validG ⟨b, cs⟩ = true) : newB b 0 = b := by
  by_cases hv : b.vol = 0
  · rw [new_b0 (.inr hv)]
    rcases val_box h with h1 | h1
    · exact h1.symm
    · have : 0 < b.vol := vol_pos' h1
      omega
  · exact new_b1 (new_of h) hv
theorem val_crp (h : newE b' 0 = 0) (hm : cs.all matB = true) : validG ⟨newB b' 0, crpL b cs b'⟩ = true := val_pas (new_val h) hm
theorem crp_own (h : validG ⟨b, cs⟩ = true) : crpL b cs b = cs := by
  have hE := new_of h
  refine getL_ext (b := b) ?_ (val_len h) fun p hp => ?_
  · have := val_len (val_crp (b := b) (b' := b) (cs := cs) hE (val_mat h))
    rwa [newB_of h] at this
  · have := crp_get (b := b) (cs := cs) (p := p) hE
    rw [newB_of h, if_pos hp] at this
    exact this
/-- Cropped twice. -/
theorem crp_crp {c : Bx} (hb : newE b' 0 = 0) (hc : newE c 0 = 0) (hm : cs.all matB = true) (hco : coB b'.a b'.b b'.c b'.d b'.e b'.f c.a c.b c.c c.d c.e c.f) : crpL (newB b' 0) (crpL b cs b') c = crpL b cs c := by
  have hm2 : (crpL b cs b').all matB = true := val_mat (val_crp (b := b) hb hm)
  refine getL_ext (b := newB c 0) (val_len (val_crp hc hm2)) (val_len (val_crp hc hm)) fun p hp => ?_
  rw [newB_has hc] at hp
  rw [crp_get hc, crp_get hc, if_pos hp, if_pos hp, crp_get hb, if_pos]
  have h1 := has_def.1 hp
  have h2 := hco (ne_of_has hp)
  exact has_def.2 (by omega)
theorem shf_back {x y z : Int} : shfB (shfB b cs (x, y, z)) cs (x * (-1), y * (-1), z * (-1)) = b := by
  unfold shfB
  split
  · rfl
  · exact bx_ext (by show b.a + x + x * (-1) = b.a; omega) (by show b.b + y + y * (-1) = b.b; omega) (by show b.c + z + z * (-1) = b.c; omega) (by show b.d + x + x * (-1) = b.d; omega) (by show b.e + y + y * (-1) = b.e; omega) (by show b.f + z + z * (-1) = b.f; omega)
theorem shf_vol {x y z : Int} : (shfB b cs (x, y, z)).vol = b.vol := by
  unfold shfB
  split
  · rfl
  · show volB (b.a + x) (b.b + y) (b.c + z) (b.d + x) (b.e + y) (b.f + z) = volB b.a b.b b.c b.d b.e b.f
    unfold volB neB
    have e : (b.a + x < b.d + x ∧ b.b + y < b.e + y ∧ b.c + z < b.f + z) ↔ (b.a < b.d ∧ b.b < b.e ∧ b.c < b.f) := by omega
    rw [show b.d + x - (b.a + x) = b.d - b.a by omega, show b.e + y - (b.b + y) = b.e - b.b by omega, show b.f + z - (b.c + z) = b.f - b.c by omega]
    simp only [e]
theorem val_shf {x y z : Int} (h : validG ⟨b, cs⟩ = true) (hr : (shfB b cs (x, y, z)).in20 = true) : validG ⟨shfB b cs (x, y, z), cs⟩ = true := by
  have hl : b.vol = cs.length := val_len h
  have h0 := h
  unfold validG at h ⊢
  simp only [Bool.and_eq_true, Bool.or_eq_true, decide_eq_true_eq] at h ⊢
  refine ⟨⟨⟨⟨hr, ?_⟩, by rw [shf_vol]; exact h.1.1.2⟩, by rw [shf_vol]; exact h.1.2⟩, h.2⟩
  rcases h.1.1.1.2 with h1 | h1
  · have e := isZ_eq h1
    have e' : b = bx0 := e
    refine .inl ?_
    unfold shfB
    have hz : cs.length = 0 := by
      have : bx0.vol = 0 := rfl
      rw [e', this] at hl
      omega
    rw [if_pos hz]
    exact h1
  · exact .inr (by rw [shf_vol]; exact h1)
end
end Vc
end Go.Proofs.YtleapeclbkclaaaDoor
