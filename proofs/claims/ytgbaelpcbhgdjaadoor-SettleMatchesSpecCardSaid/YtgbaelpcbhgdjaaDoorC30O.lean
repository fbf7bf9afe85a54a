/- Layer 30, plain: what the laws ask of rounds. -/
import Derived.Test.YtgbaelpcbhgdjaaDoorC30N
namespace Go.Proofs.YtgbaelpcbhgdjaaDoor
namespace Vc
open Go Go.RowKit
set_option linter.unusedVariables false

section
variable {b : Bx} {t : X} {cs : List Int} {k : Int}
theorem getD_mem {i : Nat} (h : i < cs.length) : cs.getD i 0 ∈ cs := by
  rw [List.getD_eq_getElem?_getD, List.getElem?_eq_getElem h]
  exact List.getElem_mem h
theorem swp_mem {i j : Nat} {x : Int} (hi : i < cs.length) (hj : j < cs.length) (h : x ∈ swpL cs i j) : x ∈ cs := by
  unfold swpL at h
  rcases List.mem_or_eq_of_mem_set h with h | h
  · rcases List.mem_or_eq_of_mem_set h with h | h
    · exact h
    · rw [h]
      exact getD_mem hj
  · rw [h]
    exact getD_mem hi
theorem swp_count {i j : Nat} {x : Int} (hi : i < cs.length) (hj : j < cs.length) (hd : i ≠ j) : (swpL cs i j).count x = cs.count x := by
  unfold swpL
  have e1 : (cs.set i (cs.getD j 0))[j]'(by rw [List.length_set]; exact hj) = cs[j] := List.getElem_set_ne hd _
  rw [List.count_set (by rw [List.length_set]; exact hj), List.count_set hi, e1, List.getD_eq_getElem?_getD, List.getD_eq_getElem?_getD, List.getElem?_eq_getElem hi, List.getElem?_eq_getElem hj]
  have h1 : (if cs[i] == x then 1 else 0) ≤ cs.count x := by
    split
    · rename_i h
      have h : cs[i] = x := by simpa using h
      rw [← h]
      exact List.count_pos_iff.2 (List.getElem_mem hi)
    · exact Nat.zero_le _
  show cs.count x - (if (cs[i] == x) = true then 1 else 0) + (if (cs[j] == x) = true then 1 else 0) - (if (cs[j] == x) = true then 1 else 0) + (if (cs[i] == x) = true then 1 else 0) = cs.count x
  generalize (if (cs[i] == x) = true then 1 else 0) = u at *
  generalize (if (cs[j] == x) = true then 1 else 0) = v at *
  omega
/-- What each move of a round leaves as it was. -/
theorem rnd_ind (ht : tabT t) (hv : b.vol = cs.length) {R : List Int → Prop} (h0 : R cs) (hs : ∀ (c : List Int) (i j : Nat) (q : Pt), c.length = cs.length → R c → i < c.length → j < c.length → i ≠ j → tgtB b c t k (b.at i) = some q → b.idx q = j → b.has (b.at i) = true → b.has q = true → R (swpL c i j)) : ∀ {n : Nat}, n ≤ cs.length → R (rndB b t k cs n).1
  | 0, _ => h0
  | n + 1, hn => by
    have ih := rnd_ind ht hv h0 hs (n := n) (by omega)
    have i1 := (rnd_pot (k := k) ht hv (n := n) (by omega)).1
    have e : rndB b t k cs (n + 1) = match tgtB b (rndB b t k cs n).1 t k (b.at n) with
      | some q => (swpL (rndB b t k cs n).1 n (b.idx q).toNat, (rndB b t k cs n).2 + 1)
      | none => rndB b t k cs n := rfl
    rw [e]
    cases hq : tgtB b (rndB b t k cs n).1 t k (b.at n) with
    | none => exact ih
    | some q =>
      have hh := tgt_has hq
      have hd := tgt_dn ht hq
      have hqi := idx_ok hh.2
      have hne : n ≠ (b.idx q).toNat := fun hx => by
        have : b.at ((b.idx q).toNat : Nat) = q := by
          rw [Int.toNat_of_nonneg hqi.1]
          exact at_idx hh.2
        rw [← hx] at this
        rw [this] at hd
        omega
      exact hs _ n (b.idx q).toNat q i1 ih (by omega) (by omega) hne hq (by omega) hh.1 hh.2
theorem rndL_mem (ht : tabT t) (hv : b.vol = cs.length) {x : Int} (h : x ∈ rndL b t k cs) : x ∈ cs :=
  rnd_ind (R := fun c => ∀ x, x ∈ c → x ∈ cs) ht hv (fun _ h => h) (fun c i j q hl hR hi hj _ _ _ _ _ x hx => hR x (swp_mem hi hj hx)) (Nat.le_refl _) x h
theorem rndL_count (ht : tabT t) (hv : b.vol = cs.length) (x : Int) : (rndL b t k cs).count x = cs.count x :=
  rnd_ind (R := fun c => c.count x = cs.count x) ht hv rfl (fun c i j q hl hR hi hj hd _ _ _ _ => (swp_count hi hj hd).trans hR) (Nat.le_refl _)
theorem rndL_len (ht : tabT t) (hv : b.vol = cs.length) : (rndL b t k cs).length = cs.length := (rnd_pot ht hv (Nat.le_refl _)).1
end
theorem val_len {g : Gr} (h : validG g = true) : g.bx.vol = g.cs.length := by
  unfold validG at h
  simp only [Bool.and_eq_true, decide_eq_true_eq] at h
  exact h.1.2
theorem val_high {g : Gr} (h : validG g = true) : g.bx.f - g.bx.c ≤ 2097151 := by
  unfold validG Bx.in20 Vc.in20 at h
  simp only [Bool.and_eq_true, decide_eq_true_eq] at h
  omega
theorem val_rnd {b : Bx} {cs : List Int} {t : X} {k : Int} (ht : tabT t) (h : validG ⟨b, cs⟩ = true) : validG ⟨b, rndL b t k cs⟩ = true := by
  have hv : b.vol = cs.length := val_len h
  have hl : (rndL b t k cs).length = cs.length := rndL_len ht hv
  unfold validG at h ⊢
  simp only [Bool.and_eq_true, decide_eq_true_eq] at h ⊢
  refine ⟨⟨h.1.1, by rw [hl]; exact h.1.2⟩, ?_⟩
  rw [List.all_eq_true] at h ⊢
  exact fun x hx => h.2 x (rndL_mem ht hv hx)
section
variable {b : Bx} {t : X} {cs : List Int} {k most : Int}
theorem rnd_tick {k' : Int} (h : k % 4 = k' % 4) : ∀ (n : Nat), rndB b t k cs n = rndB b t k' cs n
  | 0 => rfl
  | n + 1 => by
    have ih := rnd_tick h n
    show (match tgtB b (rndB b t k cs n).1 t k (b.at n) with | some q => (swpL (rndB b t k cs n).1 n (b.idx q).toNat, (rndB b t k cs n).2 + 1) | none => rndB b t k cs n) = (match tgtB b (rndB b t k' cs n).1 t k' (b.at n) with | some q => (swpL (rndB b t k' cs n).1 n (b.idx q).toNat, (rndB b t k' cs n).2 + 1) | none => rndB b t k' cs n)
    rw [ih, ← tgt_mod (k := k), ← tgt_mod (k := k'), h]
theorem rndL_tick {k' : Int} (h : k % 4 = k' % 4) : rndL b t k cs = rndL b t k' cs := congrArg Prod.fst (rnd_tick h _)
/-- What holds at the end of the rounds. -/
theorem set_ind (ht : tabT t) (hb : b.f - b.c ≤ 2097151) {R : Int → List Int → Prop} (hs : ∀ n c, b.vol = c.length → R n c → ¬ stlL b t c = true → R (n + 1) (rndL b t (k % 4 + n) c)) : ∀ (m : Nat) (n : Int) (c : List Int), b.vol = c.length → potL b t c ≤ m → R n c → b.vol = (setP b t k most n c).1.length ∧ R (setP b t k most n c).2.1 (setP b t k most n c).1 ∧ (((setP b t k most n c).2.2 = 0 ∧ stlL b t (setP b t k most n c).1 = true) ∨ ((setP b t k most n c).2.2 = 19 ∧ ¬ stlL b t (setP b t k most n c).1 = true ∧ most ≤ (setP b t k most n c).2.1)) := by
  intro m
  induction m with
  | zero =>
    intro n c hv hm hR
    have h0 : stlL b t c = true := Decidable.byContradiction fun hx => by
      have := rnd_dn (k := 0) ht hb hv hx
      omega
    rw [set_stl h0]
    exact ⟨hv, hR, .inl ⟨rfl, h0⟩⟩
  | succ m ih =>
    intro n c hv hm hR
    by_cases h0 : stlL b t c = true
    · rw [set_stl h0]
      exact ⟨hv, hR, .inl ⟨rfl, h0⟩⟩
    · by_cases h1 : most ≤ n
      · rw [set_end ht hb hv h0 h1]
        exact ⟨hv, hR, .inr ⟨rfl, h0, h1⟩⟩
      · rw [set_step ht hb hv h0 h1]
        have hd := rnd_dn (k := k % 4 + n) ht hb hv h0
        exact ih (n + 1) _ (by omega) (by omega) (hs n c hv hR h0)
theorem set_shift (ht : tabT t) (hb : b.f - b.c ≤ 2097151) : ∀ (m : Nat) (n : Int) (c : List Int), b.vol = c.length → potL b t c ≤ m → setP b t k (most + 1) (n + 1) c = ((setP b t (k + 1) most n c).1, (setP b t (k + 1) most n c).2.1 + 1, (setP b t (k + 1) most n c).2.2) := by
  intro m
  induction m with
  | zero =>
    intro n c hv hm
    have h0 : stlL b t c = true := Decidable.byContradiction fun hx => by
      have := rnd_dn (k := 0) ht hb hv hx
      omega
    rw [set_stl h0, set_stl h0]
  | succ m ih =>
    intro n c hv hm
    by_cases h0 : stlL b t c = true
    · rw [set_stl h0, set_stl h0]
    · by_cases h1 : most ≤ n
      · rw [set_end ht hb hv h0 (by omega), set_end ht hb hv h0 h1]
      · have hd := rnd_dn (k := k % 4 + (n + 1)) ht hb hv h0
        rw [set_step ht hb hv h0 (by omega), set_step ht hb hv h0 h1, rndL_tick (k := (k + 1) % 4 + n) (k' := k % 4 + (n + 1)) (by omega)]
        exact ih (n + 1) _ (by omega) (by omega)
/-- Settling with the potential as the greatest number of rounds. -/
theorem set_most (ht : tabT t) (hg : validG ⟨b, cs⟩ = true) (hm : potL b t cs ≤ most) : (setR b t k most cs).2.2 = 0 ∧ (setR b t k most cs).2.1 ≤ most ∧ stlL b t (setR b t k most cs).1 = true ∧ validG ⟨b, (setR b t k most cs).1⟩ = true ∧ potL b t (setR b t k most cs).1 ≤ potL b t cs := by
  have hv : b.vol = cs.length := val_len hg
  have hb : b.f - b.c ≤ 2097151 := val_high hg
  obtain ⟨h1, ⟨h2, h3, h4⟩, h5⟩ := set_ind (k := k) (most := most) (R := fun n c => 0 ≤ n ∧ n + potL b t c ≤ potL b t cs ∧ validG ⟨b, c⟩ = true) ht hb (fun n c hc hR hs => by
    have hd := rnd_dn (k := k % 4 + n) ht hb hc hs
    exact ⟨by omega, by omega, val_rnd ht hR.2.2⟩) (potL b t cs).toNat 0 cs hv (by omega) ⟨Int.le_refl _, by omega, hg⟩
  have e : setP b t k most 0 cs = setR b t k most cs := rfl
  rw [e] at h1 h2 h3 h4 h5
  have hp := pot_bnd (t := t) (cs := (setR b t k most cs).1) hb (n := (setR b t k most cs).1.length) (by omega)
  have hp : 0 ≤ potL b t (setR b t k most cs).1 := hp.1
  rcases h5 with h5 | h5
  · exact ⟨h5.1, by omega, h5.2, h4, by omega⟩
  · have hd := rnd_dn (k := 0) ht hb h1 h5.2.1
    omega
theorem set_clock (ht : tabT t) (hg : validG ⟨b, cs⟩ = true) (hm : 0 < most) (hn : ¬ rndM b t k cs = 0) : setR b t k most cs = ((setR b t (k + 1) (most - 1) (rndL b t k cs)).1, (setR b t (k + 1) (most - 1) (rndL b t k cs)).2.1 + 1, (setR b t (k + 1) (most - 1) (rndL b t k cs)).2.2) := by
  have hv : b.vol = cs.length := val_len hg
  have hb : b.f - b.c ≤ 2097151 := val_high hg
  have hs : ¬ stlL b t cs = true := fun hx => hn (congrArg Prod.snd (rnd_stl hx))
  have hd := rnd_dn (k := k) ht hb hv hs
  show setP b t k most 0 cs = _
  rw [set_step ht hb hv hs (by omega), rndL_tick (k := k % 4 + 0) (k' := k) (by omega)]
  have h := set_shift (k := k) (most := most - 1) ht hb (potL b t cs).toNat 0 (rndL b t k cs) (by omega) (by omega)
  rw [show most - 1 + 1 = most by omega] at h
  exact h
end
section
variable {a b c d e f k m : Int} {l t : X}
theorem f846 : lstX deI (Ff 846 [xI a, xI b, xI c, xI d, xI e, xI f, l, t, xI k, xI m]) = (setR (bxI a b c d e f) t k m (lstX deI l)).1 := lstX_rowG (enc := enI) (dec := deI) (fun _ => rfl) _
theorem f847 : (Ff 847 [xI a, xI b, xI c, xI d, xI e, xI f, l, t, xI k, xI m]).i = (setR (bxI a b c d e f) t k m (lstX deI l)).2.1 := rfl
theorem f848 : (Ff 848 [xI a, xI b, xI c, xI d, xI e, xI f, l, t, xI k, xI m]).i = (setR (bxI a b c d e f) t k m (lstX deI l)).2.2 := rfl
end
def fixX (t : X) (n : Int) : Prop := solX t n = true ∧ ¬ falX t n = true
section
variable {b : Bx} {t : X} {cs : List Int} {k : Int} {p q : Pt}
theorem fre_fix (h : freB b cs t q = true) : ¬ fixX t (getL b cs q) := fun hx => by
  unfold freB at h
  rw [Bool.and_eq_true] at h
  exact (fre_iff.1 h.2).1 hx.1
/-- Neither what moves nor what it moves into is fixed. -/
theorem tgt_fix (ht : tabT t) (h : tgtB b cs t k p = some q) : ¬ fixX t (getL b cs p) ∧ ¬ fixX t (getL b cs q) := by
  have hp := (tgt_has h).1
  by_cases hf : falX t (getL b cs p) = true
  · refine ⟨fun hx => hx.2 hf, fun hx => ?_⟩
    rw [tgt_fall hp hf] at h
    split at h
    · rename_i hc
      cases h
      rw [Bool.and_eq_true, Bool.not_eq_true'] at hc
      exact Bool.false_ne_true (hc.2.symm.trans hx.1)
    · cases h
  · by_cases hl : liqX t (getL b cs p) = true
    · refine ⟨fun hx => (ht _).2 ⟨hx.1, hl⟩, ?_⟩
      rw [tgt_liq hp hf hl] at h
      split at h
      · rename_i hc
        cases h
        exact fre_fix hc
      · exact fre_fix (flw_dn h).2
    · rw [tgt_stay hp hf hl] at h
      cases h
theorem rndL_fix (ht : tabT t) (hv : b.vol = cs.length) {a : Nat} (h : fixX t ((rndL b t k cs).getD a 0) ∨ fixX t (cs.getD a 0)) : (rndL b t k cs).getD a 0 = cs.getD a 0 := by
  refine rnd_ind (k := k) (R := fun c => ∀ a, fixX t (c.getD a 0) ∨ fixX t (cs.getD a 0) → c.getD a 0 = cs.getD a 0) ht hv (fun _ _ => rfl) (fun c i j q hl hR hi hj hd hq hij hpi hqi a ha => ?_) (Nat.le_refl _) a h
  have hx := tgt_fix ht hq
  have hii := idx_at (b := b) (i := (i : Int)) (by omega) (by omega)
  rw [getL_idx hpi, getL_idx hqi, hij, hii, show ((i : Int)).toNat = i from rfl, show ((j : Int)).toNat = j from rfl] at hx
  have e : (swpL c i j).getD a 0 = if j = a then c.getD i 0 else if i = a then c.getD j 0 else c.getD a 0 := by
    unfold swpL
    rw [gset (by rw [List.length_set]; exact hj), gset hi]
  rw [e] at ha ⊢
  by_cases h1 : j = a
  · subst h1
    rw [if_pos rfl] at ha
    rcases ha with ha | ha
    · exact absurd ha hx.1
    · have := hR j (.inr ha)
      rw [← this] at ha
      exact absurd ha hx.2
  · rw [if_neg h1] at ha ⊢
    by_cases h2 : i = a
    · subst h2
      rw [if_pos rfl] at ha
      rcases ha with ha | ha
      · exact absurd ha hx.2
      · have := hR i (.inr ha)
        rw [← this] at ha
        exact absurd ha hx.1
    · rw [if_neg h2] at ha ⊢
      exact hR a ha
end
theorem set2_swp {b : Bx} {cs : List Int} {q : Pt} {i : Nat} (hv : b.vol = cs.length) (hi : i < cs.length) (hq : b.has q = true) : setL b (setL b cs (b.at i) (getL b cs q)) q (getL b cs (b.at i)) = swpL cs i (b.idx q).toNat := by
  have hii := idx_at (b := b) (i := (i : Int)) (by omega) (by omega)
  have hp := at_has (b := b) (i := (i : Int)) (by omega) (by omega)
  have hqi := idx_ok hq
  rw [getL_idx hp, getL_idx hq]
  unfold setL swpL
  rw [if_pos hqi.1, hii, if_pos (by omega)]
  rfl
theorem val_swp {b : Bx} {cs : List Int} {i j : Nat} (h : validG ⟨b, cs⟩ = true) (hi : i < cs.length) (hj : j < cs.length) : validG ⟨b, swpL cs i j⟩ = true := by
  unfold validG at h ⊢
  simp only [Bool.and_eq_true, decide_eq_true_eq] at h ⊢
  refine ⟨⟨h.1.1, by rw [swp_len]; exact h.1.2⟩, ?_⟩
  rw [List.all_eq_true] at h ⊢
  exact fun x hx => h.2 x (swp_mem hi hj hx)
theorem val_set {b : Bx} {cs : List Int} {p : Pt} {n : Int} (h : validG ⟨b, cs⟩ = true) (hn : n ∈ cs) : validG ⟨b, setL b cs p n⟩ = true := by
  unfold setL
  split
  · unfold validG at h ⊢
    simp only [Bool.and_eq_true, decide_eq_true_eq] at h ⊢
    refine ⟨⟨h.1.1, by rw [List.length_set]; exact h.1.2⟩, ?_⟩
    rw [List.all_eq_true] at h ⊢
    intro x hx
    rcases List.mem_or_eq_of_mem_set hx with hx | hx
    · exact h.2 x hx
    · rw [hx]
      exact h.2 n hn
  · exact h
end Vc
end Go.Proofs.YtgbaelpcbhgdjaaDoor
