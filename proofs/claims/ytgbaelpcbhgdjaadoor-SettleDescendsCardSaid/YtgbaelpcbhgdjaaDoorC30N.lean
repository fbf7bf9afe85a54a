/- Layer 30, plain: a round lessens the potential. -/
import Derived.Test.YtgbaelpcbhgdjaaDoorC30M
import Derived.Test.YtgbaelpcbhgdjaaDoorC07N
namespace Go.Proofs.YtgbaelpcbhgdjaaDoor
namespace Vc
open Go Go.RowKit
set_option linter.unusedVariables false

/-- A falling material is solid, and none is both solid and liquid. -/
def tabT (t : X) : Prop := ∀ n, (falX t n = true → solX t n = true) ∧ ¬ (solX t n = true ∧ liqX t n = true)
def wtX (t : X) (n : Int) : Int := (if liqX t n then 1 else 0) + (if falX t n then 2 else 0)
def hiB (b : Bx) (i : Nat) : Int := (b.at i).2.2 - b.c
section
variable {b : Bx} {t : X} {cs : List Int} {p q : Pt} {k m : Int}
theorem pot_succ {n : Nat} : potB b t cs (n + 1) = potB b t cs n + wtX t (cs.getD n 0) * hiB b n := by
  show potB b t cs n + (if liqX t (cs.getD n 0) then hiB b n else 0) + (if falX t (cs.getD n 0) then 2 * hiB b n else 0) = _
  unfold wtX
  generalize hiB b n = h
  cases liqX t (cs.getD n 0) <;> cases falX t (cs.getD n 0) <;> simp <;> omega
theorem gset {cs : List Int} {i j : Nat} {v : Int} (hi : i < cs.length) : (cs.set i v).getD j 0 = if i = j then v else cs.getD j 0 := by
  rw [List.getD_eq_getElem?_getD, List.getElem?_set, List.getD_eq_getElem?_getD]
  split
  · simp
  · rfl
theorem pot_set {i : Nat} {v : Int} (hi : i < cs.length) : ∀ (n : Nat), potB b t (cs.set i v) n = potB b t cs n + if i < n then (wtX t v - wtX t (cs.getD i 0)) * hiB b i else 0
  | 0 => by
    rw [if_neg (by omega)]
    rfl
  | n + 1 => by
    rw [pot_succ, pot_succ, pot_set hi n, gset hi]
    by_cases e : i = n
    · subst e
      rw [if_neg (by omega), if_pos rfl, if_pos (by omega), Int.sub_mul]
      omega
    · rw [if_neg e]
      by_cases e2 : i < n
      · rw [if_pos e2, if_pos (by omega)]
        omega
      · rw [if_neg e2, if_neg (by omega)]
        omega
theorem swp_len {i j : Nat} : (swpL cs i j).length = cs.length := by
  unfold swpL
  rw [List.length_set, List.length_set]
theorem pot_swp {i j n : Nat} (hi : i < cs.length) (hj : j < cs.length) (hn : n = cs.length) (hd : i ≠ j) (hh : hiB b j = hiB b i - 1) :
    potB b t (swpL cs i j) n = potB b t cs n - (wtX t (cs.getD i 0) - wtX t (cs.getD j 0)) := by
  unfold swpL
  rw [pot_set (by rw [List.length_set]; exact hj), pot_set hi, gset hi, if_neg hd, if_pos (by omega), if_pos (by omega), hh]
  generalize wtX t (cs.getD i 0) = u
  generalize wtX t (cs.getD j 0) = v
  generalize hiB b i = h
  have e : (v - u) * h + (u - v) * (h - 1) = -(u - v) := by
    rw [Int.mul_sub, Int.mul_one, Int.sub_mul, Int.sub_mul]
    omega
  omega
theorem flw_none : ∀ {n : Nat}, flwB b cs t k p n = none ↔ ∀ i : Nat, i < n → floB b cs t p ((k + (3 - i)) % 4) = false
  | 0 => ⟨fun _ i h => absurd h (by omega), fun _ => rfl⟩
  | n + 1 => by
    have ih := flw_none (n := n)
    show (if floB b cs t p ((k + (3 - n)) % 4) then some _ else flwB b cs t k p n) = none ↔ _
    constructor
    · intro h i hi
      split at h
      · cases h
      · rename_i hf
        by_cases e : i = n
        · subst e
          exact Bool.eq_false_iff.2 hf
        · exact ih.1 h i (by omega)
    · intro h
      rw [if_neg (by rw [h n (by omega)]; exact Bool.false_ne_true)]
      exact ih.2 fun i hi => h i (by omega)
theorem flw_tick {k' : Int} (h : flwB b cs t k p 4 = none) : flwB b cs t k' p 4 = none := by
  refine flw_none.2 fun i hi => ?_
  have := flw_none.1 h (3 - ((k' + (3 - i) - k) % 4)).toNat (by omega)
  have e : (k + (3 - ((3 - ((k' + (3 - (i : Int)) - k) % 4)).toNat : Int))) % 4 = (k' + (3 - i)) % 4 := by omega
  rwa [e] at this
/-- Whether a cell has a target does not depend on the tick. -/
theorem tgt_tick {k' : Int} (h : tgtB b cs t k p = none) : tgtB b cs t k' p = none := by
  unfold tgtB at h ⊢
  split
  · rfl
  · rename_i h0
    rw [if_neg h0] at h
    split
    · rename_i h1
      rw [if_pos h1] at h
      exact h
    · rename_i h1
      rw [if_neg h1] at h
      split
      · rename_i h2
        rw [if_pos h2] at h
        split
        · rename_i h3
          rw [if_pos h3] at h
          cases h
        · rename_i h3
          rw [if_neg h3] at h
          exact flw_tick h
      · rfl
theorem flw_dn {q : Pt} : ∀ {n : Nat}, flwB b cs t k p n = some q → q.2.2 = p.2.2 + (-1) ∧ freB b cs t q = true
  | 0, h => by cases h
  | n + 1, h => by
    have h : (if floB b cs t p ((k + (3 - n)) % 4) then some (dnP (dirP p ((k + (3 - n)) % 4))) else flwB b cs t k p n) = some q := h
    split at h
    · rename_i hf
      cases h
      unfold floB at hf
      rw [Bool.and_eq_true] at hf
      refine ⟨?_, hf.2⟩
      show (dirP p _).2.2 + (-1) = _
      rw [← dir_z (x := p.1) (y := p.2.1) (z := p.2.2)]
    · exact flw_dn h
theorem fre_w (ht : tabT t) (h : freB b cs t q = true) : wtX t (getL b cs q) = 0 := by
  unfold freB at h
  rw [Bool.and_eq_true] at h
  have h2 := fre_iff.1 h.2
  unfold wtX
  rw [if_neg h2.2, if_neg fun hf => h2.1 ((ht _).1 hf)]
  rfl
/-- A target lies one below, and what moves is heavier than what it moves into. -/
theorem tgt_dn (ht : tabT t) (h : tgtB b cs t k p = some q) : q.2.2 = p.2.2 + (-1) ∧ 1 ≤ wtX t (getL b cs p) - wtX t (getL b cs q) ∧ wtX t (getL b cs p) - wtX t (getL b cs q) ≤ 2 := by
  have hp := (tgt_has h).1
  by_cases hf : falX t (getL b cs p) = true
  · rw [tgt_fall hp hf] at h
    split at h
    · rename_i hc
      cases h
      rw [Bool.and_eq_true, Bool.not_eq_true'] at hc
      refine ⟨rfl, ?_⟩
      have hn : ¬ falX t (getL b cs (dnP p)) = true := fun hx => by
        have := (ht _).1 hx
        rw [hc.2] at this
        cases this
      have hl : ¬ liqX t (getL b cs p) = true := fun hx => (ht _).2 ⟨(ht _).1 hf, hx⟩
      unfold wtX
      rw [if_pos hf, if_neg hl, if_neg hn]
      split <;> omega
    · cases h
  · by_cases hl : liqX t (getL b cs p) = true
    · have hw : wtX t (getL b cs p) = 1 := by
        unfold wtX
        rw [if_pos hl, if_neg hf]
        rfl
      rw [tgt_liq hp hf hl] at h
      split at h
      · rename_i hc
        cases h
        have := fre_w ht hc
        exact ⟨rfl, by omega, by omega⟩
      · have hd := flw_dn h
        have := fre_w ht hd.2
        exact ⟨hd.1, by omega, by omega⟩
    · rw [tgt_stay hp hf hl] at h
      cases h
theorem getL_idx {p : Pt} (h : b.has p = true) : getL b cs p = cs.getD (b.idx p).toNat 0 := if_pos (idx_ok h).1
/-- The rounds' law: each move takes one or two from the potential. -/
theorem rnd_pot (ht : tabT t) (hv : b.vol = cs.length) : ∀ {n : Nat}, n ≤ cs.length → (rndB b t k cs n).1.length = cs.length ∧ (rndB b t k cs n).2 ≤ potB b t cs cs.length - potB b t (rndB b t k cs n).1 cs.length ∧ potB b t cs cs.length - potB b t (rndB b t k cs n).1 cs.length ≤ 2 * (rndB b t k cs n).2
  | 0, _ => ⟨rfl, by show 0 ≤ potB b t cs cs.length - potB b t cs cs.length; omega, by show potB b t cs cs.length - potB b t cs cs.length ≤ 2 * 0; omega⟩
  | n + 1, hn => by
    obtain ⟨i1, i2, i3⟩ := rnd_pot ht hv (n := n) (by omega)
    have e : rndB b t k cs (n + 1) = match tgtB b (rndB b t k cs n).1 t k (b.at n) with
      | some q => (swpL (rndB b t k cs n).1 n (b.idx q).toNat, (rndB b t k cs n).2 + 1)
      | none => rndB b t k cs n := rfl
    rw [e]
    cases hq : tgtB b (rndB b t k cs n).1 t k (b.at n) with
    | none => exact ⟨i1, i2, i3⟩
    | some q =>
      have hh := tgt_has hq
      have hd := tgt_dn ht hq
      have hqi := idx_ok hh.2
      have hpi := idx_at (b := b) (i := (n : Int)) (by omega) (by omega)
      rw [getL_idx hh.1, getL_idx hh.2, hpi] at hd
      have ea : b.at ((b.idx q).toNat : Nat) = q := by
        rw [Int.toNat_of_nonneg hqi.1]
        exact at_idx hh.2
      have h2 : hiB b (b.idx q).toNat = hiB b n - 1 := by
        unfold hiB
        rw [ea]
        omega
      have hne : n ≠ (b.idx q).toNat := fun hx => by
        rw [← hx] at h2
        omega
      have hs := pot_swp (b := b) (t := t) (cs := (rndB b t k cs n).1) (i := n) (j := (b.idx q).toNat) (n := cs.length) (by omega) (by omega) i1.symm hne h2
      have hd2 := hd.2
      rw [show ((n : Int)).toNat = n from rfl] at hd2
      refine ⟨swp_len.trans i1, ?_, ?_⟩
      · show (rndB b t k cs n).2 + 1 ≤ potB b t cs cs.length - potB b t (swpL (rndB b t k cs n).1 n (b.idx q).toNat) cs.length
        omega
      · show potB b t cs cs.length - potB b t (swpL (rndB b t k cs n).1 n (b.idx q).toNat) cs.length ≤ 2 * ((rndB b t k cs n).2 + 1)
        omega
theorem rnd_nn : ∀ (n : Nat), 0 ≤ (rndB b t k cs n).2
  | 0 => Int.le_refl _
  | n + 1 => by
    have ih := rnd_nn n
    show 0 ≤ (match tgtB b (rndB b t k cs n).1 t k (b.at n) with | some q => (swpL (rndB b t k cs n).1 n (b.idx q).toNat, (rndB b t k cs n).2 + 1) | none => rndB b t k cs n).2
    split
    · show 0 ≤ (rndB b t k cs n).2 + 1
      omega
    · exact ih
/-- A round without a move. -/
theorem rnd_0 : ∀ {n : Nat}, (rndB b t k cs n).2 = 0 → rndB b t k cs n = (cs, 0) ∧ stlB b t cs n = true
  | 0, _ => ⟨rfl, rfl⟩
  | n + 1, h => by
    have e : rndB b t k cs (n + 1) = match tgtB b (rndB b t k cs n).1 t k (b.at n) with
      | some q => (swpL (rndB b t k cs n).1 n (b.idx q).toNat, (rndB b t k cs n).2 + 1)
      | none => rndB b t k cs n := rfl
    rw [e] at h ⊢
    cases hq : tgtB b (rndB b t k cs n).1 t k (b.at n) with
    | some q =>
      rw [hq] at h
      have h : (rndB b t k cs n).2 + 1 = 0 := h
      have := rnd_nn (b := b) (t := t) (k := k) (cs := cs) n
      omega
    | none =>
      rw [hq] at h
      obtain ⟨h1, h2⟩ := rnd_0 h
      refine ⟨h1, ?_⟩
      rw [h1] at hq
      show (stlB b t cs n && (tgtB b cs t 0 (b.at n)).isNone) = true
      rw [h2, tgt_tick hq]
      rfl
/-- A settled grid has no move. -/
theorem rnd_stl : ∀ {n : Nat}, stlB b t cs n = true → rndB b t k cs n = (cs, 0)
  | 0, _ => rfl
  | n + 1, h => by
    have h : (stlB b t cs n && (tgtB b cs t 0 (b.at n)).isNone) = true := h
    rw [Bool.and_eq_true, Option.isNone_iff_eq_none] at h
    have ih := rnd_stl h.1
    show (match tgtB b (rndB b t k cs n).1 t k (b.at n) with | some q => (swpL (rndB b t k cs n).1 n (b.idx q).toNat, (rndB b t k cs n).2 + 1) | none => rndB b t k cs n) = _
    rw [ih]
    show (match tgtB b cs t k (b.at n) with | some q => _ | none => _) = _
    rw [tgt_tick h.2]
theorem stl_0 (h : rndM b t k cs = 0) : stlL b t cs = true := (rnd_0 h).2
/-- A round of what is not settled. -/
theorem rnd_dn (ht : tabT t) (hb : b.f - b.c ≤ 2097151) (hv : b.vol = cs.length) (h : ¬ stlL b t cs = true) : (rndL b t k cs).length = cs.length ∧ 0 ≤ potL b t (rndL b t k cs) ∧ potL b t (rndL b t k cs) + 1 ≤ potL b t cs := by
  have h1 := rnd_pot (k := k) ht hv (Nat.le_refl cs.length)
  have h2 := rnd_nn (b := b) (t := t) (k := k) (cs := cs) cs.length
  have h3 : (rndB b t k cs cs.length).2 ≠ 0 := fun hx => h (stl_0 hx)
  have hl : (rndL b t k cs).length = cs.length := h1.1
  have h4 := pot_bnd (t := t) (cs := rndL b t k cs) hb (n := cs.length) (by omega)
  unfold potL
  rw [hl]
  have e : (rndB b t k cs cs.length).1 = rndL b t k cs := rfl
  rw [e] at h1
  omega
theorem set_fuel (ht : tabT t) (hb : b.f - b.c ≤ 2097151) {most : Int} : ∀ (f f' : Nat) (n : Int) (cs : List Int), b.vol = cs.length → potL b t cs ≤ f → potL b t cs ≤ f' → setB b t k most f n cs = setB b t k most f' n cs
  | 0, 0, _, _, _, _, _ => rfl
  | 0, f' + 1, n, cs, hv, h, h' => by
    have hs : stlL b t cs = true := Decidable.byContradiction fun hx => by
      have := rnd_dn (k := 0) ht hb hv hx
      omega
    show (cs, n, 0) = if stlL b t cs = true then (cs, n, 0) else _
    rw [if_pos hs]
  | f + 1, 0, n, cs, hv, h, h' => by
    have hs : stlL b t cs = true := Decidable.byContradiction fun hx => by
      have := rnd_dn (k := 0) ht hb hv hx
      omega
    show (if stlL b t cs = true then (cs, n, 0) else _) = (cs, n, 0)
    rw [if_pos hs]
  | f + 1, f' + 1, n, cs, hv, h, h' => by
    show (if stlL b t cs = true then (cs, n, 0) else if most ≤ n then (cs, n, 19) else setB b t k most f (n + 1) (rndL b t (k % 4 + n) cs)) = if stlL b t cs = true then (cs, n, 0) else if most ≤ n then (cs, n, 19) else setB b t k most f' (n + 1) (rndL b t (k % 4 + n) cs)
    by_cases hs : stlL b t cs = true
    · rw [if_pos hs, if_pos hs]
    · rw [if_neg hs, if_neg hs]
      by_cases hm : most ≤ n
      · rw [if_pos hm, if_pos hm]
      · rw [if_neg hm, if_neg hm]
        have hd := rnd_dn (k := k % 4 + n) ht hb hv hs
        exact set_fuel ht hb f f' (n + 1) _ (by omega) (by omega) (by omega)
/-- As many rounds as the potential allows. -/
def setP (b : Bx) (t : X) (k most n : Int) (cs : List Int) : List Int × Int × Int := setB b t k most (potL b t cs).toNat n cs
theorem set_stl {most n : Int} (hs : stlL b t cs = true) : setP b t k most n cs = (cs, n, 0) := by
  unfold setP
  cases (potL b t cs).toNat with
  | zero => rfl
  | succ f =>
    show (if stlL b t cs = true then (cs, n, 0) else _) = _
    rw [if_pos hs]
theorem set_end (ht : tabT t) (hb : b.f - b.c ≤ 2097151) (hv : b.vol = cs.length) {most n : Int} (hs : ¬ stlL b t cs = true) (hm : most ≤ n) : setP b t k most n cs = (cs, n, 19) := by
  have hd := rnd_dn (k := 0) ht hb hv hs
  unfold setP
  rw [show (potL b t cs).toNat = ((potL b t cs).toNat - 1) + 1 by omega]
  show (if stlL b t cs = true then (cs, n, 0) else if most ≤ n then (cs, n, 19) else _) = _
  rw [if_neg hs, if_pos hm]
theorem set_step (ht : tabT t) (hb : b.f - b.c ≤ 2097151) (hv : b.vol = cs.length) {most n : Int} (hs : ¬ stlL b t cs = true) (hm : ¬ most ≤ n) : setP b t k most n cs = setP b t k most (n + 1) (rndL b t (k % 4 + n) cs) := by
  have hd := rnd_dn (k := k % 4 + n) ht hb hv hs
  unfold setP
  rw [show (potL b t cs).toNat = ((potL b t cs).toNat - 1) + 1 by omega]
  show (if stlL b t cs = true then (cs, n, 0) else if most ≤ n then (cs, n, 19) else setB b t k most _ (n + 1) (rndL b t (k % 4 + n) cs)) = _
  rw [if_neg hs, if_neg hm]
  exact set_fuel ht hb _ _ _ _ (by omega) (by omega) (by omega)
theorem chkF_ok : ∀ {n : Nat} {i : Int}, (chkF t n i).2 = 0 → ∀ j, i ≤ j → j < i + n → vldX t j = true
  | 0, i, _, j, h1, h2 => by omega
  | n + 1, i, h, j, h1, h2 => by
    have h : (if !vldX t i then (i, 1) else if (((fndX t (nmlX (t.r i 0))).getD 0 : Nat) : Int) < i then (i, 10) else chkF t n (i + 1)).2 = 0 := h
    split at h
    · cases h
    · rename_i hv
      split at h
      · cases h
      · by_cases e : j = i
        · subst e
          simpa using hv
        · exact chkF_ok h j (by omega) (by omega)
theorem tab_ok (h : (chkT t).2 = 0) : tabT t := by
  intro n
  by_cases hr : n < 0 ∨ t.i ≤ n
  · unfold falX solX liqX
    rw [fld_off hr, fld_off hr]
    exact ⟨fun hx => hx, fun hx => Bool.false_ne_true hx.1⟩
  · have hv : vldX t n = true := by
      by_cases h1 : 256 < t.i
      · rw [chk_a h1] at h
        cases h
      · by_cases h2 : t.i = 0
        · omega
        · by_cases h3 : airX t = true
          · rw [chk_d h1 h2 h3] at h
            exact chkF_ok h n (by omega) (by omega)
          · rw [chk_c h1 h2 h3] at h
            cases h
    unfold vldX at hv
    simp only [Bool.and_eq_true, Bool.or_eq_true, Bool.not_eq_true'] at hv
    obtain ⟨⟨⟨⟨⟨_, _⟩, v1⟩, v2⟩, _⟩, _⟩ := hv
    unfold falX solX liqX
    rw [fld_on hr, fld_on hr, fld_on hr]
    constructor
    · intro h3
      rw [h3] at v2
      exact v2.resolve_left (by decide)
    · intro h12
      rw [h12.1, h12.2] at v1
      exact v1.elim (by decide) (by decide)
end
theorem stt_rsh {rest : List RSh} (ds : Ds) (h : rshX (RGw :: RMt :: rest) ds) (hp : Px 878 ds) : rshX (RGv :: RMt :: rest) ds := by
  refine val_rsh ds h ?_
  match ds, hp with
  | a :: b :: c :: d :: e :: f :: l :: t :: r, hp => exact hp.1
end Vc
end Go.Proofs.YtgbaelpcbhgdjaaDoor
