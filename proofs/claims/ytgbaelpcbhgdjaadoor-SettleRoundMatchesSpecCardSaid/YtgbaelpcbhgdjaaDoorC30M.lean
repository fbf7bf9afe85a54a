/- Layer 30, plain: the potential, rounds, tables of materials. -/
import Derived.Test.YtgbaelpcbhgdjaaDoorC30L
namespace Go.Proofs.YtgbaelpcbhgdjaaDoor
namespace Vc
open Go Go.RowKit
set_option linter.unusedVariables false

section
variable {b : Bx} {l t o : X} {cs : List Int} {p q : Pt} {n : Nat} {i k m : Int}
theorem toS (h : 0 ≤ i) : (i + 1).toNat = i.toNat + 1 := by omega
theorem pot_bif {u v : Bool} {h : Int} : (bif u then (bif v then m + h else m) + 2 * h else (bif v then m + h else m)) = m + (if v then h else 0) + (if u then 2 * h else 0) := by
  cases u <;> cases v <;> simp
theorem pot_bifR {u v : Bool} {z c : Int} : (bif u then (bif v then m + z - c else m) + 2 * (z - c) else (bif v then m + z - c else m)) = m + (if v then z - c else 0) + (if u then 2 * (z - c) else 0) := by
  cases u <;> cases v <;> simp <;> omega
theorem pot_step (h0 : 0 ≤ i) (h1 : i < l.i) : potB b t (lstX deI l) (i + 1).toNat = potB b t (lstX deI l) i.toNat + (if liqX t (l.r i 0).i then (b.at i).2.2 - b.c else 0) + (if falX t (l.r i 0).i then 2 * ((b.at i).2.2 - b.c) else 0) := by
  rw [toS h0]
  show potB b t (lstX deI l) i.toNat + (if liqX t ((lstX deI l).getD i.toNat 0) then (b.at (i.toNat : Nat)).2.2 - b.c else 0) + (if falX t ((lstX deI l).getD i.toNat 0) then 2 * ((b.at (i.toNat : Nat)).2.2 - b.c) else 0) = _
  rw [lxI_at h0 h1, Int.toNat_of_nonneg h0]
theorem pot_bnd (hb : b.f - b.c ≤ 2097151) : ∀ {n : Nat}, (n : Int) ≤ b.vol → 0 ≤ potB b t cs n ∧ potB b t cs n ≤ 6291450 * n
  | 0, _ => ⟨Int.le_refl _, Int.le_refl _⟩
  | n + 1, h => by
    have ih := pot_bnd hb (n := n) (by omega)
    have hh := (has_def (b := b)).1 (at_has (b := b) (i := n) (by omega) (by omega))
    show 0 ≤ potB b t cs n + (if liqX t (cs.getD n 0) then (b.at n).2.2 - b.c else 0) + (if falX t (cs.getD n 0) then 2 * ((b.at n).2.2 - b.c) else 0) ∧ potB b t cs n + (if liqX t (cs.getD n 0) then (b.at n).2.2 - b.c else 0) + (if falX t (cs.getD n 0) then 2 * ((b.at n).2.2 - b.c) else 0) ≤ _
    split <;> split <;> omega
theorem stl_step (h0 : 0 ≤ i) : stlB b t cs (i + 1).toNat = (stlB b t cs i.toNat && (tgtB b cs t 0 (b.at i)).isNone) := by
  rw [toS h0]
  show (stlB b t cs i.toNat && (tgtB b cs t 0 (b.at (i.toNat : Nat))).isNone) = _
  rw [Int.toNat_of_nonneg h0]
theorem stl_no (h : (tgtB b cs t 0 (b.at n)).isSome = true) : ∀ {m : Nat}, n < m → ¬ stlB b t cs m = true
  | m + 1, hm, hc => by
    have hc : (stlB b t cs m && (tgtB b cs t 0 (b.at m)).isNone) = true := hc
    rw [Bool.and_eq_true] at hc
    by_cases e : n = m
    · subst e
      have h2 := hc.2
      rw [Option.isNone_iff_eq_none] at h2
      rw [h2] at h
      cases h
    · exact stl_no h (by omega) hc.1
theorem stl_noI (h0 : 0 ≤ i) (h1 : i < l.i) (h : (tgtB b (lstX deI l) t 0 (b.at i)).isSome = true) : ¬ stlL b t (lstX deI l) = true := by
  refine stl_no (n := i.toNat) ?_ ?_
  · rw [Int.toNat_of_nonneg h0]
    exact h
  · rw [lstX_len]
    omega
theorem not_some {α : Type} {T : Option α} (h : ¬ T.isSome = true) : T.isNone = true := by
  cases T
  · rfl
  · exact absurd rfl h
theorem rnd_step (h0 : 0 ≤ i) : rndB b t k cs (i + 1).toNat = match tgtB b (rndB b t k cs i.toNat).1 t k (b.at i) with
    | some q => (swpL (rndB b t k cs i.toNat).1 i.toNat (b.idx q).toNat, (rndB b t k cs i.toNat).2 + 1)
    | none => rndB b t k cs i.toNat := by
  rw [toS h0]
  show (match tgtB b (rndB b t k cs i.toNat).1 t k (b.at (i.toNat : Nat)) with | some q => _ | none => _) = _
  rw [Int.toNat_of_nonneg h0]
theorem rnd_cnt : ∀ (n : Nat), (rndB b t k cs n).2 ≤ n
  | 0 => Int.le_refl _
  | n + 1 => by
    have ih := rnd_cnt n
    show (match tgtB b (rndB b t k cs n).1 t k (b.at n) with | some q => (swpL (rndB b t k cs n).1 n (b.idx q).toNat, (rndB b t k cs n).2 + 1) | none => rndB b t k cs n).2 ≤ _
    split
    · show (rndB b t k cs n).2 + 1 ≤ _
      omega
    · omega
theorem swp_row (h0 : 0 ≤ i) (h1 : i < o.i) (h2 : 0 ≤ k) (h3 : k < o.i) : lstX deI (mkX (rwSet (rwSet o.r i 0 (selX o.r k 0)) k 0 (selX o.r i 0)) o.i) = swpL (lstX deI o) i.toNat k.toNat := by
  rw [deI_set h2, deI_set h0]
  unfold swpL
  rw [lxI_at h0 h1, lxI_at h2 h3]
  rfl
end
theorem valid_row {a b c d e f : Int} {l o : X} (hl : 0 ≤ l.i) (hv : validG (grX (xI a) (xI b) (xI c) (xI d) (xI e) (xI f) l) = true) (ho : o.i = l.i) (hr : RowOk SMat o.r o.i.toNat) : validG (grX (xI a) (xI b) (xI c) (xI d) (xI e) (xI f) o) = true := by
  obtain ⟨k0, k1, k2, k3, k4⟩ := (v700 hl).1 hv
  refine (v700 (by omega)).2 ⟨k0, k1, k2, by omega, ?_⟩
  rw [List.all_eq_true]
  intro x hx
  obtain ⟨j, hj, rfl⟩ := List.mem_iff_getElem.1 hx
  have hj' : j < o.i.toNat := by rwa [lstX_len] at hj
  have e := lstX_get (dec := deI) (x := o) hj'
  rw [List.getElem?_eq_getElem hj] at e
  have e2 := Option.some.inj e
  rw [e2]
  have := (hr j hj').1
  exact matB_iff.2 ⟨this.1, by have := this.2; show (o.r j 0).i < 256; omega⟩
/-! ### Equality, counts -/
theorem eqG_iff {a b c d e f a' b' c' d' e' f' : Int} {l l' : X} : eqG (bxI a b c d e f) (lstX deI l) (bxI a' b' c' d' e' f') (lstX deI l') = true ↔ (a = a' ∧ b = b' ∧ c = c' ∧ d = d' ∧ e = e' ∧ f = f') ∧ lstX deI l = lstX deI l' := by
  unfold eqG
  simp only [Bool.and_eq_true, decide_eq_true_eq]
  constructor
  · rintro ⟨⟨⟨⟨⟨⟨h0, h1⟩, h2⟩, h3⟩, h4⟩, h5⟩, h6⟩
    exact ⟨⟨h0, h1, h2, h3, h4, h5⟩, h6⟩
  · rintro ⟨⟨h0, h1, h2, h3, h4, h5⟩, h6⟩
    exact ⟨⟨⟨⟨⟨⟨h0, h1⟩, h2⟩, h3⟩, h4⟩, h5⟩, h6⟩
theorem lst_len {l l' : X} (h0 : 0 ≤ l.i) (h1 : 0 ≤ l'.i) (h : lstX deI l = lstX deI l') : l.i = l'.i := by
  have := congrArg List.length h
  rw [lstX_len, lstX_len] at this
  omega
theorem lst_at {l l' : X} {i : Int} (h0 : 0 ≤ i) (h1 : i < l.i) (h2 : i < l'.i) (h : lstX deI l = lstX deI l') : (l.r i 0).i = (l'.r i 0).i := by
  rw [← lxI_at h0 h1, ← lxI_at h0 h2, h]
theorem cnt_step {l : X} {k n : Int} (h0 : 0 ≤ k) (h1 : k < l.i) : (((lstX deI l).take (k + 1).toNat).count n : Nat) = ((lstX deI l).take k.toNat).count n + if (l.r k 0).i = n then 1 else 0 := by
  rw [lx_take h0 h1, List.count_append, List.count_singleton]
  show _ + (if ((l.r k 0).i == n) = true then 1 else 0) = _
  simp only [beq_iff_eq]
theorem cnt_le {l : X} {k n : Int} (h0 : 0 ≤ k) : ((((lstX deI l).take k.toNat).count n : Nat) : Int) ≤ k := by
  have h := List.count_le_length (a := n) (l := (lstX deI l).take k.toNat)
  have h2 := List.length_take_le k.toNat (lstX deI l)
  omega
theorem few_iff {a b c d e f l t : X} : fewS (grX a b c d e f l) t = true ↔ l.i ≤ 400 ∧ t.i ≤ 256 ∧ validG (grX a b c d e f l) = true ∧ (chkT t).2 = 0 := by
  unfold fewS
  have e : (grX a b c d e f l).cs.length = l.i.toNat := lstX_len ..
  rw [e]
  simp only [Bool.and_eq_true, decide_eq_true_eq]
  constructor
  · rintro ⟨⟨⟨h0, h1⟩, h2⟩, h3⟩
    exact ⟨by omega, h1, h2, h3⟩
  · rintro ⟨h0, h1, h2, h3⟩
    exact ⟨⟨⟨by omega, h1⟩, h2⟩, h3⟩
/-! ### Names and tables -/
theorem nmc_iff {s : X} {i : Int} : nmcB s i = true ↔ (97 ≤ bytV s.v i ∧ bytV s.v i ≤ 122) ∨ ((bytV s.v i = 45 ∧ 0 < i) ∧ i < s.i - 1) := by
  unfold nmcB ltrB bytX
  simp only [Bool.and_eq_true, Bool.or_eq_true, decide_eq_true_eq]
theorem nm_step {s : X} {i : Int} (h0 : 0 ≤ i) : nmB s (i + 1).toNat = (nmB s i.toNat && nmcB s i) := by
  rw [toS h0]
  show (nmB s i.toNat && nmcB s (i.toNat : Nat)) = _
  rw [Int.toNat_of_nonneg h0]
theorem nm_no {s : X} {n : Nat} (h : ¬ nmcB s n = true) : ∀ {m : Nat}, n < m → ¬ nmB s m = true
  | m + 1, hm, hc => by
    have hc : (nmB s m && nmcB s m) = true := hc
    rw [Bool.and_eq_true] at hc
    by_cases e : n = m
    · subst e
      exact h hc.2
    · exact nm_no h (by omega) hc.1
theorem nm_iff {s : X} : nmX' s = true ↔ (1 ≤ s.i ∧ s.i ≤ 32) ∧ nmB s s.i.toNat = true := by
  unfold nmX'
  simp only [Bool.and_eq_true, decide_eq_true_eq]
theorem val_iff {s : X} {a b c : Bool} {f x y z : Int} : valM s a b c f x y z = true ↔ ((0 ≤ x ∧ x ≤ 15) ∧ (0 ≤ y ∧ y ≤ 15) ∧ (0 ≤ z ∧ z ≤ 15)) ∧ ((((nmX' s = true ∧ (¬ a = true ∨ ¬ b = true)) ∧ (¬ c = true ∨ a = true)) ∧ 1 ≤ f) ∧ f ≤ 16) := by
  unfold valM
  simp only [Bool.and_eq_true, Bool.or_eq_true, decide_eq_true_eq, Bool.not_eq_true', Bool.not_eq_true]
  constructor
  · rintro ⟨⟨⟨⟨⟨⟨⟨⟨⟨⟨h0, h1⟩, h2⟩, h3⟩, h4⟩, h5⟩, h6⟩, h7⟩, h8⟩, h9⟩, h10⟩
    exact ⟨⟨⟨h0, h1⟩, ⟨h2, h3⟩, h4, h5⟩, ⟨⟨⟨h6, h7⟩, h8⟩, h9⟩, h10⟩
  · rintro ⟨⟨⟨h0, h1⟩, ⟨h2, h3⟩, h4, h5⟩, ⟨⟨⟨h6, h7⟩, h8⟩, h9⟩, h10⟩
    exact ⟨⟨⟨⟨⟨⟨⟨⟨⟨⟨h0, h1⟩, h2⟩, h3⟩, h4⟩, h5⟩, h6⟩, h7⟩, h8⟩, h9⟩, h10⟩
theorem find_range {p : Nat → Bool} : ∀ {n i : Nat}, i < n → p i = true → (∀ k, k < i → p k = false) → (List.range n).find? p = some i
  | n + 1, i, h, hp, hn => by
    rw [List.range_succ, List.find?_append]
    by_cases e : i < n
    · rw [find_range e hp hn]
      rfl
    · have : i = n := by omega
      subst this
      have : (List.range i).find? p = none := List.find?_eq_none.2 fun x hx => by
        rw [hn x (List.mem_range.1 hx)]
        exact Bool.false_ne_true
      rw [this]
      simp [hp]
theorem fnd_some {t s : X} {i : Int} (h0 : 0 ≤ i) (h1 : i < t.i) (hp : strEq (t.r i 0).v s.v = true) (hn : ∀ k : Nat, (k : Int) < i → strEq (t.r k 0).v s.v = false) : fndX t s = some i.toNat := by
  refine find_range (by omega) ?_ fun k hk => hn k (by omega)
  show strEq (t.r (i.toNat : Nat) 0).v s.v = true
  rw [Int.toNat_of_nonneg h0]
  exact hp
theorem fnd_none {t s : X} {i : Int} (h1 : t.i ≤ i) (hn : ∀ k : Nat, (k : Int) < i → strEq (t.r k 0).v s.v = false) : fndX t s = none :=
  List.find?_eq_none.2 fun x hx => by
    rw [hn x (by have := List.mem_range.1 hx; omega)]
    exact Bool.false_ne_true
theorem air_iff {t : X} : airX t = true ↔ strEq (t.r 0 0).v (.string airS) = true ∧ ¬ (t.r 0 1).b = true ∧ ¬ (t.r 0 2).b = true ∧ ¬ (t.r 0 3).b = true ∧ (t.r 0 4).i = 1 ∧ (t.r 0 5).i = 0 ∧ (t.r 0 6).i = 0 ∧ (t.r 0 7).i = 0 := by
  unfold airX
  simp only [Bool.and_eq_true, decide_eq_true_eq, beq_iff_eq, Bool.not_eq_true]
  constructor
  · rintro ⟨h0, h1, h2, h3, h⟩
    exact ⟨h0, h1.symm, h2.symm, h3.symm, h⟩
  · rintro ⟨h0, h1, h2, h3, h⟩
    exact ⟨h0, h1.symm, h2.symm, h3.symm, h⟩
section
variable {t : X} {i : Int}
theorem chk_a (h : 256 < t.i) : chkT t = (-1, 2) := if_pos h
theorem chk_b (h : ¬ 256 < t.i) (h2 : t.i = 0) : chkT t = (-1, 1) := (if_neg h).trans (if_pos h2)
theorem chk_c (h : ¬ 256 < t.i) (h2 : ¬ t.i = 0) (h3 : ¬ airX t = true) : chkT t = (0, 1) := ((if_neg h).trans (if_neg h2)).trans (if_pos (by rw [Bool.not_eq_true']; exact Bool.eq_false_iff.2 h3))
theorem chk_d (h : ¬ 256 < t.i) (h2 : ¬ t.i = 0) (h3 : airX t = true) : chkT t = chkF t t.i.toNat 0 := ((if_neg h).trans (if_neg h2)).trans (if_neg (by rw [h3]; decide))
theorem chk_step (h1 : i < t.i) : chkF t (t.i - i).toNat i = if !vldX t i then (i, 1) else if (((fndX t (nmlX (t.r i 0))).getD 0 : Nat) : Int) < i then (i, 10) else chkF t (t.i - (i + 1)).toNat (i + 1) := by
  rw [show (t.i - i).toNat = (t.i - (i + 1)).toNat + 1 by omega]
  rfl
end
end Vc
end Go.Proofs.YtgbaelpcbhgdjaaDoor
