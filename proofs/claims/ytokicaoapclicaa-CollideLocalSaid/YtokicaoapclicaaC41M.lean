/- Layer 41, plain: how far a body slides. -/
import Derived.Test.YtokicaoapclicaaC41L
namespace Go.Proofs.Ytokicaoapclicaa
namespace Vc
open Go Go.RowKit
set_option linter.unusedVariables false

theorem slC_succ {hit : Int → Bool} {k : Nat} {m : Int} : slC hit (k + 1) m = if hit (m + 1) then m else slC hit k (m + 1) := rfl
theorem slC_eq {hit : Int → Bool} : ∀ {k : Nat} {m r : Int}, m ≤ r → r ≤ m + k → (∀ j, m < j → j ≤ r → ¬ hit j = true) → (r = m + k ∨ hit (r + 1) = true) → slC hit k m = r
  | 0, m, r, h1, h2, _, _ => by
    show m = r
    omega
  | k + 1, m, r, h1, h2, h3, h4 => by
    unfold slC
    by_cases hm : hit (m + 1) = true
    · rw [if_pos hm]
      rcases Int.lt_or_le m r with h | h
      · exact absurd hm (h3 (m + 1) (by omega) (by omega))
      · omega
    · rw [if_neg hm]
      have hlt : m < r := by
        rcases Int.lt_or_le m r with h | h
        · exact h
        · have : r = m := by omega
          subst this
          rcases h4 with h4 | h4
          · omega
          · exact absurd h4 hm
      exact slC_eq (by omega) (by omega) (fun j a b => h3 j (by omega) b) (h4.imp (fun h => by omega) id)
theorem slC_rng {hit : Int → Bool} : ∀ {k : Nat} {m : Int}, m ≤ slC hit k m ∧ slC hit k m ≤ m + k
  | 0, m => by show m ≤ m ∧ m ≤ m + (0 : Nat); omega
  | k + 1, m => by
    unfold slC
    split
    · omega
    · have := slC_rng (hit := hit) (k := k) (m := m + 1)
      omega
theorem slC_no {hit : Int → Bool} : ∀ {k : Nat} {m j : Int}, m < j → j ≤ slC hit k m → ¬ hit j = true
  | 0, m, j, h1, h2 => by have h2 : j ≤ m := h2; omega
  | k + 1, m, j, h1, h2 => by
    unfold slC at h2
    split at h2
    · omega
    · rename_i hm
      by_cases hj : j = m + 1
      · subst hj; exact hm
      · exact slC_no (by omega) h2
theorem slC_end {hit : Int → Bool} : ∀ {k : Nat} {m : Int}, slC hit k m = m + k ∨ hit (slC hit k m + 1) = true
  | 0, m => .inl (by show m = m + (0 : Nat); omega)
  | k + 1, m => by
    unfold slC
    split
    · rename_i hm; exact .inr hm
    · rcases slC_end (hit := hit) (k := k) (m := m + 1) with h | h
      · exact .inl (by omega)
      · exact .inr h
theorem gapV_up {d g1 g2 : Int} (hd : 0 ≤ d) : (0 ≤ g1 → gapV d g1 g2 = min d g1) ∧ (g1 < 0 → gapV d g1 g2 = d) := by
  unfold gapV
  simp only [Bool.cond_eq_ite, Bool.and_eq_true, decide_eq_true_eq]
  constructor <;> intro h <;> repeat' split
  all_goals omega
theorem gapV_dn {d g1 g2 : Int} (hd : d < 0) : (g2 ≤ 0 → gapV d g1 g2 = max d g2) ∧ (0 < g2 → gapV d g1 g2 = d) := by
  unfold gapV
  simp only [Bool.cond_eq_ite, Bool.and_eq_true, decide_eq_true_eq]
  constructor <;> intro h <;> repeat' split
  all_goals omega
theorem gapV_rng {d g1 g2 : Int} (h : -64 ≤ d ∧ d ≤ 64) : -64 ≤ gapV d g1 g2 ∧ gapV d g1 g2 ≤ 64 := by
  unfold gapV
  simp only [Bool.cond_eq_ite, Bool.and_eq_true, decide_eq_true_eq]
  constructor <;> repeat' split
  all_goals omega
/-- One box in the way. -/
theorem gap_up {p q : Bx} {x d : Int} (hx : x = 0 ∨ x = 1 ∨ x = 2) (hd : 0 ≤ d) (hn : ¬ meetB p q = true) : (0 ≤ gapB q x d p ∧ gapB q x d p ≤ d) ∧ (∀ j, 0 < j → j ≤ gapB q x d p → ¬ meetB p (mvB q x j) = true) ∧ (gapB q x d p = d ∨ meetB p (mvB q x (gapB q x d p + 1)) = true) := by
  rw [meetB_iff] at hn
  unfold gapB
  rcases hx with rfl | rfl | rfl <;> simp only [meetB_iff, wayB, mvB, Bx.lo, Bx.hi, Int.reduceEq, if_false, if_true]
  · split
    · exact ⟨⟨hd, Int.le_refl _⟩, fun j h1 h2 => by omega, .inl rfl⟩
    · by_cases hg : 0 ≤ p.a - q.d
      · rw [(gapV_up hd).1 hg]
        exact ⟨by omega, fun j h1 h2 => by omega, by omega⟩
      · rw [(gapV_up hd).2 (by omega)]
        exact ⟨by omega, fun j h1 h2 => by omega, .inl rfl⟩
  · split
    · exact ⟨⟨hd, Int.le_refl _⟩, fun j h1 h2 => by omega, .inl rfl⟩
    · by_cases hg : 0 ≤ p.b - q.e
      · rw [(gapV_up hd).1 hg]
        exact ⟨by omega, fun j h1 h2 => by omega, by omega⟩
      · rw [(gapV_up hd).2 (by omega)]
        exact ⟨by omega, fun j h1 h2 => by omega, .inl rfl⟩
  · split
    · exact ⟨⟨hd, Int.le_refl _⟩, fun j h1 h2 => by omega, .inl rfl⟩
    · by_cases hg : 0 ≤ p.c - q.f
      · rw [(gapV_up hd).1 hg]
        exact ⟨by omega, fun j h1 h2 => by omega, by omega⟩
      · rw [(gapV_up hd).2 (by omega)]
        exact ⟨by omega, fun j h1 h2 => by omega, .inl rfl⟩
theorem gap_dn {p q : Bx} {x d : Int} (hx : x = 0 ∨ x = 1 ∨ x = 2) (hd : d < 0) (hn : ¬ meetB p q = true) : (d ≤ gapB q x d p ∧ gapB q x d p ≤ 0) ∧ (∀ j, 0 < j → j ≤ -gapB q x d p → ¬ meetB p (mvB q x (-j)) = true) ∧ (gapB q x d p = d ∨ meetB p (mvB q x (gapB q x d p - 1)) = true) := by
  rw [meetB_iff] at hn
  unfold gapB
  rcases hx with rfl | rfl | rfl <;> simp only [meetB_iff, wayB, mvB, Bx.lo, Bx.hi, Int.reduceEq, if_false, if_true]
  · split
    · exact ⟨by omega, fun j h1 h2 => by omega, .inl rfl⟩
    · by_cases hg : p.d - q.a ≤ 0
      · rw [(gapV_dn hd).1 hg]
        exact ⟨by omega, fun j h1 h2 => by omega, by omega⟩
      · rw [(gapV_dn hd).2 (by omega)]
        exact ⟨by omega, fun j h1 h2 => by omega, .inl rfl⟩
  · split
    · exact ⟨by omega, fun j h1 h2 => by omega, .inl rfl⟩
    · by_cases hg : p.e - q.b ≤ 0
      · rw [(gapV_dn hd).1 hg]
        exact ⟨by omega, fun j h1 h2 => by omega, by omega⟩
      · rw [(gapV_dn hd).2 (by omega)]
        exact ⟨by omega, fun j h1 h2 => by omega, .inl rfl⟩
  · split
    · exact ⟨by omega, fun j h1 h2 => by omega, .inl rfl⟩
    · by_cases hg : p.f - q.c ≤ 0
      · rw [(gapV_dn hd).1 hg]
        exact ⟨by omega, fun j h1 h2 => by omega, by omega⟩
      · rw [(gapV_dn hd).2 (by omega)]
        exact ⟨by omega, fun j h1 h2 => by omega, .inl rfl⟩
theorem ov_cons {p q : Bx} {l : List Bx} : ovB (p :: l) q = true ↔ meetB p q = true ∨ ovB l q = true := by
  unfold ovB
  rw [List.any_cons, Bool.or_eq_true]
theorem fold_zero {q : Bx} {x : Int} (hx : x = 0 ∨ x = 1 ∨ x = 2) : ∀ {l : List Bx}, ¬ ovB l q = true → l.foldl (gapB q x) 0 = 0
  | [], _ => rfl
  | p :: l, hn => by
    rw [ov_cons] at hn
    have h := (gap_up (x := x) hx (Int.le_refl 0) (fun h => hn (.inl h))).1
    rw [List.foldl_cons, show gapB q x 0 p = 0 by omega]
    exact fold_zero hx fun h => hn (.inr h)
theorem fold_up {q : Bx} {x : Int} (hx : x = 0 ∨ x = 1 ∨ x = 2) : ∀ {l : List Bx} {d : Int}, 0 ≤ d → ¬ ovB l q = true → (0 ≤ l.foldl (gapB q x) d ∧ l.foldl (gapB q x) d ≤ d) ∧ (∀ j, 0 < j → j ≤ l.foldl (gapB q x) d → ¬ ovB l (mvB q x j) = true) ∧ (l.foldl (gapB q x) d = d ∨ ovB l (mvB q x (l.foldl (gapB q x) d + 1)) = true)
  | [], d, hd, _ => ⟨⟨hd, Int.le_refl _⟩, fun j _ _ => Bool.false_ne_true, .inl rfl⟩
  | p :: l, d, hd, hn => by
    rw [ov_cons] at hn
    obtain ⟨g1, g2, g3⟩ := gap_up (x := x) hx hd (fun h => hn (.inl h))
    obtain ⟨f1, f2, f3⟩ := fold_up hx (l := l) (d := gapB q x d p) g1.1 (fun h => hn (.inr h))
    rw [List.foldl_cons]
    refine ⟨⟨f1.1, by omega⟩, fun j h1 h2 => ?_, ?_⟩
    · rw [ov_cons]
      exact fun h => h.elim (g2 j h1 (by omega)) (f2 j h1 h2)
    · rw [ov_cons]
      rcases f3 with f3 | f3
      · rw [f3]
        exact g3.imp id .inl
      · exact .inr (.inr f3)
theorem fold_dn {q : Bx} {x : Int} (hx : x = 0 ∨ x = 1 ∨ x = 2) : ∀ {l : List Bx} {d : Int}, d < 0 → ¬ ovB l q = true → (d ≤ l.foldl (gapB q x) d ∧ l.foldl (gapB q x) d ≤ 0) ∧ (∀ j, 0 < j → j ≤ -l.foldl (gapB q x) d → ¬ ovB l (mvB q x (-j)) = true) ∧ (l.foldl (gapB q x) d = d ∨ ovB l (mvB q x (l.foldl (gapB q x) d - 1)) = true)
  | [], d, hd, _ => ⟨⟨Int.le_refl _, by show d ≤ 0; omega⟩, fun j _ _ => Bool.false_ne_true, .inl rfl⟩
  | p :: l, d, hd, hn => by
    rw [ov_cons] at hn
    obtain ⟨g1, g2, g3⟩ := gap_dn (x := x) hx hd (fun h => hn (.inl h))
    rw [List.foldl_cons]
    by_cases hz : gapB q x d p = 0
    · rw [hz] at g3 ⊢
      rw [fold_zero hx fun h => hn (.inr h)]
      refine ⟨⟨by omega, Int.le_refl _⟩, fun j h1 h2 => by omega, .inr ?_⟩
      rw [ov_cons]
      rcases g3 with g3 | g3
      · omega
      · exact .inl g3
    · obtain ⟨f1, f2, f3⟩ := fold_dn hx (l := l) (d := gapB q x d p) (by omega) (fun h => hn (.inr h))
      refine ⟨⟨by omega, f1.2⟩, fun j h1 h2 => ?_, ?_⟩
      · rw [ov_cons]
        exact fun h => h.elim (g2 j h1 (by omega)) (f2 j h1 h2)
      · rw [ov_cons]
        rcases f3 with f3 | f3
        · rw [f3]
          exact g3.imp id .inl
        · exact .inr (.inr f3)
/-- The nearest box in the way is the first that is hit, step by step. -/
theorem slide_eq {l : List Bx} {q : Bx} {x d : Int} (hx : ¬ (x < 0 ∨ 2 < x)) (hn : ¬ ovB l q = true) : l.foldl (gapB q x) d = slB l q x d := by
  have hx3 : x = 0 ∨ x = 1 ∨ x = 2 := by omega
  unfold slB
  rw [if_neg (fun h => h.elim (fun h => hx (.inl h)) fun h => h.elim (fun h => hx (.inr h)) hn)]
  by_cases hd : d < 0
  · rw [if_pos hd]
    obtain ⟨f1, f2, f3⟩ := fold_dn hx3 hd hn
    rw [slC_eq (hit := slD l q x) (k := (-d).toNat) (m := 0) (r := -l.foldl (gapB q x) d) (by omega) (by omega) (fun j h1 h2 => f2 j h1 h2) ?_]
    · omega
    · rcases f3 with f3 | f3
      · exact .inl (by omega)
      · refine .inr ?_
        unfold slD
        rwa [show -(-l.foldl (gapB q x) d + 1) = l.foldl (gapB q x) d - 1 by omega]
  · rw [if_neg hd]
    obtain ⟨f1, f2, f3⟩ := fold_up hx3 (by omega : 0 ≤ d) hn
    rw [slC_eq (hit := slU l q x) (k := d.toNat) (m := 0) (r := l.foldl (gapB q x) d) (by omega) (by omega) (fun j h1 h2 => f2 j h1 h2) ?_]
    rcases f3 with f3 | f3
    · exact .inl (by omega)
    · exact .inr f3
theorem sl_rng {l : List Bx} {q : Bx} {x d : Int} (h : -64 ≤ d ∧ d ≤ 64) : -64 ≤ slB l q x d ∧ slB l q x d ≤ 64 := by
  unfold slB
  have u := slC_rng (hit := slU l q x) (k := d.toNat) (m := 0)
  have v := slC_rng (hit := slD l q x) (k := (-d).toNat) (m := 0)
  split
  · omega
  · split <;> omega
theorem sl_out {l : List Bx} {q : Bx} {x d : Int} (h : x < 0 ∨ 2 < x ∨ ovB l q = true) : slB l q x d = 0 := if_pos h
/-! ### The tables, and the loops' steps -/
section
variable (l a b c d e f x y n k m : X)
theorem P623 : Px 623 [l, a, b, c, d, e, f, x, y, k, n] = (0 ≤ k.i ∧ k.i ≤ l.i ∧ n.i = ((lstX deX l).take k.i.toNat).foldl (gapB ⟨a.i, b.i, c.i, d.i, e.i, f.i⟩ x.i) y.i) := rfl
theorem P624 : Px 624 [l, a, b, c, d, e, f, x, y, n] = if y.i < 0 then y.i ≤ n.i ∧ n.i ≤ 0 ∧ slC (slD (lstX deX l) ⟨a.i, b.i, c.i, d.i, e.i, f.i⟩ x.i) (n.i - y.i).toNat (-n.i) = slC (slD (lstX deX l) ⟨a.i, b.i, c.i, d.i, e.i, f.i⟩ x.i) (-y.i).toNat 0
      else 0 ≤ n.i ∧ n.i ≤ y.i ∧ slC (slU (lstX deX l) ⟨a.i, b.i, c.i, d.i, e.i, f.i⟩ x.i) (y.i - n.i).toNat n.i = slC (slU (lstX deX l) ⟨a.i, b.i, c.i, d.i, e.i, f.i⟩ x.i) y.i.toNat 0 := rfl
theorem m651 : (Ff 651 [l, a, b, c, d, e, f, x, y, k, n]).i = l.i + 1 - k.i := rfl
theorem m652 : (Ff 652 [l, a, b, c, d, e, f, x, y, n]).i = 1 + (if y.i < 0 then n.i - y.i else y.i - n.i) := rfl
theorem ov_single (q : Bx) : ovB (lstX deX (mkX (rwTab 6 [a, b, c, d, e, f]) 1)) q = meetB ⟨a.i, b.i, c.i, d.i, e.i, f.i⟩ q := by
  rw [lstX_one]
  exact Bool.or_false _
end
theorem selX_i (r : Int → Int → Y) (i o : Int) : (selX r i o).i = (r i o).i := rfl
section
variable {x1 x2 x3 x4 x5 x6 d : Int} {f : Int → Y}
theorem gap0p (h : ¬ meetB ⟨x1, (f 1).i, (f 2).i, x4, (f 4).i, (f 5).i⟩ ⟨x1, x2, x3, x4, x5, x6⟩ = true ∨ (f 3).i ≤ (f 0).i) : d = gapB ⟨x1, x2, x3, x4, x5, x6⟩ 0 d (deX f) := (if_pos h).symm
theorem gap0n (h : ¬ (¬ meetB ⟨x1, (f 1).i, (f 2).i, x4, (f 4).i, (f 5).i⟩ ⟨x1, x2, x3, x4, x5, x6⟩ = true ∨ (f 3).i ≤ (f 0).i)) : gapV d ((f 0).i - x4) ((f 3).i - x1) = gapB ⟨x1, x2, x3, x4, x5, x6⟩ 0 d (deX f) := (if_neg h).symm
theorem gap1p (h : ¬ meetB ⟨(f 0).i, x2, (f 2).i, (f 3).i, x5, (f 5).i⟩ ⟨x1, x2, x3, x4, x5, x6⟩ = true ∨ (f 4).i ≤ (f 1).i) : d = gapB ⟨x1, x2, x3, x4, x5, x6⟩ 1 d (deX f) := (if_pos h).symm
theorem gap1n (h : ¬ (¬ meetB ⟨(f 0).i, x2, (f 2).i, (f 3).i, x5, (f 5).i⟩ ⟨x1, x2, x3, x4, x5, x6⟩ = true ∨ (f 4).i ≤ (f 1).i)) : gapV d ((f 1).i - x5) ((f 4).i - x2) = gapB ⟨x1, x2, x3, x4, x5, x6⟩ 1 d (deX f) := (if_neg h).symm
theorem gap2p (h : ¬ meetB ⟨(f 0).i, (f 1).i, x3, (f 3).i, (f 4).i, x6⟩ ⟨x1, x2, x3, x4, x5, x6⟩ = true ∨ (f 5).i ≤ (f 2).i) : d = gapB ⟨x1, x2, x3, x4, x5, x6⟩ 2 d (deX f) := (if_pos h).symm
theorem gap2n (h : ¬ (¬ meetB ⟨(f 0).i, (f 1).i, x3, (f 3).i, (f 4).i, x6⟩ ⟨x1, x2, x3, x4, x5, x6⟩ = true ∨ (f 5).i ≤ (f 2).i)) : gapV d ((f 2).i - x6) ((f 5).i - x3) = gapB ⟨x1, x2, x3, x4, x5, x6⟩ 2 d (deX f) := (if_neg h).symm
end
theorem sl_next {l : X} {q : Bx} {x d0 k d v : Int} (hP : 0 ≤ k ∧ k ≤ l.i ∧ d = ((lstX deX l).take k.toNat).foldl (gapB q x) d0) (h1 : k < l.i) (hv : v = gapB q x d (deX (l.r k))) :
    (0 ≤ k + 1 ∧ k + 1 ≤ l.i ∧ v = ((lstX deX l).take (k + 1).toNat).foldl (gapB q x) d0) ∧ l.i + 1 - (k + 1) < l.i + 1 - k ∧ 0 < l.i + 1 - k := by
  refine ⟨⟨by omega, by omega, ?_⟩, by omega, by omega⟩
  rw [lx_take hP.1 h1, List.foldl_append, ← hP.2.2]
  exact hv
/-! ### Step by step -/
theorem mv0 (q : Bx) (n : Int) : mvB q 0 n = ⟨q.a + n, q.b, q.c, q.d + n, q.e, q.f⟩ := rfl
theorem sr_start {l : List Bx} {q : Bx} {x d : Int} : if d < 0 then d ≤ 0 ∧ (0 : Int) ≤ 0 ∧ slC (slD l q x) (0 - d).toNat (-0) = slC (slD l q x) (-d).toNat 0 else (0 : Int) ≤ 0 ∧ 0 ≤ d ∧ slC (slU l q x) (d - 0).toNat 0 = slC (slU l q x) d.toNat 0 := by
  split
  · exact ⟨by omega, Int.le_refl _, by rw [show (0 : Int) - d = -d by omega]; rfl⟩
  · exact ⟨Int.le_refl _, by omega, by rw [show d - (0 : Int) = d by omega]⟩
/-- The step. -/
def stB (d : Int) : Int := bif decide (d < 0) then -1 else 1
theorem stB_neg {d : Int} (h : d < 0) : stB d = -1 := by unfold stB; rw [decide_eq_true h]; rfl
theorem stB_pos {d : Int} (h : ¬ d < 0) : stB d = 1 := by unfold stB; rw [decide_eq_false h]; rfl
theorem sr_hit {l : List Bx} {q : Bx} {x d n : Int} (hx : ¬ (x < 0 ∨ 2 < x ∨ ovB l q = true)) (hne : ¬ n = d)
    (hP : if d < 0 then d ≤ n ∧ n ≤ 0 ∧ slC (slD l q x) (n - d).toNat (-n) = slC (slD l q x) (-d).toNat 0 else 0 ≤ n ∧ n ≤ d ∧ slC (slU l q x) (d - n).toNat n = slC (slU l q x) d.toNat 0) :
    (ovB l (mvB q x (n + stB d)) = true → n = slB l q x d) ∧ (¬ ovB l (mvB q x (n + stB d)) = true →
      (if d < 0 then d ≤ n + stB d ∧ n + stB d ≤ 0 ∧ slC (slD l q x) (n + stB d - d).toNat (-(n + stB d)) = slC (slD l q x) (-d).toNat 0 else 0 ≤ n + stB d ∧ n + stB d ≤ d ∧ slC (slU l q x) (d - (n + stB d)).toNat (n + stB d) = slC (slU l q x) d.toNat 0) ∧
      1 + (if d < 0 then n + stB d - d else d - (n + stB d)) < 1 + (if d < 0 then n - d else d - n) ∧ 0 < 1 + (if d < 0 then n - d else d - n)) := by
  unfold slB
  rw [if_neg hx]
  by_cases hd : d < 0
  · simp only [if_pos hd] at hP ⊢
    rw [stB_neg hd]
    obtain ⟨p1, p2, p3⟩ := hP
    have e : (n - d).toNat = (n - d - 1).toNat + 1 := by omega
    rw [e, slC_succ] at p3
    have eh : slD l q x (-n + 1) = ovB l (mvB q x (n + -1)) := by unfold slD; rw [show -(-n + 1) = n + -1 by omega]
    rw [eh] at p3
    refine ⟨fun h => ?_, fun h => ⟨⟨by omega, by omega, ?_⟩, by omega, by omega⟩⟩
    · rw [if_pos h] at p3; omega
    · rw [if_neg h] at p3
      rw [← p3, show n + -1 - d = n - d - 1 by omega, show -(n + -1) = -n + 1 by omega]
  · simp only [if_neg hd] at hP ⊢
    rw [stB_pos hd]
    obtain ⟨p1, p2, p3⟩ := hP
    have e : (d - n).toNat = (d - n - 1).toNat + 1 := by omega
    rw [e, slC_succ] at p3
    have eh : slU l q x (n + 1) = ovB l (mvB q x (n + 1)) := rfl
    rw [eh] at p3
    refine ⟨fun h => ?_, fun h => ⟨⟨by omega, by omega, ?_⟩, by omega, by omega⟩⟩
    · rw [if_pos h] at p3; omega
    · rw [if_neg h] at p3
      rw [← p3, show d - (n + 1) = d - n - 1 by omega]
theorem sr_end {l : List Bx} {q : Bx} {x d n : Int} (hx : ¬ (x < 0 ∨ 2 < x ∨ ovB l q = true)) (he : n = d)
    (hP : if d < 0 then d ≤ n ∧ n ≤ 0 ∧ slC (slD l q x) (n - d).toNat (-n) = slC (slD l q x) (-d).toNat 0 else 0 ≤ n ∧ n ≤ d ∧ slC (slU l q x) (d - n).toNat n = slC (slU l q x) d.toNat 0) : n = slB l q x d := by
  subst he
  unfold slB
  rw [if_neg hx]
  by_cases hd : n < 0
  · simp only [if_pos hd] at hP ⊢
    rw [← hP.2.2, Int.sub_self]
    show n = -(-n)
    omega
  · simp only [if_neg hd] at hP ⊢
    rw [← hP.2.2, Int.sub_self]
    rfl
theorem mv_lit {x1 x2 x3 x4 x5 x6 x n : Int} : (⟨x1 + ((bif decide (x = 0) then 1 else 0) * n), x2 + ((bif decide (x = 0) then 0 else (bif decide (x = 1) then 1 else 0)) * n), x3 + ((bif decide (x = 0) then 0 else (bif decide (x = 1) then 0 else 1)) * n), x4 + ((bif decide (x = 0) then 1 else 0) * n), x5 + ((bif decide (x = 0) then 0 else (bif decide (x = 1) then 1 else 0)) * n), x6 + ((bif decide (x = 0) then 0 else (bif decide (x = 1) then 0 else 1)) * n)⟩ : Bx) = mvB ⟨x1, x2, x3, x4, x5, x6⟩ x n := by
  unfold mvB
  by_cases h0 : x = 0
  · subst h0; simp
  · by_cases h1 : x = 1
    · subst h1; simp
    · simp [h0, h1]
theorem c01 (a : Bool) : (bif a then (1 : Int) else 0) = 0 ∨ (bif a then (1 : Int) else 0) = 1 := by cases a <;> simp
theorem c001 (a b : Bool) : (bif a then (0 : Int) else (bif b then 1 else 0)) = 0 ∨ (bif a then (0 : Int) else (bif b then 1 else 0)) = 1 := by cases a <;> cases b <;> simp
theorem c002 (a b : Bool) : (bif a then (0 : Int) else (bif b then 0 else 1)) = 0 ∨ (bif a then (0 : Int) else (bif b then 0 else 1)) = 1 := by cases a <;> cases b <;> simp
theorem step_rng {c n : Int} (hc : c = 0 ∨ c = 1) (lo hi y : Int) (hy : lo ≤ y ∧ y ≤ hi) (hn : -65 ≤ n ∧ n ≤ 65) : lo - 65 ≤ y + c * n ∧ y + c * n ≤ hi + 65 := by
  rcases hc with rfl | rfl
  · rw [Int.zero_mul]; omega
  · rw [Int.one_mul]; omega
end Vc
end Go.Proofs.Ytokicaoapclicaa
