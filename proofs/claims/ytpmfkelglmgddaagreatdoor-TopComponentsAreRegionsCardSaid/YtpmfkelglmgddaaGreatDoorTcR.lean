/- Plain: cells and materials. -/
import Derived.Test.YtpmfkelglmgddaaGreatDoorTcC
import Derived.Test.YtpmfkelglmgddaaGreatDoorC07N
namespace Go.Proofs.YtpmfkelglmgddaaGreatDoor
namespace Vc
open Go Go.RowKit
set_option linter.unusedVariables false
theorem aD {v c lo hi : Int} (e : v = c) (h : lo ≤ c ∧ c ≤ hi) : c = v ∧ lo ≤ v ∧ v ≤ hi := by
 subst e
 exact ⟨rfl, h⟩
section
variable {b : Bx} {l t : X} {cs : List Int} {p : Pt} {n k i d : Int}
theorem As (h : n < 0 ∨ t.i ≤ n) : ue t n k = false := by
 unfold ue
 rw [Bool.and_eq_false_iff, Bool.and_eq_false_iff, decide_eq_false_iff_not, decide_eq_false_iff_not]
 omega
theorem D7 (h : ¬ (n < 0 ∨ t.i ≤ n)) : ue t n k = (t.r n k).b := by
 unfold ue
 rw [decide_eq_true (by omega), decide_eq_true (by omega)]
 rfl
theorem Hq (h : b.has p = true) (hv : b.Kb = l.i) : uf b (ae cb l) p = (l.r (b.idx p) 0).i := by
 have hi := yj h
 unfold uf
 rw [if_pos hi.1, Kc hi.1 (by omega)]
theorem D9 (h : ¬ 0 ≤ b.idx p) : uf b cs p = 0 := if_neg h
end
theorem Ep {a b : Int} {k : Nat} (hk : k ≤ 62) (ha : 0 ≤ a ∧ a < 2 ^ k) (hb : 0 ≤ b ∧ b < 2 ^ k) : 0 ≤ Kn a b ∧ Kn a b < 2 ^ k := by
 have hp : (2 : Nat) ^ k ≤ 2 ^ 62 := Nat.pow_le_pow_right (by decide) hk
 have e : ((2 : Nat) ^ k : Int) = (2 : Int) ^ k := by simp
 have h1 := eX a
 have h2 := eX b
 have h3 : (BitVec.ofInt 64 a).toNat < 2 ^ k := by omega
 have h4 : (BitVec.ofInt 64 b).toNat < 2 ^ k := by omega
 have h5 := Nat.or_lt_two_pow h3 h4
 have h6 : Kn a b = IntKind.i64.wrap ((BitVec.ofInt 64 a ||| BitVec.ofInt 64 b).toNat : Int) := rfl
 rw [h6, BitVec.toNat_or, ed (by simp only [hD, hU]; omega)]
 omega
theorem Er {x : Int} {n k : Nat} (h : k < n) : 0 ≤ x % 2 * 2 ^ k ∧ x % 2 * 2 ^ k < 2 ^ n := by
 have hp : (2 : Int) ^ k < 2 ^ n := by exact_mod_cast Nat.pow_lt_pow_right (by decide) h
 have h0 : (0 : Int) < 2 ^ k := Int.pow_pos (by decide)
 have : x % 2 = 0 ∨ x % 2 = 1 := by omega
 rcases this with e | e <;> rw [e] <;> omega
theorem Ea (x y z : Int) : ∀ n : Nat, n ≤ 14 → 0 ≤ yn x y z n ∧ yn x y z n < 2 ^ (3 * n)
 | 0, _ => ⟨Int.le_refl 0, show (0 : Int) < 1 by decide⟩
 | n + 1, h => by
  have ih := Ea x y z n (by omega)
  have hm : (2 : Int) ^ (3 * n) < 2 ^ (3 * (n + 1)) := by exact_mod_cast Nat.pow_lt_pow_right (by decide) (show 3 * n < 3 * (n + 1) by omega)
  exact Ep (by omega) (Ep (by omega) (Ep (by omega) ⟨ih.1, by omega⟩ (Er (by omega))) (Er (by omega))) (Er (by omega))
def Jl : Bool := (List.range 8).all fun x : Nat => (List.range 8).all fun y : Nat => (List.range 8).all fun z : Nat =>
 decide (64 * b7 x y z ≤ fK x y z) && decide (fK x y z < 64 * b7 x y z + 64)
theorem Es : Jl = true := by decide +kernel
theorem AB {x y z : Int} (hx : 0 ≤ x ∧ x < 8) (hy : 0 ≤ y ∧ y < 8) (hz : 0 ≤ z ∧ z < 8) : 64 * b7 x y z ≤ fK x y z ∧ fK x y z < 64 * b7 x y z + 64 := by
 have h := Es
 unfold Jl at h
 have h1 := List.all_eq_true.1 (List.all_eq_true.1 (List.all_eq_true.1 h x.toNat (List.mem_range.2 (by omega))) y.toNat (List.mem_range.2 (by omega))) z.toNat (List.mem_range.2 (by omega))
 rw [Bool.and_eq_true, decide_eq_true_eq, decide_eq_true_eq, Int.toNat_of_nonneg hx.1, Int.toNat_of_nonneg hy.1, Int.toNat_of_nonneg hz.1] at h1
 exact h1
def Jm : Bool := (List.range 8).all fun k : Nat => decide (fK (ff k).1 (ff k).2.1 (ff k).2.2 = 64 * k)
theorem Et : Jm = true := by decide +kernel
theorem HN {k : Int} (h0 : 0 ≤ k) (h8 : k < 8) : fK (ff k).1 (ff k).2.1 (ff k).2.2 = 64 * k := by
 have h := Et
 unfold Jm at h
 have h1 := of_decide_eq_true (List.all_eq_true.1 h k.toNat (List.mem_range.2 (by omega)))
 rwa [Int.toNat_of_nonneg h0] at h1
theorem Au {t : X} (h : dQ t) {k : Int} (h0 : 0 ≤ k) (hk : k < t.i) : fK (t.r k 1).i (t.r k 2).i (t.r k 3).i = 64 * k := by
 have e := (h.2 k h0 hk).2
 have := HN h0 (show k < 8 by have := h.1; omega)
 rw [← e] at this
 exact this
theorem gm {t : X} (hp : dQ t) {x y z : Int} (h : eh (da t) x y z = true) : ((0 ≤ x ∧ x < 8) ∧ (0 ≤ y ∧ y < 8) ∧ (0 ≤ z ∧ z < 8)) ∧ 0 ≤ b7 x y z ∧ b7 x y z < t.i := by
 have h := of_decide_eq_true h
 unfold da at h
 unfold b7
 rcases hp.1 with e | e <;> rw [e] at h ⊢
 ·rw [if_pos rfl] at h; omega
 ·rw [if_neg (by decide)] at h; omega
theorem Hr {t : X} (hp : dQ t) {x y z : Int} (h : fK x y z < 0) : pQ (da t) x y z = -1 := by
 refine if_neg fun hc => ?_
 obtain ⟨⟨k1, k2, k3⟩, k4, _⟩ := gm hp hc
 have := AB k1 k2 k3
 omega
theorem KZ {t : X} (hp : dQ t) {x y z k : Int} (h0 : 0 ≤ k) (hk : k < t.i)
 (h : ((t.r k 1).i ≤ x ∧ x < (t.r k 1).i + 4) ∧ ((t.r k 2).i ≤ y ∧ y < (t.r k 2).i + 4) ∧ ((t.r k 3).i ≤ z ∧ z < (t.r k 3).i + 4)) : pQ (da t) x y z = k := by
 have e := (hp.2 k h0 hk).2
 simp only [ff, Prod.mk.injEq] at e
 obtain ⟨e1, e2, e3⟩ := e
 rw [e1, e2, e3] at h
 have hc : eh (da t) x y z = true := by
  refine decide_eq_true ?_
  unfold da
  rcases hp.1 with e | e <;> rw [e] at hk ⊢
  ·rw [if_pos rfl]; omega
  ·rw [if_neg (by decide)]; omega
 unfold pQ
 rw [if_pos hc]
 unfold b7
 have := hp.1
 omega
theorem Ht {t : X} (hp : dQ t) {x y z a : Int} (h0 : 0 ≤ a) (ha : a ≤ t.i) (h1 : ∀ k : Int, 0 ≤ k → k < a → 64 * k < fK x y z)
 (h2 : ∀ k : Int, a ≤ k → k < t.i → fK x y z ≤ 64 * k) (hc : eh (da t) x y z = true) :
 (if a < t.i ∧ 64 * a = fK x y z then a else a - 1) = b7 x y z := by
 obtain ⟨⟨k1, k2, k3⟩, k4, k5⟩ := gm hp hc
 have he := AB k1 k2 k3
 have g1 := h1 (a - 1)
 have g2 := h2 a (Int.le_refl _)
 have g3 := h1 (b7 x y z) k4
 have g4 := h2 (b7 x y z)
 have g5 := h2 (b7 x y z + 1)
 split <;> omega
theorem KY {t : X} (hp : dQ t) {x y z : Int} (hc : eh (da t) x y z = true) :
 ((t.r (b7 x y z) 1).i ≤ x ∧ x < (t.r (b7 x y z) 1).i + 4) ∧ ((t.r (b7 x y z) 2).i ≤ y ∧ y < (t.r (b7 x y z) 2).i + 4) ∧ ((t.r (b7 x y z) 3).i ≤ z ∧ z < (t.r (b7 x y z) 3).i + 4) := by
 obtain ⟨⟨k1, k2, k3⟩, k4, k5⟩ := gm hp hc
 have e := (hp.2 _ k4 k5).2
 simp only [ff, Prod.mk.injEq] at e
 obtain ⟨e1, e2, e3⟩ := e
 rw [e1, e2, e3]
 unfold b7
 omega
theorem oY {n a v w : Int} (e : a < n → v = 64 * a) :
 (bif (!((decide (a < n)) && (decide ((bif (decide (v < w)) then (-1) else (bif (decide (w < v)) then (1 : Int) else 0)) = 0)))) then (a - 1) else a) = if a < n ∧ 64 * a = w then a else a - 1 := by
 by_cases h : a < n
 ·rw [e h]
  by_cases h1 : 64 * a < w
  ·simp [h, h1]; omega
  ·by_cases h2 : w < 64 * a
   ·simp [h, h1, h2]; omega
   ·have : 64 * a = w := by omega
    simp [h, this]
 ·simp [h]
theorem Av {v w : Int} : decide ((bif (decide (v < w)) then (-1) else (bif (decide (w < v)) then (1 : Int) else 0)) < 0) = decide (v < w) := by
 by_cases h1 : v < w
 ·simp [h1]
 ·by_cases h2 : w < v <;> simp [h1, h2]
theorem yC {s x y z : Int} (h : 0 ≤ pQ s x y z) : eh s x y z = true ∧ pQ s x y z = b7 x y z := by
 unfold pQ at h ⊢
 by_cases hc : eh s x y z = true
 ·rw [if_pos hc]; exact ⟨hc, rfl⟩
 ·rw [if_neg hc] at h; omega
theorem Ec {t : X} (hp : dQ t) {x y z : Int} (h : pQ (da t) x y z < 0) : eh (da t) x y z = false := by
 by_cases hc : eh (da t) x y z = true
 ·unfold pQ at h
  rw [if_pos hc] at h
  have := (gm hp hc).2.1
  omega
 ·exact Bool.eq_false_iff.2 hc
theorem Am {t : X} (hp : dQ t) {x y z : Int} (hc : eh (da t) x y z = true) :
 (t.r (b7 x y z) 1).i = x - x % 4 ∧ (t.r (b7 x y z) 2).i = y - y % 4 ∧ (t.r (b7 x y z) 3).i = z - z % 4 := by
 obtain ⟨⟨k1, k2, k3⟩, k4, k5⟩ := gm hp hc
 have e := (hp.2 _ k4 k5).2
 simp only [ff, Prod.mk.injEq] at e
 obtain ⟨e1, e2, e3⟩ := e
 rw [e1, e2, e3]
 unfold b7
 omega
theorem Lh {x y z : Int} (hx : 0 ≤ x ∧ x < 4) (hy : 0 ≤ y ∧ y < 4) (hz : 0 ≤ z ∧ z < 4) : sP 0 0 0 4 4 4 x y z = x + 4 * y + 16 * z := by
 unfold sP
 rw [if_pos (show jS x y z 0 0 0 4 4 4 from ⟨hx.1, hx.2, hy.1, hy.2, hz.1, hz.2⟩)]
 omega
theorem Ld {i : Int} (h : 0 ≤ i ∧ i < 64) : JT 0 0 0 4 4 4 i = i % 4 ∧ JU 0 0 0 4 4 4 i = i / 4 % 4 ∧ JV 0 0 0 4 4 4 i = i / 16 := by
 have hk : okB 0 0 0 4 4 4 i := ⟨h.1, by
  show i < fw 0 0 0 4 4 4
  have : fw 0 0 0 4 4 4 = 64 := by decide
  omega⟩
 unfold JT JU JV
 rw [if_pos hk, if_pos hk, if_pos hk]
 refine ⟨by omega, by omega, by omega⟩
theorem Li {t : X} {x y z v : Int} (hc : eh (da t) x y z = true) : BP t x y z v = v := if_pos hc
theorem HM {t : X} {x y z v : Int} (hc : eh (da t) x y z = false) : BP t x y z v = 0 := if_neg (by rw [hc]; exact Bool.false_ne_true)
end Vc
end Go.Proofs.YtpmfkelglmgddaaGreatDoor
namespace Go.Proofs.YtpmfkelglmgddaaGreatDoor
namespace Vc
open Go Go.RowKit
set_option linter.unusedVariables false
set_option linter.unusedSimpArgs false
variable {t d T R : X} {k i : Int}
theorem qn (n : Nat) : bK t d T (n + 1) = bK t d T n ++ (jl t d T n).toList := by
 unfold bK
 rw [List.range_succ, List.filterMap_append]
 cases h : jl t d T n <;> simp [h]
theorem sX (n : Nat) : (bK t d T n).length ≤ n := by
 have := List.length_filterMap_le (jl t d T) (List.range n)
 rwa [List.length_range] at this
theorem tg (h0 : 0 ≤ k) (h2 : 0 ≤ i) (s : Nat) (hs : s < 6) : jl t d T (6 * (64 * k + i).toNat + s) = nP t d T (eV (64 * k + i)) s := by
 unfold jl
 rw [show (6 * (64 * k + i).toNat + s) / 6 = (64 * k + i).toNat by omega, show (6 * (64 * k + i).toNat + s) % 6 = s by omega, Int.toNat_of_nonneg (by omega)]
theorem qf (hp : dQ t) (h0 : 0 ≤ k) (hk : k < t.i) (h2 : 0 ≤ i) (h3 : i < 64) : eV (64 * k + i) = ((t.r k 1).i + i % 4, (t.r k 2).i + i / 4 % 4, (t.r k 3).i + i / 16) := by
 have h := (hp.2 k h0 hk).2
 unfold ff at h
 simp only [Prod.mk.injEq] at h
 obtain ⟨e1, e2, e3⟩ := h
 unfold eV
 rw [e1, e2, e3]
 simp only [Prod.mk.injEq]
 refine ⟨?_, ?_, ?_⟩ <;> omega
theorem AD (hp : dQ t) (h0 : 0 ≤ k) (hk : k < t.i) (h2 : 0 ≤ i) (h3 : i < 64) : eU t d T (eV (64 * k + i)) = pP T (d.r (i + 64 * k) 0).i := by
 have e1 : eh (da t) (eV (64 * k + i)).1 (eV (64 * k + i)).2.1 (eV (64 * k + i)).2.2 = true := by
  refine decide_eq_true ?_
  unfold eV da
  simp only
  rcases hp.1 with h | h
  ·obtain rfl : k = 0 := by omega
   rw [if_pos h]; omega
  ·rw [if_neg (by omega)]; omega
 have e2 : cidx (eV (64 * k + i)).1 (eV (64 * k + i)).2.1 (eV (64 * k + i)).2.2 = i + 64 * k := by
  unfold eV cidx b7
  simp only
  rcases hp.1 with h | h <;> omega
 unfold eU
 rw [e1, e2, Bool.true_and]
def Of (t d T : X) (x y z : Int) (v : Bool) : Bool := bif (eh (da t) x y z && decide (BP t x y z 1 < 1)) then (eh (da t) x y z && decide (BP t x y z 1 < 1)) else (v == (eh (da t) x y z && pP T (BP t x y z (d.r (cidx x y z) 0).i)))
theorem Eu (t d T : X) (x y z : Int) (v : Bool) : Of t d T x y z v = (v == eU t d T (x, y, z)) := by
 unfold Of eU BP
 simp only
 cases h : eh (da t) x y z <;> simp
section
variable (s : Nat) (hs : s < 6) (hp : dQ t) (h0 : 0 ≤ k) (hk : k < t.i) (h2 : 0 ≤ i) (h3 : i < 64) (hR : ae aQ R = bK t d T (6 * (64 * k + i).toNat + s)) {x y z : Int}
 (pa : bI ((t.r k 1).i + i % 4, (t.r k 2).i + i / 4 % 4, (t.r k 3).i + i / 16) s = (x, y, z))
include hs hp h0 hk h2 h3 hR pa
theorem dw (h : ¬ (pP T (d.r (i + 64 * k) 0).i = true ∧ ¬ Of t d T x y z (pP T (d.r (i + 64 * k) 0).i) = true)) : ae aQ R = bK t d T (6 * (64 * k + i).toNat + (s + 1)) := by
 rw [hR, ← Nat.add_assoc, qn, tg h0 h2 s hs]
 have e : nP t d T (eV (64 * k + i)) s = none := by
  unfold nP
  rw [AD hp h0 hk h2 h3, qf hp h0 hk h2 h3, pa]
  rw [Eu] at h
  refine if_neg ?_
  cases h1 : pP T (d.r (i + 64 * k) 0).i <;> cases h4 : eU t d T (x, y, z) <;> simp_all
 rw [e]
 simp
theorem jY {es : List X} (hv : pP T (d.r (i + 64 * k) 0).i = true) (h : ¬ Of t d T x y z (pP T (d.r (i + 64 * k) 0).i) = true) (hr : 0 ≤ R.i)
 (hq : aQ (fun p => (es.getD p.toNat (xI 0)).y) = if s % 2 = 1 then (x, y, z, ((s / 2 : Nat) : Int), true, 1) else ((t.r k 1).i + i % 4, (t.r k 2).i + i / 4 % 4, (t.r k 3).i + i / 16, ((s / 2 : Nat) : Int), false, 1)) :
 ae aQ (aH (aE R.r R.i (ar 6 es)) (R.i + 1)) = bK t d T (6 * (64 * k + i).toNat + (s + 1)) := by
 rw [nc hr, eW, hR, ← Nat.add_assoc, qn, tg h0 h2 s hs]
 congr 1
 have e : nP t d T (eV (64 * k + i)) s = some (if s % 2 = 1 then (x, y, z, ((s / 2 : Nat) : Int), true, 1) else ((t.r k 1).i + i % 4, (t.r k 2).i + i / 4 % 4, (t.r k 3).i + i / 16, ((s / 2 : Nat) : Int), false, 1)) := by
  unfold nP
  rw [AD hp h0 hk h2 h3, qf hp h0 hk h2 h3, pa]
  rw [Eu] at h
  refine if_pos ?_
  cases h4 : eU t d T (x, y, z) <;> simp_all
 rw [e, hq]
 rfl
omit pa hp h0 in
theorem jX (ht : t.i ≤ 8) : R.i + 1 ≤ 3072 := by
 have e := congrArg List.length hR
 rw [aK] at e
 have := sX (t := t) (d := d) (T := T) (6 * (64 * k + i).toNat + s)
 omega
end
theorem Ll {l : X} (h0 : 0 ≤ k) (h2 : i = 64) (h : ae aQ l = bK t d T (6 * (64 * k + i).toNat)) : ae aQ l = bK t d T (384 * (k + 1).toNat) := by
 rw [h, h2, show 6 * (64 * k + 64).toNat = 384 * (k + 1).toNat by omega]
end Vc
end Go.Proofs.YtpmfkelglmgddaaGreatDoor
namespace Go.Proofs.YtpmfkelglmgddaaGreatDoor
namespace Vc
open Go Go.RowKit
set_option linter.unusedVariables false
theorem Ev {R : X} {q : I3} : Db R q.1 q.2.1 q.2.2 = true ↔ q ∈ ae cd R := by
 obtain ⟨x, y, z⟩ := q
 unfold Db ae
 simp only [List.any_eq_true, List.mem_map, decide_eq_true_eq, cd, Prod.mk.injEq]
theorem uz {R : X} {x y z : Int} (h : 0 ≤ R.i) : ae cd (aH (ak (ak (ak R.r R.i 0 (xI x)) R.i 1 (xI y)) R.i 2 (xI z)) (R.i + 1)) = ae cd R ++ [(x, y, z)] := by
 unfold ae
 show (List.range (R.i + 1).toNat).map _ = _
 rw [show (R.i + 1).toNat = R.i.toNat + 1 by omega, List.range_succ, List.map_append]
 congr 1
 ·apply List.map_congr_left
  intro j hj
  have hj := List.mem_range.1 hj
  have hn : ∀ k : Int, ¬ ((j : Int) = R.i ∧ k = (k : Int)) := fun k e => by omega
  simp [cd, aH, ak, show ¬ (j : Int) = R.i by omega]
 ·have : ((R.i.toNat : Nat) : Int) = R.i := by omega
  simp [cd, aH, ak, this, X.y, xI]
theorem Fl.congr {sol : I3 → Prop} {A : I3} {sn sn' l : List I3} {n : Nat} (h : Vt.Fl sol A sn l n) (e : ∀ q, q ∈ sn ↔ q ∈ sn') : Vt.Fl sol A sn' l n :=
 ⟨h.nd, fun q hq => ⟨(h.ls q hq).1, (e q).1 (h.ls q hq).2⟩, fun q hq => h.sl q ((e q).2 hq), h.a0, fun j hj p hp q hq => (e q).1 (h.cl j hj p hp q hq)⟩
theorem Ew {l : List I3} {q r : I3} : r ∈ q :: l ↔ r ∈ l ++ [q] := by simp [or_comm]
section
variable {b : Bx} {l T L D R : X} {A : I3} {n k : Int}
theorem z8 (hc : uh b 4 ∨ uh b 8) {p : I3} (h : xW b l T p) : (0 ≤ p.1 ∧ p.1 < 8) ∧ (0 ≤ p.2.1 ∧ p.2.1 < 8) ∧ 0 ≤ p.2.2 ∧ p.2.2 < 8 := by
 have h1 : b.has p = true := ((Bool.and_eq_true _ _).mp h).1
 have h2 : jS p.1 p.2.1 p.2.2 b.a b.b b.c b.d b.e b.f := of_decide_eq_true h1
 unfold jS at h2
 rcases hc with ⟨⟨e1, e2, e3⟩, e4, e5, e6⟩ | ⟨⟨e1, e2, e3⟩, e4, e5, e6⟩ <;> omega
theorem G1 (h : xW b l T A) : yp b l T A 0 0 (aH (ar 3 [xI A.1, xI A.2.1, xI A.2.2]) 1) (aH (ar 1 []) 0) (aH (ak (ak (ak (ar 1 []) 0 0 (xI A.1)) 0 1 (xI A.2.1)) 0 2 (xI A.2.2)) (0 + 1)) := by
 exact ⟨Vt.Fl.init h, ⟨show (0 : Int) ≤ 1 by decide, show (0 : Int) ≤ 1 by decide⟩, ⟨show (0 : Int) ≤ 0 + 1 by decide, show (0 : Int) + 1 ≤ 1 + 6 * 0 + 0 by decide⟩, show (0 : Int) ≤ 0 by decide, show (0 : Int) ≤ 0 + 1 by decide⟩
theorem Lt (hc : uh b 4 ∨ uh b 8) {sn m : List I3} {j : Nat} (h : Vt.Fl (xW b l T) A sn m j) : m.length ≤ 512 := by
 have := h.len (m := 8) fun p hp => by
  have := z8 hc hp
  omega
 omega
theorem G2 (hc : uh b 4 ∨ uh b 8) (h : yp b l T A n k L D R) {x y z : Int} (hq : ¬ Db R x y z = true) (hs : xW b l T (x, y, z)) :
 yp b l T A n (k + 1) (aH (aE L.r L.i (ar 3 [xI x, xI y, xI z])) (L.i + 1)) D (aH (ak (ak (ak R.r R.i 0 (xI x)) R.i 1 (xI y)) R.i 2 (xI z)) (R.i + 1)) ∧ L.i + 1 ≤ 512 := by
 obtain ⟨h1, h2, h3, h4, h5⟩ := h
 have hl : (ae cd L).length = L.i.toNat := aK _ _
 have hp := h1.push (by omega) (fun e => hq (Ev (q := (x, y, z)).2 e)) hs
 have h6 := Lt hc hp
 rw [List.length_append, hl] at h6
 simp only [List.length_singleton] at h6
 refine ⟨⟨?_, ⟨show 0 ≤ L.i + 1 by omega, show n ≤ L.i + 1 by omega⟩, ⟨show 0 ≤ R.i + 1 by omega, show R.i + 1 ≤ 1 + 6 * n + (k + 1) by omega⟩, h4, show D.i ≤ R.i + 1 by omega⟩, by omega⟩
 rw [uz h3.1, nc h2.1]
 exact Fl.congr hp fun q => Ew
theorem Ab (h : yp b l T A n k L D R) {x y z : Int} (hs : ¬ xW b l T (x, y, z)) {D' : X} (hd : 0 ≤ D'.i ∧ D'.i ≤ D.i + 1) : yp b l T A n (k + 1) L D' (aH (ak (ak (ak R.r R.i 0 (xI x)) R.i 1 (xI y)) R.i 2 (xI z)) (R.i + 1)) := by
 obtain ⟨h1, h2, h3, h4, h5⟩ := h
 refine ⟨?_, h2, ⟨show 0 ≤ R.i + 1 by omega, show R.i + 1 ≤ 1 + 6 * n + (k + 1) by omega⟩, hd.1, show D'.i ≤ R.i + 1 by omega⟩
 rw [uz h3.1]
 exact Fl.congr (h1.skip hs) fun q => Ew
def KB (x i : Int) : Int := IntKind.wrap .i64 (x + (bif decide (i = 5) then 0 else (bif decide (i = 4) then 0 else (bif decide (i = 3) then 0 else (bif decide (i = 2) then 0 else (bif decide (i = 1) then ((-1) : Int) else 1))))))
def KC (x i : Int) : Int := IntKind.wrap .i64 (x + (bif decide (i = 5) then 0 else (bif decide (i = 4) then 0 else (bif decide (i = 3) then (-1) else (bif decide (i = 2) then (1 : Int) else 0)))))
def KD (x i : Int) : Int := IntKind.wrap .i64 (x + (bif decide (i = 5) then (-1) else (bif decide (i = 4) then (1 : Int) else 0)))
theorem M7 {p : I3} (hp : (0 ≤ p.1 ∧ p.1 < 8) ∧ (0 ≤ p.2.1 ∧ p.2.1 < 8) ∧ 0 ≤ p.2.2 ∧ p.2.2 < 8) {i : Int} (h0 : 0 ≤ i) (h1 : i < 6) :
 (KB p.1 i, KC p.2.1 i, KD p.2.2 i) = jc p i.toNat ∧ (-1048576 ≤ KB p.1 i ∧ KB p.1 i ≤ 1048576) ∧ (-1048576 ≤ KC p.2.1 i ∧ KC p.2.1 i ≤ 1048576) ∧ -1048576 ≤ KD p.2.2 i ∧ KD p.2.2 i ≤ 1048576 := by
 have w : ∀ x : Int, -1048576 ≤ x → x ≤ 1048576 → IntKind.wrap .i64 x = x := fun x a b => ed ⟨by show (-9223372036854775808 : Int) ≤ x; omega, by show x ≤ 9223372036854775807; omega⟩
 obtain ⟨x, y, z⟩ := p
 dsimp only at hp ⊢
 have : i = 0 ∨ i = 1 ∨ i = 2 ∨ i = 3 ∨ i = 4 ∨ i = 5 := by omega
 rcases this with rfl | rfl | rfl | rfl | rfl | rfl <;> simp only [KB, KC, KD, decide_true, Int.reduceEq, decide_false, cond_true, cond_false, Int.add_zero, Int.reduceToNat] <;> rw [w _ (by omega) (by omega), w _ (by omega) (by omega), w _ (by omega) (by omega)] <;> refine ⟨?_, by omega⟩ <;> simp [jc] <;> omega
theorem HO {p q : I3} (h : Vt.nb p q) : ∃ j : Nat, j < 6 ∧ q = jc p j := by
 obtain ⟨x, y, z⟩ := p
 obtain ⟨k, hk, h⟩ := h
 have hk : k = 0 ∨ k = 1 ∨ k = 2 := by omega
 rcases hk with rfl | rfl | rfl <;> rcases h with rfl | rfl
 ·exact ⟨0, by decide, by simp [Vt.pa, Vt.ax, jc]⟩
 ·exact ⟨1, by decide, by simp [Vt.ps, Vt.ax, jc]⟩
 ·exact ⟨2, by decide, by simp [Vt.pa, Vt.ax, jc]⟩
 ·exact ⟨3, by decide, by simp [Vt.ps, Vt.ax, jc]⟩
 ·exact ⟨4, by decide, by simp [Vt.pa, Vt.ax, jc]⟩
 ·exact ⟨5, by decide, by simp [Vt.ps, Vt.ax, jc]⟩
theorem G5 (h : yp b l T A n k L D R) (hk : k ≤ 6) (h0 : 0 ≤ n) (hn : n < L.i) (hs : ∀ j : Nat, j < 6 → jc (cd (L.r n)) j ∈ ae cd R) : yp b l T A (n + 1) 0 L D R := by
 obtain ⟨h1, h2, h3, h4, h5⟩ := h
 refine ⟨?_, ⟨h2.1, by omega⟩, ⟨h3.1, by omega⟩, h4, h5⟩
 rw [show (n + 1).toNat = n.toNat + 1 by omega]
 have hg : (ae cd L)[n.toNat]? = some (cd (L.r n)) := by
  rw [bu (by omega), Int.toNat_of_nonneg h0]
 refine h1.next hg fun q hq => ?_
 obtain ⟨j, hj, rfl⟩ := HO hq
 exact hs j hj
theorem KA (h : yp b l T A n k L D R) {j : Int} (h0 : 0 ≤ j) (hn : j < L.i) : xW b l T (cd (L.r j)) := by
 have hg : (ae cd L)[j.toNat]? = some (cd (L.r j)) := by
  rw [bu (by omega), Int.toNat_of_nonneg h0]
 exact (h.1.ls _ (List.mem_of_getElem? hg)).1
theorem KF (h : yp b l T A n k L D R) (hn : ¬ n < L.i) {B : I3} (hJ : Vt.Jn (xW b l T) A B) : ∃ j : Int, 0 ≤ j ∧ j < L.i ∧ cd (L.r j) = B := by
 have hl : (ae cd L).length = L.i.toNat := aK _ _
 have := h.1.all (by omega) hJ
 unfold ae at this
 obtain ⟨j, hj, e⟩ := List.mem_map.1 this
 have := List.mem_range.1 hj
 exact ⟨j, by omega, by omega, e⟩
theorem Aa {b : Bool} {c : Bool} (hc : c = true) : ((if b then (1 : Int) else 0) = if c then 1 else 0) ↔ b = true := by
 subst hc
 cases b <;> simp
theorem G4 (h : yp b l T A n k L D R) : yp b l T A n (k + 1) L D R := ⟨h.1, h.2.1, ⟨h.2.2.1.1, by have := h.2.2.1.2; omega⟩, h.2.2.2⟩
theorem yw {p : I3} {i : Int} (h0 : 0 ≤ i) {x y z : Int} (hq : (x, y, z) = jc p i.toNat) (hR : 0 ≤ R.i) (h : ∀ j : Nat, (j : Int) < i → jc p j ∈ ae cd R) :
 ∀ j : Nat, (j : Int) < i + 1 → jc p j ∈ ae cd (aH (ak (ak (ak R.r R.i 0 (xI x)) R.i 1 (xI y)) R.i 2 (xI z)) (R.i + 1)) := fun j hj => by
 rw [uz hR]
 by_cases e : (j : Int) < i
 ·exact List.mem_append_left _ (h j e)
 ·rw [hq, show i.toNat = j by omega]
  simp
theorem KE {p : I3} {i : Int} (h0 : 0 ≤ i) {x y z : Int} (hq : (x, y, z) = jc p i.toNat) (hm : Db R x y z = true) (h : ∀ j : Nat, (j : Int) < i → jc p j ∈ ae cd R) :
 ∀ j : Nat, (j : Int) < i + 1 → jc p j ∈ ae cd R := fun j hj => by
 by_cases e : (j : Int) < i
 ·exact h j e
 ·have := (Ev (q := (x, y, z))).1 hm
  rwa [hq, show i.toNat = j by omega] at this
theorem G3 {S : Int → Int → Y} (h : n < L.i) : cd (aE L.r L.i S n) = cd (L.r n) := by
 have : aE L.r L.i S n = L.r n := funext fun p => if_pos h
 rw [this]
end
end Vc
end Go.Proofs.YtpmfkelglmgddaaGreatDoor
namespace Go.Proofs.YtpmfkelglmgddaaGreatDoor
namespace Vc
open Go Go.RowKit
set_option linter.unusedVariables false
set_option linter.unusedSimpArgs false
set_option linter.unusedSectionVars false
theorem Ex (a k : Int) {n : Int} (h : -1 ≤ n ∧ n ≤ 1) : -1 ≤ e1 a k n ∧ e1 a k n ≤ 1 := by
 unfold e1
 split <;> omega
theorem jq (p : Int × Int × Int) (a : Int) {n : Int} (h : -1 ≤ n ∧ n ≤ 1) : (p.1 - 1 ≤ (aI p a n).1 ∧ (aI p a n).1 ≤ p.1 + 1) ∧ (p.2.1 - 1 ≤ (aI p a n).2.1 ∧ (aI p a n).2.1 ≤ p.2.1 + 1) ∧ (p.2.2 - 1 ≤ (aI p a n).2.2 ∧ (aI p a n).2.2 ≤ p.2.2 + 1) := by
 have h0 := Ex a 0 h
 have h1 := Ex a 1 h
 have h2 := Ex a 2 h
 unfold aI
 simp only
 omega
theorem P8 {t : X} {p : Int × Int × Int} {a : Int} (h : ∃ n : Int, 0 ≤ n ∧ n < 4 ∧ fz t (fL p a n) = true) :
 yo (yo (yo (yo 0 (if fz t (fL p a 0) = true then 1 else 0)) (if fz t (fL p a 1) = true then 1 else 0)) (if fz t (fL p a 2) = true then 1 else 0)) (if fz t (fL p a 3) = true then 1 else 0) = 1 := by
 obtain ⟨n, h0, h1, h⟩ := h
 have hn : n = 0 ∨ n = 1 ∨ n = 2 ∨ n = 3 := by omega
 generalize hc0 : fz t (fL p a 0) = c0
 generalize hc1 : fz t (fL p a 1) = c1
 generalize hc2 : fz t (fL p a 2) = c2
 generalize hc3 : fz t (fL p a 3) = c3
 rcases hn with rfl | rfl | rfl | rfl
 ·rw [hc0] at h; subst h; cases c1 <;> cases c2 <;> cases c3 <;> rfl
 ·rw [hc1] at h; subst h; cases c0 <;> cases c2 <;> cases c3 <;> rfl
 ·rw [hc2] at h; subst h; cases c0 <;> cases c1 <;> cases c3 <;> rfl
 ·rw [hc3] at h; subst h; cases c0 <;> cases c1 <;> cases c2 <;> rfl
section
variable {t : X} {x y z a : Int} {u : Bool} (ha : 0 ≤ a ∧ a ≤ 2) (hc : fz t (dy (x, y, z, a, u, 1)) = true)
include ha hc
theorem uA {n : Int} {p : Int × Int × Int} {b : Int} (h0 : 0 ≤ n) (h1 : n < 4) (h : fL p b n = dy (x, y, z, a, u, 1)) : ∃ n : Int, 0 ≤ n ∧ n < 4 ∧ fz t (fL p b n) = true := ⟨n, h0, h1, by rw [h]; exact hc⟩
theorem Qc : ∃ n : Int, 0 ≤ n ∧ n < 4 ∧ fz t (fL (aI (x, y, z) (bif (!u) then ((a + 2) % 3) else ((a + 1) % 3)) 0) (bif (!u) then ((a + 2) % 3) else ((a + 1) % 3)) n) = true := by
 have hn : a = 0 ∨ a = 1 ∨ a = 2 := by omega
 refine uA ha hc (n := if u then 1 else 3) (by cases u <;> decide) (by cases u <;> decide) ?_
 rcases hn with rfl | rfl | rfl <;> cases u <;> simp [fL, aI, e1, dy] <;> omega
theorem Qe : ∃ n : Int, 0 ≤ n ∧ n < 4 ∧ fz t (fL (aI (aI (x, y, z) (bif (!u) then ((a + 2) % 3) else ((a + 1) % 3)) 1) (bif (!u) then ((a + 1) % 3) else ((a + 2) % 3)) 0) (bif (!u) then ((a + 1) % 3) else ((a + 2) % 3)) n) = true := by
 have hn : a = 0 ∨ a = 1 ∨ a = 2 := by omega
 refine uA ha hc (n := if u then 0 else 2) (by cases u <;> decide) (by cases u <;> decide) ?_
 rcases hn with rfl | rfl | rfl <;> cases u <;> simp [fL, aI, e1, dy] <;> omega
theorem Qf : ∃ n : Int, 0 ≤ n ∧ n < 4 ∧ fz t (fL (aI (aI (aI (x, y, z) (bif (!u) then ((a + 2) % 3) else ((a + 1) % 3)) 1) (bif (!u) then ((a + 1) % 3) else ((a + 2) % 3)) 1) (bif (!u) then ((a + 2) % 3) else ((a + 1) % 3)) (-1)) (bif (!u) then ((a + 2) % 3) else ((a + 1) % 3)) n) = true := by
 have hn : a = 0 ∨ a = 1 ∨ a = 2 := by omega
 refine uA ha hc (n := if u then 0 else 1) (by cases u <;> decide) (by cases u <;> decide) ?_
 rcases hn with rfl | rfl | rfl <;> cases u <;> simp [fL, aI, e1, dy] <;> omega
theorem Qg : ∃ n : Int, 0 ≤ n ∧ n < 4 ∧ fz t (fL (aI (aI (aI (aI (x, y, z) (bif (!u) then ((a + 2) % 3) else ((a + 1) % 3)) 1) (bif (!u) then ((a + 1) % 3) else ((a + 2) % 3)) 1) (bif (!u) then ((a + 2) % 3) else ((a + 1) % 3)) (-1)) (bif (!u) then ((a + 1) % 3) else ((a + 2) % 3)) (-1)) (bif (!u) then ((a + 1) % 3) else ((a + 2) % 3)) n) = true := by
 have hn : a = 0 ∨ a = 1 ∨ a = 2 := by omega
 refine uA ha hc (n := if u then 2 else 3) (by cases u <;> decide) (by cases u <;> decide) ?_
 rcases hn with rfl | rfl | rfl <;> cases u <;> simp [fL, aI, e1, dy] <;> omega
end
theorem bG {k q p r a : Int} {u : Bool} (h : u = true) : oA k q p r a u = min p r - (if k = a then 1 else if p = r ∧ min p r > q then 1 else 0) := by
 subst h; rfl
theorem cL {k q p r a : Int} {u : Bool} (h : ¬ u = true) : oA k q p r a u = min p r - (if k = a then 0 else if p = r ∧ min p r > q then 1 else 0) := by
 cases u with
 | true => exact absurd rfl h
 | false => rfl
end Vc
end Go.Proofs.YtpmfkelglmgddaaGreatDoor
