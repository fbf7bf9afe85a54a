/- Layer 4 in plain terms: the numbers of a box's cells. -/
import Derived.Test.YtelbilnnmmbmdaaDoorC04E
namespace Go.Proofs.YtelbilnnmmbmdaaDoor
namespace Vc
open Go Go.RowKit
set_option linter.unusedVariables false
theorem beq_dec {p q : Prop} {i : Decidable p} {j : Decidable q} (h : p ↔ q) : (@decide p i == @decide q j) = true := by rw [beq_iff_eq, decide_eq_decide]; exact h
theorem beq_dec2 {p q r : Prop} {i : Decidable p} {j : Decidable q} {k : Decidable r} (h : p ↔ q ∧ r) : (@decide p i == (@decide q j && @decide r k)) = true := by rw [beq_iff_eq, ← Bool.decide_and, decide_eq_decide]; exact h
theorem dec_t {p : Prop} {i : Decidable p} (h : p) : @decide p i = true := decide_eq_true h
theorem t_dec {p : Prop} {i : Decidable p} (h : @decide p i = true) : p := of_decide_eq_true h
theorem G200 (a b c d e f : Int) : Ff 200 [xI a, xI b, xI c, xI d, xI e, xI f] = xB (!decide (neB a b c d e f)) := rfl
theorem G201 (x y z a b c d e f : Int) : Ff 201 [xI x, xI y, xI z, xI a, xI b, xI c, xI d, xI e, xI f] = xB (decide (inB x y z a b c d e f)) := rfl
theorem G205 (a b c d e f : Int) : Ff 205 [xI a, xI b, xI c, xI d, xI e, xI f] = xI (szB a b c d e f a d) := rfl
theorem G206 (a b c d e f : Int) : Ff 206 [xI a, xI b, xI c, xI d, xI e, xI f] = xI (szB a b c d e f b e) := rfl
theorem G207 (a b c d e f : Int) : Ff 207 [xI a, xI b, xI c, xI d, xI e, xI f] = xI (szB a b c d e f c f) := rfl
theorem G210 (a b c d e f : Int) : Ff 210 [xI a, xI b, xI c, xI d, xI e, xI f] = xI (volB a b c d e f) := rfl
theorem G220 (a b c d e f a' b' c' d' e' f' : Int) : Ff 220 [xI a, xI b, xI c, xI d, xI e, xI f, xI a', xI b', xI c', xI d', xI e', xI f'] = xI (itB a b c d e f a' b' c' d' e' f' (max a a')) := rfl
theorem G221 (a b c d e f a' b' c' d' e' f' : Int) : Ff 221 [xI a, xI b, xI c, xI d, xI e, xI f, xI a', xI b', xI c', xI d', xI e', xI f'] = xI (itB a b c d e f a' b' c' d' e' f' (max b b')) := rfl
theorem G222 (a b c d e f a' b' c' d' e' f' : Int) : Ff 222 [xI a, xI b, xI c, xI d, xI e, xI f, xI a', xI b', xI c', xI d', xI e', xI f'] = xI (itB a b c d e f a' b' c' d' e' f' (max c c')) := rfl
theorem G223 (a b c d e f a' b' c' d' e' f' : Int) : Ff 223 [xI a, xI b, xI c, xI d, xI e, xI f, xI a', xI b', xI c', xI d', xI e', xI f'] = xI (itB a b c d e f a' b' c' d' e' f' (min d d')) := rfl
theorem G224 (a b c d e f a' b' c' d' e' f' : Int) : Ff 224 [xI a, xI b, xI c, xI d, xI e, xI f, xI a', xI b', xI c', xI d', xI e', xI f'] = xI (itB a b c d e f a' b' c' d' e' f' (min e e')) := rfl
theorem G225 (a b c d e f a' b' c' d' e' f' : Int) : Ff 225 [xI a, xI b, xI c, xI d, xI e, xI f, xI a', xI b', xI c', xI d', xI e', xI f'] = xI (itB a b c d e f a' b' c' d' e' f' (min f f')) := rfl
theorem G230 (a b c d e f a' b' c' d' e' f' : Int) : Ff 230 [xI a, xI b, xI c, xI d, xI e, xI f, xI a', xI b', xI c', xI d', xI e', xI f'] = xI (huB a b c d e f a' b' c' d' e' f' a a' (min a a')) := rfl
theorem G231 (a b c d e f a' b' c' d' e' f' : Int) : Ff 231 [xI a, xI b, xI c, xI d, xI e, xI f, xI a', xI b', xI c', xI d', xI e', xI f'] = xI (huB a b c d e f a' b' c' d' e' f' b b' (min b b')) := rfl
theorem G232 (a b c d e f a' b' c' d' e' f' : Int) : Ff 232 [xI a, xI b, xI c, xI d, xI e, xI f, xI a', xI b', xI c', xI d', xI e', xI f'] = xI (huB a b c d e f a' b' c' d' e' f' c c' (min c c')) := rfl
theorem G233 (a b c d e f a' b' c' d' e' f' : Int) : Ff 233 [xI a, xI b, xI c, xI d, xI e, xI f, xI a', xI b', xI c', xI d', xI e', xI f'] = xI (huB a b c d e f a' b' c' d' e' f' d d' (max d d')) := rfl
theorem G234 (a b c d e f a' b' c' d' e' f' : Int) : Ff 234 [xI a, xI b, xI c, xI d, xI e, xI f, xI a', xI b', xI c', xI d', xI e', xI f'] = xI (huB a b c d e f a' b' c' d' e' f' e e' (max e e')) := rfl
theorem G235 (a b c d e f a' b' c' d' e' f' : Int) : Ff 235 [xI a, xI b, xI c, xI d, xI e, xI f, xI a', xI b', xI c', xI d', xI e', xI f'] = xI (huB a b c d e f a' b' c' d' e' f' f f' (max f f')) := rfl
theorem G240 (a b c d e f a' b' c' d' e' f' : Int) : Ff 240 [xI a, xI b, xI c, xI d, xI e, xI f, xI a', xI b', xI c', xI d', xI e', xI f'] = xB (decide (coB a b c d e f a' b' c' d' e' f')) := rfl
theorem G250 (x y z a b c d e f : Int) : Ff 250 [xI x, xI y, xI z, xI a, xI b, xI c, xI d, xI e, xI f] = xI (nrB x y z a b c d e f) := rfl
theorem G260 (a b c d e f x y z : Int) : Ff 260 [xI a, xI b, xI c, xI d, xI e, xI f, xI x, xI y, xI z] = xI (idB a b c d e f x y z) := rfl
theorem G270 (a b c d e f i : Int) : Ff 270 [xI a, xI b, xI c, xI d, xI e, xI f, xI i] = xI (atX a b c d e f i) := rfl
theorem G271 (a b c d e f i : Int) : Ff 271 [xI a, xI b, xI c, xI d, xI e, xI f, xI i] = xI (atY a b c d e f i) := rfl
theorem G272 (a b c d e f i : Int) : Ff 272 [xI a, xI b, xI c, xI d, xI e, xI f, xI i] = xI (atZ a b c d e f i) := rfl
theorem G273 (a b c d e f i : Int) : Ff 273 [xI a, xI b, xI c, xI d, xI e, xI f, xI i] = xB (decide (okB a b c d e f i)) := rfl
theorem G280 (a b c d e f : Int) : Ff 280 [xI a, xI b, xI c, xI d, xI e, xI f] = xI (dstB a b c d e f) := rfl
theorem dm {X q r : Int} (h : 0 ≤ r ∧ r < X) : (q * X + r) / X = q ∧ (q * X + r) % X = r :=
 (Int.ediv_emod_unique (by omega)).2 ⟨by rw [Int.mul_comm X q]; omega, h.1, h.2⟩
theorem id_in {a b c d e f x y z : Int} (h : inB x y z a b c d e f) : idB a b c d e f x y z = ((z - c) * (e - b) + (y - b)) * (d - a) + (x - a) := by unfold idB; exact if_pos h
theorem id_out {a b c d e f x y z : Int} (h : ¬ inB x y z a b c d e f) : idB a b c d e f x y z = -1 := by unfold idB; exact if_neg h
theorem id_lt {a b c d e f x y z : Int} (h : inB x y z a b c d e f) : okB a b c d e f (idB a b c d e f x y z) := by
 have ne := inB_ne h
 have := flat_lt (x := x - a) (y := y - b) (z := z - c) (X := d - a) (Y := e - b) (Z := f - c) (by unfold inB at h; omega) (by unfold inB at h; omega) (by unfold inB at h; omega)
 unfold okB
 rw [id_in h, vol_ne ne]
 exact this
theorem id_iff (a b c d e f x y z : Int) : 0 ≤ idB a b c d e f x y z ↔ inB x y z a b c d e f := by
 by_cases h : inB x y z a b c d e f
 ·exact ⟨fun _ => h, fun _ => (id_lt h).1⟩
 ·rw [id_out h]; exact ⟨fun k => by omega, fun k => absurd k h⟩
theorem at_ok {a b c d e f i : Int} (h : okB a b c d e f i) : atX a b c d e f i = a + i % (d - a) ∧ atY a b c d e f i = b + i / (d - a) % (e - b) ∧ atZ a b c d e f i = c + i / (d - a) / (e - b) := by
 unfold atX atY atZ
 simp only [if_pos h, and_self]
theorem at_id {a b c d e f x y z : Int} (h : inB x y z a b c d e f) : atX a b c d e f (idB a b c d e f x y z) = x ∧ atY a b c d e f (idB a b c d e f x y z) = y ∧ atZ a b c d e f (idB a b c d e f x y z) = z := by
 have k := at_ok (id_lt h)
 rw [k.1, k.2.1, k.2.2, id_in h]
 unfold inB at h
 have d1 := dm (X := d - a) (q := (z - c) * (e - b) + (y - b)) (r := x - a) (by omega)
 have d2 := dm (X := e - b) (q := z - c) (r := y - b) (by omega)
 rw [d1.1, d1.2, d2.1, d2.2]
 omega
theorem at_in {a b c d e f i : Int} (h : okB a b c d e f i) : inB (atX a b c d e f i) (atY a b c d e f i) (atZ a b c d e f i) a b c d e f := by
 have k := at_ok h
 have ne := okB_ne h
 rw [k.1, k.2.1, k.2.2]
 unfold okB at h
 rw [vol_ne ne] at h
 unfold neB at ne
 have X0 : 0 < d - a := by omega
 have Y0 : 0 < e - b := by omega
 have m1 := Int.emod_nonneg i (show d - a ≠ 0 by omega)
 have m2 := Int.emod_lt_of_pos i X0
 have m3 := Int.emod_nonneg (i / (d - a)) (show e - b ≠ 0 by omega)
 have m4 := Int.emod_lt_of_pos (i / (d - a)) Y0
 have q1 : 0 ≤ i / (d - a) := Int.ediv_nonneg h.1 (by omega)
 have q2 : 0 ≤ i / (d - a) / (e - b) := Int.ediv_nonneg q1 (by omega)
 have q3 : i / (d - a) / (e - b) < f - c := by
  rw [Int.ediv_ediv_of_nonneg (by omega)]
  exact Int.ediv_lt_of_lt_mul (Int.mul_pos X0 Y0) (by rw [Int.mul_comm]; exact h.2)
 unfold inB
 omega
theorem id_at {a b c d e f i : Int} (h : okB a b c d e f i) : idB a b c d e f (atX a b c d e f i) (atY a b c d e f i) (atZ a b c d e f i) = i := by
 rw [id_in (at_in h)]
 have k := at_ok h
 rw [k.1, k.2.1, k.2.2]
 have e1 := Int.mul_ediv_add_emod i (d - a)
 have e2 := Int.mul_ediv_add_emod (i / (d - a)) (e - b)
 have s1 : c + i / (d - a) / (e - b) - c = i / (d - a) / (e - b) := by omega
 have s2 : b + i / (d - a) % (e - b) - b = i / (d - a) % (e - b) := by omega
 have s3 : a + i % (d - a) - a = i % (d - a) := by omega
 rw [s1, s2, s3, Int.mul_comm (i / (d - a) / (e - b)), e2, Int.mul_comm (i / (d - a))]
 exact e1
theorem next_at {a b c d e f i x y z : Int} (h : inB x y z a b c d e f) (n : idB a b c d e f x y z = i + 1) : okB a b c d e f (i + 1) ∧ atX a b c d e f (i + 1) = x ∧ atY a b c d e f (i + 1) = y ∧ atZ a b c d e f (i + 1) = z := by
 rw [← n]; exact ⟨id_lt h, at_id h⟩
theorem stepA {a b c d e f i : Int} (h : okB a b c d e f i) (nx : ¬ atX a b c d e f i + 1 = d) :
 okB a b c d e f (i + 1) ∧ atX a b c d e f (i + 1) = atX a b c d e f i + 1 ∧ atY a b c d e f (i + 1) = atY a b c d e f i ∧ atZ a b c d e f (i + 1) = atZ a b c d e f i := by
 have p := id_at h
 have q := at_in h
 generalize atX a b c d e f i = x at *
 generalize atY a b c d e f i = y at *
 generalize atZ a b c d e f i = z at *
 have q' : inB (x + 1) y z a b c d e f := by unfold inB at q ⊢; omega
 refine next_at q' ?_
 rw [id_in q'] ; rw [id_in q] at p
 omega
theorem stepB {a b c d e f i : Int} (h : okB a b c d e f i) (nx : atX a b c d e f i + 1 = d) (ny : ¬ atY a b c d e f i + 1 = e) :
 okB a b c d e f (i + 1) ∧ atX a b c d e f (i + 1) = a ∧ atY a b c d e f (i + 1) = atY a b c d e f i + 1 ∧ atZ a b c d e f (i + 1) = atZ a b c d e f i := by
 have p := id_at h
 have q := at_in h
 generalize atX a b c d e f i = x at *
 generalize atY a b c d e f i = y at *
 generalize atZ a b c d e f i = z at *
 have q' : inB a (y + 1) z a b c d e f := by unfold inB at q ⊢; omega
 refine next_at q' ?_
 rw [id_in q'] ; rw [id_in q] at p
 have : (z - c) * (e - b) + (y + 1 - b) = (z - c) * (e - b) + (y - b) + 1 := by omega
 rw [this, Int.add_mul _ 1]
 omega
theorem stepC {a b c d e f i : Int} (h : okB a b c d e f i) (nx : atX a b c d e f i + 1 = d) (ny : atY a b c d e f i + 1 = e) :
 (okB a b c d e f (i + 1) ↔ atZ a b c d e f i + 1 < f) ∧ (okB a b c d e f (i + 1) → atX a b c d e f (i + 1) = a ∧ atY a b c d e f (i + 1) = b ∧ atZ a b c d e f (i + 1) = atZ a b c d e f i + 1) := by
 have p := id_at h
 have q := at_in h
 have ne := okB_ne h
 have v := vol_ne ne
 generalize atX a b c d e f i = x at *
 generalize atY a b c d e f i = y at *
 generalize atZ a b c d e f i = z at *
 rw [id_in q] at p
 have t : i + 1 = ((z + 1 - c) * (e - b)) * (d - a) := by
  have e1 : x - a = d - a - 1 := by omega
  have e2 : (z + 1 - c) * (e - b) = (z - c) * (e - b) + (y - b) + 1 := by
   have : z + 1 - c = z - c + 1 := by omega
   rw [this, Int.add_mul]; omega
  rw [e2, Int.add_mul _ 1, ← p]; omega
 by_cases m : z + 1 < f
 ·have q' : inB a b (z + 1) a b c d e f := by unfold inB at q ⊢; unfold neB at ne; omega
  have w := next_at (i := i) q' (by rw [id_in q', t]; have : (z + 1 - c) * (e - b) + (b - b) = (z + 1 - c) * (e - b) := by omega
                                    rw [this]; omega)
  exact ⟨⟨fun _ => m, fun _ => w.1⟩, fun _ => w.2⟩
 ·have no : ¬ okB a b c d e f (i + 1) := by
   unfold okB
   rw [v, t]
   have : z + 1 - c = f - c := by unfold inB at q; omega
   rw [this, Int.mul_comm ((f - c) * (e - b)) (d - a), Int.mul_comm (f - c) (e - b), ← Int.mul_assoc]
   omega
  exact ⟨⟨fun k => absurd k no, fun k => absurd k m⟩, fun k => absurd k no⟩
end Vc
end Go.Proofs.YtelbilnnmmbmdaaDoor
