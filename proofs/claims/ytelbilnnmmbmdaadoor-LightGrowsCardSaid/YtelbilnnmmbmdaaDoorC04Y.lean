/- Layer 4 in plain terms: the table of functions. -/
import Derived.Test.YtelbilnnmmbmdaaDoorCX
namespace Go.Proofs.YtelbilnnmmbmdaaDoor
namespace Vc
open Go Go.RowKit
set_option linter.unusedVariables false
def Ff : Nat → List X → X
 | 200, [a, b, c, d, e, f] => xB (!decide (neB a.i b.i c.i d.i e.i f.i))
 | 201, [x, y, z, a, b, c, d, e, f] => xB (decide (inB x.i y.i z.i a.i b.i c.i d.i e.i f.i))
 | 205, [a, b, c, d, e, f] => xI (szB a.i b.i c.i d.i e.i f.i a.i d.i)
 | 206, [a, b, c, d, e, f] => xI (szB a.i b.i c.i d.i e.i f.i b.i e.i)
 | 207, [a, b, c, d, e, f] => xI (szB a.i b.i c.i d.i e.i f.i c.i f.i)
 | 210, [a, b, c, d, e, f] => xI (volB a.i b.i c.i d.i e.i f.i)
 | 220, [a, b, c, d, e, f, a', b', c', d', e', f'] => xI (itB a.i b.i c.i d.i e.i f.i a'.i b'.i c'.i d'.i e'.i f'.i (max a.i a'.i))
 | 221, [a, b, c, d, e, f, a', b', c', d', e', f'] => xI (itB a.i b.i c.i d.i e.i f.i a'.i b'.i c'.i d'.i e'.i f'.i (max b.i b'.i))
 | 222, [a, b, c, d, e, f, a', b', c', d', e', f'] => xI (itB a.i b.i c.i d.i e.i f.i a'.i b'.i c'.i d'.i e'.i f'.i (max c.i c'.i))
 | 223, [a, b, c, d, e, f, a', b', c', d', e', f'] => xI (itB a.i b.i c.i d.i e.i f.i a'.i b'.i c'.i d'.i e'.i f'.i (min d.i d'.i))
 | 224, [a, b, c, d, e, f, a', b', c', d', e', f'] => xI (itB a.i b.i c.i d.i e.i f.i a'.i b'.i c'.i d'.i e'.i f'.i (min e.i e'.i))
 | 225, [a, b, c, d, e, f, a', b', c', d', e', f'] => xI (itB a.i b.i c.i d.i e.i f.i a'.i b'.i c'.i d'.i e'.i f'.i (min f.i f'.i))
 | 230, [a, b, c, d, e, f, a', b', c', d', e', f'] => xI (huB a.i b.i c.i d.i e.i f.i a'.i b'.i c'.i d'.i e'.i f'.i a.i a'.i (min a.i a'.i))
 | 231, [a, b, c, d, e, f, a', b', c', d', e', f'] => xI (huB a.i b.i c.i d.i e.i f.i a'.i b'.i c'.i d'.i e'.i f'.i b.i b'.i (min b.i b'.i))
 | 232, [a, b, c, d, e, f, a', b', c', d', e', f'] => xI (huB a.i b.i c.i d.i e.i f.i a'.i b'.i c'.i d'.i e'.i f'.i c.i c'.i (min c.i c'.i))
 | 233, [a, b, c, d, e, f, a', b', c', d', e', f'] => xI (huB a.i b.i c.i d.i e.i f.i a'.i b'.i c'.i d'.i e'.i f'.i d.i d'.i (max d.i d'.i))
 | 234, [a, b, c, d, e, f, a', b', c', d', e', f'] => xI (huB a.i b.i c.i d.i e.i f.i a'.i b'.i c'.i d'.i e'.i f'.i e.i e'.i (max e.i e'.i))
 | 235, [a, b, c, d, e, f, a', b', c', d', e', f'] => xI (huB a.i b.i c.i d.i e.i f.i a'.i b'.i c'.i d'.i e'.i f'.i f.i f'.i (max f.i f'.i))
 | 240, [a, b, c, d, e, f, a', b', c', d', e', f'] => xB (decide (coB a.i b.i c.i d.i e.i f.i a'.i b'.i c'.i d'.i e'.i f'.i))
 | 250, [x, y, z, a, b, c, d, e, f] => xI (nrB x.i y.i z.i a.i b.i c.i d.i e.i f.i)
 | 260, [a, b, c, d, e, f, x, y, z] => xI (idB a.i b.i c.i d.i e.i f.i x.i y.i z.i)
 | 270, [a, b, c, d, e, f, i] => xI (atX a.i b.i c.i d.i e.i f.i i.i)
 | 271, [a, b, c, d, e, f, i] => xI (atY a.i b.i c.i d.i e.i f.i i.i)
 | 272, [a, b, c, d, e, f, i] => xI (atZ a.i b.i c.i d.i e.i f.i i.i)
 | 273, [a, b, c, d, e, f, i] => xB (decide (okB a.i b.i c.i d.i e.i f.i i.i))
 | 280, [a, b, c, d, e, f] => xI (dstB a.i b.i c.i d.i e.i f.i)
 | 290, [s, x, y, z] => xI (tnB s.i 0 x.i y.i z.i)
 | 291, [s, x, y, z] => xI (tnB s.i 1 x.i y.i z.i)
 | 292, [s, x, y, z] => xI (tnB s.i 2 x.i y.i z.i)
 | 293, [s, x, y, z] => xI (tcB s.i 0 x.i y.i z.i)
 | 294, [s, x, y, z] => xI (tcB s.i 1 x.i y.i z.i)
 | 295, [s, x, y, z] => xI (tcB s.i 2 x.i y.i z.i)
 | 300, [s, a, b, c, d, e, f] => xI (tlB s.i 0 a.i b.i c.i d.i e.i f.i)
 | 301, [s, a, b, c, d, e, f] => xI (tlB s.i 1 a.i b.i c.i d.i e.i f.i)
 | 302, [s, a, b, c, d, e, f] => xI (tlB s.i 2 a.i b.i c.i d.i e.i f.i)
 | 303, [s, a, b, c, d, e, f] => xI (thB s.i 0 a.i b.i c.i d.i e.i f.i)
 | 304, [s, a, b, c, d, e, f] => xI (thB s.i 1 a.i b.i c.i d.i e.i f.i)
 | 305, [s, a, b, c, d, e, f] => xI (thB s.i 2 a.i b.i c.i d.i e.i f.i)
 | 310, [a, b] => xI (cmB a.i b.i)
 | 311, [a] => xI (ivB a.i)
 | 312, [a] => xB (mrB a.i)
 | 313, [a] => nmX a.i
 | 320, [x, y, z] => xI (numB x.i y.i z.i)
 | n, l => Fx n l
theorem F200 (a b c d e f : X) : Ff 200 [a, b, c, d, e, f] = xB (!decide (neB a.i b.i c.i d.i e.i f.i)) := rfl
theorem F201 (x y z a b c d e f : X) : Ff 201 [x, y, z, a, b, c, d, e, f] = xB (decide (inB x.i y.i z.i a.i b.i c.i d.i e.i f.i)) := rfl
theorem F205 (a b c d e f : X) : Ff 205 [a, b, c, d, e, f] = xI (szB a.i b.i c.i d.i e.i f.i a.i d.i) := rfl
theorem F206 (a b c d e f : X) : Ff 206 [a, b, c, d, e, f] = xI (szB a.i b.i c.i d.i e.i f.i b.i e.i) := rfl
theorem F207 (a b c d e f : X) : Ff 207 [a, b, c, d, e, f] = xI (szB a.i b.i c.i d.i e.i f.i c.i f.i) := rfl
theorem F210 (a b c d e f : X) : Ff 210 [a, b, c, d, e, f] = xI (volB a.i b.i c.i d.i e.i f.i) := rfl
theorem F220 (a b c d e f a' b' c' d' e' f' : X) : Ff 220 [a, b, c, d, e, f, a', b', c', d', e', f'] = xI (itB a.i b.i c.i d.i e.i f.i a'.i b'.i c'.i d'.i e'.i f'.i (max a.i a'.i)) := rfl
theorem F221 (a b c d e f a' b' c' d' e' f' : X) : Ff 221 [a, b, c, d, e, f, a', b', c', d', e', f'] = xI (itB a.i b.i c.i d.i e.i f.i a'.i b'.i c'.i d'.i e'.i f'.i (max b.i b'.i)) := rfl
theorem F222 (a b c d e f a' b' c' d' e' f' : X) : Ff 222 [a, b, c, d, e, f, a', b', c', d', e', f'] = xI (itB a.i b.i c.i d.i e.i f.i a'.i b'.i c'.i d'.i e'.i f'.i (max c.i c'.i)) := rfl
theorem F223 (a b c d e f a' b' c' d' e' f' : X) : Ff 223 [a, b, c, d, e, f, a', b', c', d', e', f'] = xI (itB a.i b.i c.i d.i e.i f.i a'.i b'.i c'.i d'.i e'.i f'.i (min d.i d'.i)) := rfl
theorem F224 (a b c d e f a' b' c' d' e' f' : X) : Ff 224 [a, b, c, d, e, f, a', b', c', d', e', f'] = xI (itB a.i b.i c.i d.i e.i f.i a'.i b'.i c'.i d'.i e'.i f'.i (min e.i e'.i)) := rfl
theorem F225 (a b c d e f a' b' c' d' e' f' : X) : Ff 225 [a, b, c, d, e, f, a', b', c', d', e', f'] = xI (itB a.i b.i c.i d.i e.i f.i a'.i b'.i c'.i d'.i e'.i f'.i (min f.i f'.i)) := rfl
theorem F230 (a b c d e f a' b' c' d' e' f' : X) : Ff 230 [a, b, c, d, e, f, a', b', c', d', e', f'] = xI (huB a.i b.i c.i d.i e.i f.i a'.i b'.i c'.i d'.i e'.i f'.i a.i a'.i (min a.i a'.i)) := rfl
theorem F231 (a b c d e f a' b' c' d' e' f' : X) : Ff 231 [a, b, c, d, e, f, a', b', c', d', e', f'] = xI (huB a.i b.i c.i d.i e.i f.i a'.i b'.i c'.i d'.i e'.i f'.i b.i b'.i (min b.i b'.i)) := rfl
theorem F232 (a b c d e f a' b' c' d' e' f' : X) : Ff 232 [a, b, c, d, e, f, a', b', c', d', e', f'] = xI (huB a.i b.i c.i d.i e.i f.i a'.i b'.i c'.i d'.i e'.i f'.i c.i c'.i (min c.i c'.i)) := rfl
theorem F233 (a b c d e f a' b' c' d' e' f' : X) : Ff 233 [a, b, c, d, e, f, a', b', c', d', e', f'] = xI (huB a.i b.i c.i d.i e.i f.i a'.i b'.i c'.i d'.i e'.i f'.i d.i d'.i (max d.i d'.i)) := rfl
theorem F234 (a b c d e f a' b' c' d' e' f' : X) : Ff 234 [a, b, c, d, e, f, a', b', c', d', e', f'] = xI (huB a.i b.i c.i d.i e.i f.i a'.i b'.i c'.i d'.i e'.i f'.i e.i e'.i (max e.i e'.i)) := rfl
theorem F235 (a b c d e f a' b' c' d' e' f' : X) : Ff 235 [a, b, c, d, e, f, a', b', c', d', e', f'] = xI (huB a.i b.i c.i d.i e.i f.i a'.i b'.i c'.i d'.i e'.i f'.i f.i f'.i (max f.i f'.i)) := rfl
theorem F240 (a b c d e f a' b' c' d' e' f' : X) : Ff 240 [a, b, c, d, e, f, a', b', c', d', e', f'] = xB (decide (coB a.i b.i c.i d.i e.i f.i a'.i b'.i c'.i d'.i e'.i f'.i)) := rfl
theorem F250 (x y z a b c d e f : X) : Ff 250 [x, y, z, a, b, c, d, e, f] = xI (nrB x.i y.i z.i a.i b.i c.i d.i e.i f.i) := rfl
theorem F260 (a b c d e f x y z : X) : Ff 260 [a, b, c, d, e, f, x, y, z] = xI (idB a.i b.i c.i d.i e.i f.i x.i y.i z.i) := rfl
theorem F270 (a b c d e f i : X) : Ff 270 [a, b, c, d, e, f, i] = xI (atX a.i b.i c.i d.i e.i f.i i.i) := rfl
theorem F271 (a b c d e f i : X) : Ff 271 [a, b, c, d, e, f, i] = xI (atY a.i b.i c.i d.i e.i f.i i.i) := rfl
theorem F272 (a b c d e f i : X) : Ff 272 [a, b, c, d, e, f, i] = xI (atZ a.i b.i c.i d.i e.i f.i i.i) := rfl
theorem F273 (a b c d e f i : X) : Ff 273 [a, b, c, d, e, f, i] = xB (decide (okB a.i b.i c.i d.i e.i f.i i.i)) := rfl
theorem F280 (a b c d e f : X) : Ff 280 [a, b, c, d, e, f] = xI (dstB a.i b.i c.i d.i e.i f.i) := rfl
theorem F290 (s x y z : X) : Ff 290 [s, x, y, z] = xI (tnB s.i 0 x.i y.i z.i) := rfl
theorem F291 (s x y z : X) : Ff 291 [s, x, y, z] = xI (tnB s.i 1 x.i y.i z.i) := rfl
theorem F292 (s x y z : X) : Ff 292 [s, x, y, z] = xI (tnB s.i 2 x.i y.i z.i) := rfl
theorem F293 (s x y z : X) : Ff 293 [s, x, y, z] = xI (tcB s.i 0 x.i y.i z.i) := rfl
theorem F294 (s x y z : X) : Ff 294 [s, x, y, z] = xI (tcB s.i 1 x.i y.i z.i) := rfl
theorem F295 (s x y z : X) : Ff 295 [s, x, y, z] = xI (tcB s.i 2 x.i y.i z.i) := rfl
theorem F300 (s a b c d e f : X) : Ff 300 [s, a, b, c, d, e, f] = xI (tlB s.i 0 a.i b.i c.i d.i e.i f.i) := rfl
theorem F301 (s a b c d e f : X) : Ff 301 [s, a, b, c, d, e, f] = xI (tlB s.i 1 a.i b.i c.i d.i e.i f.i) := rfl
theorem F302 (s a b c d e f : X) : Ff 302 [s, a, b, c, d, e, f] = xI (tlB s.i 2 a.i b.i c.i d.i e.i f.i) := rfl
theorem F303 (s a b c d e f : X) : Ff 303 [s, a, b, c, d, e, f] = xI (thB s.i 0 a.i b.i c.i d.i e.i f.i) := rfl
theorem F304 (s a b c d e f : X) : Ff 304 [s, a, b, c, d, e, f] = xI (thB s.i 1 a.i b.i c.i d.i e.i f.i) := rfl
theorem F305 (s a b c d e f : X) : Ff 305 [s, a, b, c, d, e, f] = xI (thB s.i 2 a.i b.i c.i d.i e.i f.i) := rfl
theorem F310 (a b : X) : Ff 310 [a, b] = xI (cmB a.i b.i) := rfl
theorem F311 (a : X) : Ff 311 [a] = xI (ivB a.i) := rfl
theorem F312 (a : X) : Ff 312 [a] = xB (mrB a.i) := rfl
theorem F320 (x y z : X) : Ff 320 [x, y, z] = xI (numB x.i y.i z.i) := rfl
theorem F313 (a : X) : Ff 313 [a] = nmX a.i := rfl
theorem vol_szB (a b c d e f : Int) : szB a b c d e f a d * szB a b c d e f b e * szB a b c d e f c f = volB a b c d e f := by
 unfold szB volB
 by_cases h : neB a b c d e f
 ·simp only [if_pos h]
 ·simp only [if_neg h, Int.zero_mul]
theorem mul3_rng {x y z m : Int} (hm : 0 ≤ m) (hx : 0 ≤ x ∧ x ≤ m) (hy : 0 ≤ y ∧ y ≤ m) (hz : 0 ≤ z ∧ z ≤ m) : 0 ≤ x * y * z ∧ x * y * z ≤ m * m * m := by
 have h1 : 0 ≤ x * y := Int.mul_nonneg hx.1 hy.1
 have h2 : x * y ≤ m * m := Int.mul_le_mul hx.2 hy.2 hy.1 hm
 exact ⟨Int.mul_nonneg h1 hz.1, Int.mul_le_mul h2 hz.2 hz.1 (Int.mul_nonneg hm hm)⟩
theorem vol_rng {a b c d e f : Int} (ha : -1048575 ≤ a ∧ a ≤ 1048575) (hb : -1048575 ≤ b ∧ b ≤ 1048575) (hc : -1048575 ≤ c ∧ c ≤ 1048575) (hd : -1048575 ≤ d ∧ d ≤ 1048575) (he : -1048575 ≤ e ∧ e ≤ 1048575) (hf : -1048575 ≤ f ∧ f ≤ 1048575) :
 0 ≤ volB a b c d e f ∧ volB a b c d e f ≤ 9223345648600875000 := by
 unfold volB
 by_cases h : neB a b c d e f
 ·simp only [if_pos h]
  unfold neB at h
  have := mul3_rng (x := d - a) (y := e - b) (z := f - c) (m := 2097150) (by omega) (by omega) (by omega) (by omega)
  omega
 ·simp only [if_neg h]; omega
theorem mul_lt3 {a b c A B C : Int} (ha : 0 < a ∧ a ≤ A) (hb : 0 < b ∧ b ≤ B) (hc : 0 < c ∧ c ≤ C) (h : a < A ∨ b < B ∨ c < C) : a * b * c < A * B * C := by
 have p1 : a * b ≤ A * B := Int.mul_le_mul ha.2 hb.2 (by omega) (by omega)
 have p0 : 0 < a * b := Int.mul_pos ha.1 hb.1
 have P0 : 0 < A * B := Int.mul_pos (by omega) (by omega)
 rcases h with h | h | h
 ·have : a * b < A * B := Int.lt_of_lt_of_le (Int.mul_lt_mul_of_pos_right h hb.1) (Int.mul_le_mul_of_nonneg_left hb.2 (by omega))
  exact Int.lt_of_lt_of_le (Int.mul_lt_mul_of_pos_right this hc.1) (Int.mul_le_mul_of_nonneg_left hc.2 (by omega))
 ·have : a * b < A * B := Int.lt_of_lt_of_le (Int.mul_lt_mul_of_pos_left h ha.1) (Int.mul_le_mul_of_nonneg_right ha.2 (by omega))
  exact Int.lt_of_lt_of_le (Int.mul_lt_mul_of_pos_right this hc.1) (Int.mul_le_mul_of_nonneg_left hc.2 (by omega))
 ·exact Int.lt_of_lt_of_le (Int.mul_lt_mul_of_pos_left h p0) (Int.mul_le_mul_of_nonneg_right p1 (by omega))
theorem vol_ne {a b c d e f : Int} (h : neB a b c d e f) : volB a b c d e f = (d - a) * (e - b) * (f - c) := by unfold volB; exact if_pos h
theorem vol_contains (a b c d e f a' b' c' d' e' f' : Int) :
 (volB (itB a b c d e f a' b' c' d' e' f' (max a a')) (itB a b c d e f a' b' c' d' e' f' (max b b')) (itB a b c d e f a' b' c' d' e' f' (max c c')) (itB a b c d e f a' b' c' d' e' f' (min d d')) (itB a b c d e f a' b' c' d' e' f' (min e e')) (itB a b c d e f a' b' c' d' e' f' (min f f')) = volB a' b' c' d' e' f') ↔ coB a b c d e f a' b' c' d' e' f' := by
 unfold coB itB
 by_cases r : neB (max a a') (max b b') (max c c') (min d d') (min e e') (min f f')
 ·simp only [if_pos r]
  have q : neB a' b' c' d' e' f' := by unfold neB at r ⊢; omega
  have v1 := vol_ne r
  have v2 := vol_ne q
  rw [v1, v2]
  unfold neB at r q
  constructor
  ·intro h _
   by_cases hc : a ≤ a' ∧ b ≤ b' ∧ c ≤ c' ∧ d' ≤ d ∧ e' ≤ e ∧ f' ≤ f
   ·exact hc
   ·exfalso
    have := mul_lt3 (a := min d d' - max a a') (b := min e e' - max b b') (c := min f f' - max c c') (A := d' - a') (B := e' - b') (C := f' - c') (by omega) (by omega) (by omega) (by omega)
    exact absurd h (Int.ne_of_lt this)
  ·intro h
   have h := h q
   have e1 : max a a' = a' := by omega
   have e2 : max b b' = b' := by omega
   have e3 : max c c' = c' := by omega
   have e4 : min d d' = d' := by omega
   have e5 : min e e' = e' := by omega
   have e6 : min f f' = f' := by omega
   rw [e1, e2, e3, e4, e5, e6]
 ·simp only [if_neg r]
  have z : volB 0 0 0 0 0 0 = 0 := by unfold volB neB; simp
  rw [z]
  by_cases q : neB a' b' c' d' e' f'
  ·rw [vol_ne q]
   unfold neB at r q
   have := Int.mul_pos (Int.mul_pos (show 0 < d' - a' by omega) (show 0 < e' - b' by omega)) (show 0 < f' - c' by omega)
   constructor
   ·intro h; exact absurd h (Int.ne_of_lt this)
   ·intro h; have h := h q; omega
  ·have v : volB a' b' c' d' e' f' = 0 := by unfold volB; exact if_neg q
   rw [v]
   exact ⟨fun _ t => absurd t q, fun _ => rfl⟩
theorem inB_ne {x y z a b c d e f : Int} (h : inB x y z a b c d e f) : neB a b c d e f := by unfold inB at h; unfold neB; omega
theorem flat_lt {x y z X Y Z : Int} (hx : 0 ≤ x ∧ x < X) (hy : 0 ≤ y ∧ y < Y) (hz : 0 ≤ z ∧ z < Z) : 0 ≤ (z * Y + y) * X + x ∧ (z * Y + y) * X + x < X * Y * Z := by
 have h1 : 0 ≤ z * Y := Int.mul_nonneg hz.1 (by omega)
 have h2 : 0 ≤ (z * Y + y) * X := Int.mul_nonneg (by omega) (by omega)
 have h3 : z * Y ≤ (Z - 1) * Y := Int.mul_le_mul_of_nonneg_right (by omega) (by omega)
 have h4 : z * Y + y + 1 ≤ Z * Y := by rw [Int.sub_mul] at h3; omega
 have h5 : (z * Y + y + 1) * X ≤ Z * Y * X := Int.mul_le_mul_of_nonneg_right h4 (by omega)
 have h6 : Z * Y * X = X * Y * Z := by rw [Int.mul_comm (Z * Y) X, Int.mul_comm Z Y, Int.mul_assoc]
 rw [Int.add_mul] at h5
 omega
theorem idB_rng {a b c d e f x y z : Int} (ha : -1048575 ≤ a ∧ a ≤ 1048575) (hb : -1048575 ≤ b ∧ b ≤ 1048575) (hc : -1048575 ≤ c ∧ c ≤ 1048575) (hd : -1048575 ≤ d ∧ d ≤ 1048575) (he : -1048575 ≤ e ∧ e ≤ 1048575) (hf : -1048575 ≤ f ∧ f ≤ 1048575) (h : inB x y z a b c d e f) :
 0 ≤ idB a b c d e f x y z ∧ idB a b c d e f x y z < volB a b c d e f ∧ idB a b c d e f x y z ≤ 9223345648600874999 := by
 have ne := inB_ne h
 have hv := vol_rng ha hb hc hd he hf
 have := flat_lt (x := x - a) (y := y - b) (z := z - c) (X := d - a) (Y := e - b) (Z := f - c) (by unfold inB at h; omega) (by unfold inB at h; omega) (by unfold inB at h; omega)
 unfold volB at hv ⊢
 unfold idB
 simp only [if_pos h, if_pos ne] at hv ⊢
 omega
theorem okB_ne {a b c d e f i : Int} (h : okB a b c d e f i) : neB a b c d e f := by
 unfold okB volB at h
 by_cases q : neB a b c d e f
 ·exact q
 ·simp only [if_neg q] at h; omega
theorem at_rng {a b c d e f i : Int} (ha : -1048575 ≤ a ∧ a ≤ 1048575) (hb : -1048575 ≤ b ∧ b ≤ 1048575) (hc : -1048575 ≤ c ∧ c ≤ 1048575) (hd : -1048575 ≤ d ∧ d ≤ 1048575) (he : -1048575 ≤ e ∧ e ≤ 1048575) (hf : -1048575 ≤ f ∧ f ≤ 1048575) (h : okB a b c d e f i) :
 inB (a + i % (d - a)) (b + i / (d - a) % (e - b)) (c + i / (d - a) / (e - b)) a b c d e f := by
 have ne := okB_ne h
 unfold okB volB at h
 simp only [if_pos ne] at h
 unfold neB at ne
 have X0 : 0 < d - a := by omega
 have Y0 : 0 < e - b := by omega
 have m1 := Int.emod_nonneg i (show d - a ≠ 0 by omega)
 have m2 := Int.emod_lt_of_pos i X0
 have m3 := Int.emod_nonneg (i / (d - a)) (show e - b ≠ 0 by omega)
 have m4 := Int.emod_lt_of_pos (i / (d - a)) Y0
 have q1 : 0 ≤ i / (d - a) := Int.ediv_nonneg h.1 (by omega)
 have q2 : 0 ≤ i / (d - a) / (e - b) := Int.ediv_nonneg q1 (by omega)
 have q3 : i / (d - a) / (e - b) < f - c := by
  rw [Int.ediv_ediv_of_nonneg (by omega)]
  exact Int.ediv_lt_of_lt_mul (Int.mul_pos X0 Y0) (by rw [Int.mul_comm]; exact h.2)
 unfold inB
 omega
end Vc
end Go.Proofs.YtelbilnnmmbmdaaDoor
