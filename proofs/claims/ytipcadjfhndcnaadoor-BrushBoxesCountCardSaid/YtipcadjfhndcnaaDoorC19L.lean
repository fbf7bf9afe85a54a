/- Layer 19, plain: the cells of a box, one after the other. -/
import Derived.Test.YtipcadjfhndcnaaDoorC04I
namespace Go.Proofs.YtipcadjfhndcnaaDoor
namespace Vc
open Go Go.RowKit
set_option linter.unusedVariables false

/-- A box that is empty or lies as it should. -/
def Bx.ord (p : Bx) : Prop := p.a ≤ p.d ∧ p.b ≤ p.e ∧ p.c ≤ p.f
section
variable {has : Int × Int × Int → Bool} {p q : Bx} {o : X} {R : Int → Int → Y} {x y z k : Int}
theorem Bx.vol_ord (h : p.ord) : p.vol = (p.d - p.a) * (p.e - p.b) * (p.f - p.c) := by
  unfold Bx.vol volB
  split
  · rfl
  · rename_i hn
    obtain ⟨h1, h2, h3⟩ := h
    unfold neB at hn
    have : p.d - p.a = 0 ∨ p.e - p.b = 0 ∨ p.f - p.c = 0 := by omega
    rcases this with h | h | h <;> rw [h] <;> simp
theorem inter_ord : (p.inter q).ord := by
  unfold Bx.ord Bx.inter itB
  simp only
  by_cases h : neB (max p.a q.a) (max p.b q.b) (max p.c q.c) (min p.d q.d) (min p.e q.e) (min p.f q.f)
  · simp only [if_pos h]
    unfold neB at h
    omega
  · simp only [if_neg h]
    omega
theorem Bx.vol_nn (p : Bx) : 0 ≤ p.vol := by
  unfold Bx.vol volB
  split
  · rename_i h
    unfold neB at h
    exact Int.mul_nonneg (Int.mul_nonneg (by omega) (by omega)) (by omega)
  · omega
theorem cellsB_len (p : Bx) : (cellsB p).length = p.vol.toNat := by simp [cellsB]
theorem take_cell (h0 : 0 ≤ k) (h1 : k < p.vol) : (cellsB p).take (k + 1).toNat = (cellsB p).take k.toNat ++ [p.at k] := by
  have e : (k + 1).toNat = k.toNat + 1 := by omega
  have hk : k.toNat < p.vol.toNat := by omega
  unfold cellsB
  rw [e, ← List.map_take, ← List.map_take, List.take_range, List.take_range, Nat.min_eq_left (by omega), Nat.min_eq_left (by omega), List.range_succ, List.map_append]
  simp only [List.map_cons, List.map_nil, Int.toNat_of_nonneg h0]
theorem cell_at (hz : p.c ≤ z ∧ z < p.f) (hy : p.b ≤ y ∧ y < p.e) (hx : p.a ≤ x ∧ x < p.d) : 0 ≤ ((z - p.c) * (p.e - p.b) + (y - p.b)) * (p.d - p.a) + (x - p.a) ∧ ((z - p.c) * (p.e - p.b) + (y - p.b)) * (p.d - p.a) + (x - p.a) < p.vol ∧ p.at (((z - p.c) * (p.e - p.b) + (y - p.b)) * (p.d - p.a) + (x - p.a)) = (x, y, z) := by
  have hin : inB x y z p.a p.b p.c p.d p.e p.f := by unfold inB; omega
  have h1 := id_lt hin
  have h2 := at_id hin
  rw [id_in hin] at h1 h2
  unfold okB at h1
  refine ⟨h1.1, h1.2, ?_⟩
  unfold Bx.at
  rw [h2.1, h2.2.1, h2.2.2]
theorem Lst.start : Lst has p 0 (mkX R 0) := ⟨Int.le_refl _, by show (0 : Int) ≤ 32768; omega, rfl⟩
theorem Lst.take1 (h0 : 0 ≤ k) (h1 : k < p.vol) (hc : p.at k = (x, y, z)) : ((cellsB p).take (k + 1).toNat).filter has = ((cellsB p).take k.toNat).filter has ++ (if has (x, y, z) then [(x, y, z)] else []) := by
  rw [take_cell h0 h1, List.filter_append, hc]
  congr 1
  cases h : has (x, y, z) <;> simp [h]
theorem Lst.push {a b c : X} (h : Lst has p k o) (h0 : 0 ≤ k) (h1 : k < p.vol) (hc : p.at k = (a.i, b.i, c.i)) (hy : has (a.i, b.i, c.i) = true) (hl : ¬ 32768 < o.i + 1) : Lst has p (k + 1) (mkX (rwCat o.r o.i (rwTab 3 [a, b, c])) (o.i + 1)) := by
  obtain ⟨g0, g1, g2⟩ := h
  refine ⟨by show 0 ≤ o.i + 1; omega, by show o.i + 1 ≤ 32768; omega, ?_⟩
  rw [lstX_push g0, lstX_eta, g2, Lst.take1 h0 h1 hc, if_pos hy]
  rfl
theorem Lst.skip (h : Lst has p k o) (h0 : 0 ≤ k) (h1 : k < p.vol) (hc : p.at k = (x, y, z)) (hy : ¬ has (x, y, z) = true) : Lst has p (k + 1) o := by
  obtain ⟨g0, g1, g2⟩ := h
  refine ⟨g0, g1, ?_⟩
  rw [g2, Lst.take1 h0 h1 hc, if_neg hy, List.append_nil]
theorem Lst.full (h : Lst has p k o) (h0 : 0 ≤ k) (h1 : k < p.vol) (hc : p.at k = (x, y, z)) (hy : has (x, y, z) = true) (hl : 32768 < o.i + 1) : ¬ ((cellsB p).filter has).length ≤ 32768 := by
  obtain ⟨g0, g1, g2⟩ := h
  have e := Lst.take1 (has := has) h0 h1 hc
  rw [if_pos hy, ← g2] at e
  have hs : (((cellsB p).take (k + 1).toNat).filter has).length ≤ ((cellsB p).filter has).length := ((List.take_sublist _ _).filter has).length_le
  rw [e, List.length_append, lstX_len] at hs
  simp only [List.length_singleton] at hs
  omega
theorem Lst.all (h : Lst has p p.vol o) : lstX deP o = (cellsB p).filter has := by
  rw [h.2.2, List.take_of_length_le (by rw [cellsB_len]; exact Nat.le_refl _)]
theorem Lst.len (h : Lst has p p.vol o) : ((cellsB p).filter has).length ≤ 32768 := by
  have h1 := h.2.1
  rw [← Lst.all h, lstX_len]
  omega
theorem Lst.cast {j : Int} (h : Lst has p k o) (e : k = j) : Lst has p j o := e ▸ h
/-! ### Three loops, one within another -/
theorem lpZ.start (hp : p.ord) : lpZ has p p.c (mkX R 0) := ⟨Int.le_refl _, hp.2.2, Lst.start.cast (by simp)⟩
theorem lpZ.toY (h : lpZ has p z o) (hp : p.ord) (hz : z < p.f) : lpY has p z p.b o := ⟨h.1, hz, Int.le_refl _, hp.2.1, h.2.2.cast (by simp)⟩
theorem lpY.toX (h : lpY has p z y o) (hp : p.ord) (hy : y < p.e) : lpX has p z y p.a o := ⟨h.1, h.2.1, h.2.2.1, hy, Int.le_refl _, hp.1, h.2.2.2.2.cast (by simp)⟩
theorem lpX.cell (h : lpX has p z y x o) (hx : x < p.d) : 0 ≤ ((z - p.c) * (p.e - p.b) + (y - p.b)) * (p.d - p.a) + (x - p.a) ∧ ((z - p.c) * (p.e - p.b) + (y - p.b)) * (p.d - p.a) + (x - p.a) < p.vol ∧ p.at (((z - p.c) * (p.e - p.b) + (y - p.b)) * (p.d - p.a) + (x - p.a)) = (x, y, z) := cell_at (p := p) (x := x) (y := y) (z := z) ⟨h.1, h.2.1⟩ ⟨h.2.2.1, h.2.2.2.1⟩ ⟨h.2.2.2.2.1, hx⟩
theorem lpX.push {a b c : X} (h : lpX has p c.i b.i a.i o) (hx : a.i < p.d) (hy : has (a.i, b.i, c.i) = true) (hl : ¬ 32768 < o.i + 1) : lpX has p c.i b.i (a.i + 1) (mkX (rwCat o.r o.i (rwTab 3 [a, b, c])) (o.i + 1)) := by
  obtain ⟨c0, c1, c2⟩ := h.cell hx
  obtain ⟨h1, h2, h3, h4, h5, h6, h7⟩ := h
  exact ⟨h1, h2, h3, h4, by omega, by omega, (h7.push c0 c1 c2 hy hl).cast (by omega)⟩
theorem lpX.skip (h : lpX has p z y x o) (hx : x < p.d) (hy : ¬ has (x, y, z) = true) : lpX has p z y (x + 1) o := by
  obtain ⟨c0, c1, c2⟩ := h.cell hx
  obtain ⟨h1, h2, h3, h4, h5, h6, h7⟩ := h
  exact ⟨h1, h2, h3, h4, by omega, by omega, (h7.skip c0 c1 c2 hy).cast (by omega)⟩
theorem lpX.full (h : lpX has p z y x o) (hx : x < p.d) (hy : has (x, y, z) = true) (hl : 32768 < o.i + 1) : ¬ ((cellsB p).filter has).length ≤ 32768 := by
  obtain ⟨c0, c1, c2⟩ := h.cell hx
  exact h.2.2.2.2.2.2.full c0 c1 c2 hy hl
theorem lpX.toY (h : lpX has p z y x o) (hx : ¬ x < p.d) : lpY has p z (y + 1) o := by
  obtain ⟨h1, h2, h3, h4, h5, h6, h7⟩ := h
  have : x = p.d := by omega
  subst this
  refine ⟨h1, h2, by omega, by omega, h7.cast ?_⟩
  rw [show y + 1 - p.b = (y - p.b) + 1 by omega, ← Int.add_assoc, Int.add_mul _ 1, Int.one_mul]
theorem lpY.toZ (h : lpY has p z y o) (hy : ¬ y < p.e) : lpZ has p (z + 1) o := by
  obtain ⟨h1, h2, h3, h4, h5⟩ := h
  have : y = p.e := by omega
  subst this
  refine ⟨by omega, by omega, h5.cast ?_⟩
  rw [show z + 1 - p.c = (z - p.c) + 1 by omega, Int.add_mul _ 1, Int.one_mul]
theorem lpZ.all (h : lpZ has p z o) (hp : p.ord) (hz : ¬ z < p.f) : Lst has p p.vol o := by
  obtain ⟨h1, h2, h3⟩ := h
  have : z = p.f := by omega
  subst this
  refine h3.cast ?_
  rw [Bx.vol_ord hp, Int.mul_assoc, Int.mul_comm, Int.mul_comm (p.e - p.b)]
/-! ### One loop -/
theorem lpK.start : lpK has p 0 (mkX R 0) := ⟨Int.le_refl _, p.vol_nn, Lst.start⟩
theorem lpK.push {a b c : X} (h : lpK has p k o) (hk : k < p.vol) (hc : p.at k = (a.i, b.i, c.i)) (hy : has (a.i, b.i, c.i) = true) (hl : ¬ 32768 < o.i + 1) : lpK has p (k + 1) (mkX (rwCat o.r o.i (rwTab 3 [a, b, c])) (o.i + 1)) := ⟨by have := h.1; omega, by omega, h.2.2.push h.1 hk hc hy hl⟩
theorem lpK.skip (h : lpK has p k o) (hk : k < p.vol) (hy : ¬ has (p.at k) = true) : lpK has p (k + 1) o := ⟨by have := h.1; omega, by omega, h.2.2.skip h.1 hk (x := (p.at k).1) (y := (p.at k).2.1) (z := (p.at k).2.2) rfl hy⟩
theorem lpK.full (h : lpK has p k o) (hk : k < p.vol) (hy : has (p.at k) = true) (hl : 32768 < o.i + 1) : ¬ ((cellsB p).filter has).length ≤ 32768 := h.2.2.full h.1 hk (x := (p.at k).1) (y := (p.at k).2.1) (z := (p.at k).2.2) rfl hy hl
theorem lpK.all (h : lpK has p k o) (hk : ¬ k < p.vol) : Lst has p p.vol o := by
  have : k = p.vol := by have := h.2.1; omega
  exact this ▸ h.2.2
/-! ### The ends -/
theorem lsL_of (h : Lst has p p.vol o) : lsL has p = lstX deP o := by unfold lsL; rw [if_pos h.len, h.all]
theorem lsE_of (h : Lst has p p.vol o) : lsE has p = 0 := by unfold lsE; rw [if_pos h.len]
theorem lsL_no (h : ¬ ((cellsB p).filter has).length ≤ 32768) : lsL has p = [] := by unfold lsL; rw [if_neg h]
theorem lsE_no (h : ¬ ((cellsB p).filter has).length ≤ 32768) : lsE has p = 2 := by unfold lsE; rw [if_neg h]
theorem filter_true (l : List (Int × Int × Int)) : l.filter (fun _ => true) = l := by simp
theorem lsL_true : lsL (fun _ => true) p = if p.vol ≤ 32768 then cellsB p else [] := by
  unfold lsL
  rw [filter_true, cellsB_len]
  by_cases h : p.vol ≤ 32768
  · rw [if_pos h, if_pos (by omega)]
  · rw [if_neg h, if_neg (by omega)]
theorem lsE_true : lsE (fun _ => true) p = if p.vol ≤ 32768 then 0 else 2 := by
  unfold lsE
  rw [filter_true, cellsB_len]
  by_cases h : p.vol ≤ 32768
  · rw [if_pos h, if_pos (by omega)]
  · rw [if_neg h, if_neg (by omega)]
theorem row_of {l : List (Int × Int × Int)} {k0 k1 k2 : IntKind} {a b c d e g : Int} (h : Lst has p p.vol o) (hl : l = lstX deP o) : rowEq [.int k0 a b, .int k1 c d, .int k2 e g] (rowG enP l) o.r o.i 32768 :=
  rowEq_of eqEl_P h.1 h.2.1 (by rw [lstX_eta]; exact hl.symm)
end
/-! ### The tables -/
theorem Bx_eta (p : Bx) : (⟨p.a, p.b, p.c, p.d, p.e, p.f⟩ : Bx) = p := rfl
theorem Bx_vol (p : Bx) : volB p.a p.b p.c p.d p.e p.f = p.vol := rfl
section
variable (a b c d e f a' b' c' d' e' f' : Int)
theorem itB_a : itB a b c d e f a' b' c' d' e' f' (max a a') = (Bx.inter ⟨a, b, c, d, e, f⟩ ⟨a', b', c', d', e', f'⟩).a := rfl
theorem itB_b : itB a b c d e f a' b' c' d' e' f' (max b b') = (Bx.inter ⟨a, b, c, d, e, f⟩ ⟨a', b', c', d', e', f'⟩).b := rfl
theorem itB_c : itB a b c d e f a' b' c' d' e' f' (max c c') = (Bx.inter ⟨a, b, c, d, e, f⟩ ⟨a', b', c', d', e', f'⟩).c := rfl
theorem itB_d : itB a b c d e f a' b' c' d' e' f' (min d d') = (Bx.inter ⟨a, b, c, d, e, f⟩ ⟨a', b', c', d', e', f'⟩).d := rfl
theorem itB_e : itB a b c d e f a' b' c' d' e' f' (min e e') = (Bx.inter ⟨a, b, c, d, e, f⟩ ⟨a', b', c', d', e', f'⟩).e := rfl
theorem itB_f : itB a b c d e f a' b' c' d' e' f' (min f f') = (Bx.inter ⟨a, b, c, d, e, f⟩ ⟨a', b', c', d', e', f'⟩).f := rfl
end
section
variable (a b c d e f a' b' c' d' e' f' x y z s t o k : X)
theorem F400 : Ff 400 [a, b, c, d, e, f, a', b', c', d', e', f'] = rowG enP (lsL (fun _ => true) (Bx.inter ⟨a.i, b.i, c.i, d.i, e.i, f.i⟩ ⟨a'.i, b'.i, c'.i, d'.i, e'.i, f'.i⟩)) := by rw [lsL_true]; rfl
theorem F401 : Ff 401 [a, b, c, d, e, f, a', b', c', d', e', f'] = xI (lsE (fun _ => true) (Bx.inter ⟨a.i, b.i, c.i, d.i, e.i, f.i⟩ ⟨a'.i, b'.i, c'.i, d'.i, e'.i, f'.i⟩)) := by rw [lsE_true]; rfl
theorem F402 : Ff 402 [x, y, z, s, a, b, c, d, e, f] = rowG enP (if isSz s.i then lsL (ballB x.i y.i z.i s.i) (Bx.inter (ballX x.i y.i z.i s.i) ⟨a.i, b.i, c.i, d.i, e.i, f.i⟩) else []) := rfl
theorem F403 : Ff 403 [x, y, z, s, a, b, c, d, e, f] = xI (if isSz s.i then lsE (ballB x.i y.i z.i s.i) (Bx.inter (ballX x.i y.i z.i s.i) ⟨a.i, b.i, c.i, d.i, e.i, f.i⟩) else 1) := rfl
theorem F404 : Ff 404 [a, b, c, d, e, f, t, a', b', c', d', e', f'] = rowG enP (if inT t.i then lsL (prmB ⟨a.i, b.i, c.i, d.i, e.i, f.i⟩ t.i) (Bx.inter ⟨a.i, b.i, c.i, d.i, e.i, f.i⟩ ⟨a'.i, b'.i, c'.i, d'.i, e'.i, f'.i⟩) else []) := rfl
theorem F405 : Ff 405 [a, b, c, d, e, f, t, a', b', c', d', e', f'] = xI (if inT t.i then lsE (prmB ⟨a.i, b.i, c.i, d.i, e.i, f.i⟩ t.i) (Bx.inter ⟨a.i, b.i, c.i, d.i, e.i, f.i⟩ ⟨a'.i, b'.i, c'.i, d'.i, e'.i, f'.i⟩) else 1) := rfl
theorem F410 : Ff 410 [a, b] = xB (decide (lstX deP a = lstX deP b)) := rfl
theorem F411 : Ff 411 [a, x, y, z] = xB (decide ((x.i, y.i, z.i) ∈ lstX deP a)) := rfl
theorem F412 : Ff 412 [a] = xB (incB (lstX deP a)) := rfl
theorem F420 : Ff 420 [x, y, z, s, a, b, c] = xB (decide (isSz s.i) && ballB x.i y.i z.i s.i (a.i, b.i, c.i)) := rfl
theorem F421 : Ff 421 [a, b, c, d, e, f, t, x, y, z] = xB (decide (inT t.i) && decide (inB x.i y.i z.i a.i b.i c.i d.i e.i f.i) && prmB ⟨a.i, b.i, c.i, d.i, e.i, f.i⟩ t.i (x.i, y.i, z.i)) := rfl
theorem F422 : Ff 422 [x, y, z, s] = xI (ballX x.i y.i z.i s.i).a := rfl
theorem F423 : Ff 423 [x, y, z, s] = xI (ballX x.i y.i z.i s.i).b := rfl
theorem F424 : Ff 424 [x, y, z, s] = xI (ballX x.i y.i z.i s.i).c := rfl
theorem F425 : Ff 425 [x, y, z, s] = xI (ballX x.i y.i z.i s.i).d := rfl
theorem F426 : Ff 426 [x, y, z, s] = xI (ballX x.i y.i z.i s.i).e := rfl
theorem F427 : Ff 427 [x, y, z, s] = xI (ballX x.i y.i z.i s.i).f := rfl
theorem P500 : Px 500 [a, b, c, d, e, f, a', b', c', d', e', f', z, o] = lpZ (fun _ => true) (Bx.inter ⟨a.i, b.i, c.i, d.i, e.i, f.i⟩ ⟨a'.i, b'.i, c'.i, d'.i, e'.i, f'.i⟩) z.i o := rfl
theorem P501 : Px 501 [a, b, c, d, e, f, a', b', c', d', e', f', z, y, o] = lpY (fun _ => true) (Bx.inter ⟨a.i, b.i, c.i, d.i, e.i, f.i⟩ ⟨a'.i, b'.i, c'.i, d'.i, e'.i, f'.i⟩) z.i y.i o := rfl
theorem P502 : Px 502 [a, b, c, d, e, f, a', b', c', d', e', f', z, y, x, o] = lpX (fun _ => true) (Bx.inter ⟨a.i, b.i, c.i, d.i, e.i, f.i⟩ ⟨a'.i, b'.i, c'.i, d'.i, e'.i, f'.i⟩) z.i y.i x.i o := rfl
theorem P503 (x0 y0 z0 : X) : Px 503 [x0, y0, z0, s, a, b, c, d, e, f, z, o] = lpZ (ballB x0.i y0.i z0.i s.i) (Bx.inter (ballX x0.i y0.i z0.i s.i) ⟨a.i, b.i, c.i, d.i, e.i, f.i⟩) z.i o := rfl
theorem P504 (x0 y0 z0 : X) : Px 504 [x0, y0, z0, s, a, b, c, d, e, f, z, y, o] = lpY (ballB x0.i y0.i z0.i s.i) (Bx.inter (ballX x0.i y0.i z0.i s.i) ⟨a.i, b.i, c.i, d.i, e.i, f.i⟩) z.i y.i o := rfl
theorem P505 (x0 y0 z0 : X) : Px 505 [x0, y0, z0, s, a, b, c, d, e, f, z, y, x, o] = lpX (ballB x0.i y0.i z0.i s.i) (Bx.inter (ballX x0.i y0.i z0.i s.i) ⟨a.i, b.i, c.i, d.i, e.i, f.i⟩) z.i y.i x.i o := rfl
theorem P506 : Px 506 [a, b, c, d, e, f, t, a', b', c', d', e', f', z, o] = lpZ (prmB ⟨a.i, b.i, c.i, d.i, e.i, f.i⟩ t.i) (Bx.inter ⟨a.i, b.i, c.i, d.i, e.i, f.i⟩ ⟨a'.i, b'.i, c'.i, d'.i, e'.i, f'.i⟩) z.i o := rfl
theorem P507 : Px 507 [a, b, c, d, e, f, t, a', b', c', d', e', f', z, y, o] = lpY (prmB ⟨a.i, b.i, c.i, d.i, e.i, f.i⟩ t.i) (Bx.inter ⟨a.i, b.i, c.i, d.i, e.i, f.i⟩ ⟨a'.i, b'.i, c'.i, d'.i, e'.i, f'.i⟩) z.i y.i o := rfl
theorem P508 : Px 508 [a, b, c, d, e, f, t, a', b', c', d', e', f', z, y, x, o] = lpX (prmB ⟨a.i, b.i, c.i, d.i, e.i, f.i⟩ t.i) (Bx.inter ⟨a.i, b.i, c.i, d.i, e.i, f.i⟩ ⟨a'.i, b'.i, c'.i, d'.i, e'.i, f'.i⟩) z.i y.i x.i o := rfl
theorem P510 : Px 510 [a, b, c, d, e, f, a', b', c', d', e', f', k, o] = lpK (fun _ => true) (Bx.inter ⟨a.i, b.i, c.i, d.i, e.i, f.i⟩ ⟨a'.i, b'.i, c'.i, d'.i, e'.i, f'.i⟩) k.i o := rfl
theorem P511 (x0 y0 z0 : X) : Px 511 [x0, y0, z0, s, a, b, c, d, e, f, k, o] = lpK (ballB x0.i y0.i z0.i s.i) (Bx.inter (ballX x0.i y0.i z0.i s.i) ⟨a.i, b.i, c.i, d.i, e.i, f.i⟩) k.i o := rfl
theorem P512 : Px 512 [a, b, c, d, e, f, t, a', b', c', d', e', f', k, o] = lpK (prmB ⟨a.i, b.i, c.i, d.i, e.i, f.i⟩ t.i) (Bx.inter ⟨a.i, b.i, c.i, d.i, e.i, f.i⟩ ⟨a'.i, b'.i, c'.i, d'.i, e'.i, f'.i⟩) k.i o := rfl
end
section
variable (a b c d e f a' b' c' d' e' f' x y z s t : Int)
theorem G402 : Ff 402 [xI x, xI y, xI z, xI s, xI a, xI b, xI c, xI d, xI e, xI f] = rowG enP (if isSz s then lsL (ballB x y z s) (Bx.inter (ballX x y z s) ⟨a, b, c, d, e, f⟩) else []) := rfl
theorem G403 : Ff 403 [xI x, xI y, xI z, xI s, xI a, xI b, xI c, xI d, xI e, xI f] = xI (if isSz s then lsE (ballB x y z s) (Bx.inter (ballX x y z s) ⟨a, b, c, d, e, f⟩) else 1) := rfl
theorem G404 : Ff 404 [xI a, xI b, xI c, xI d, xI e, xI f, xI t, xI a', xI b', xI c', xI d', xI e', xI f'] = rowG enP (if inT t then lsL (prmB ⟨a, b, c, d, e, f⟩ t) (Bx.inter ⟨a, b, c, d, e, f⟩ ⟨a', b', c', d', e', f'⟩) else []) := rfl
theorem G405 : Ff 405 [xI a, xI b, xI c, xI d, xI e, xI f, xI t, xI a', xI b', xI c', xI d', xI e', xI f'] = xI (if inT t then lsE (prmB ⟨a, b, c, d, e, f⟩ t) (Bx.inter ⟨a, b, c, d, e, f⟩ ⟨a', b', c', d', e', f'⟩) else 1) := rfl
theorem G420 : Ff 420 [xI x, xI y, xI z, xI s, xI a, xI b, xI c] = xB (decide (isSz s) && ballB x y z s (a, b, c)) := rfl
theorem G421 : Ff 421 [xI a, xI b, xI c, xI d, xI e, xI f, xI t, xI x, xI y, xI z] = xB (decide (inT t) && decide (inB x y z a b c d e f) && prmB ⟨a, b, c, d, e, f⟩ t (x, y, z)) := rfl
end
section
variable (a b c d e f t : Int)
theorem Bk_a : tlB (ivB t) 0 a b c d e f = (Bx.back ⟨a, b, c, d, e, f⟩ t).a := rfl
theorem Bk_b : tlB (ivB t) 1 a b c d e f = (Bx.back ⟨a, b, c, d, e, f⟩ t).b := rfl
theorem Bk_c : tlB (ivB t) 2 a b c d e f = (Bx.back ⟨a, b, c, d, e, f⟩ t).c := rfl
theorem Bk_d : thB (ivB t) 0 a b c d e f = (Bx.back ⟨a, b, c, d, e, f⟩ t).d := rfl
theorem Bk_e : thB (ivB t) 1 a b c d e f = (Bx.back ⟨a, b, c, d, e, f⟩ t).e := rfl
theorem Bk_f : thB (ivB t) 2 a b c d e f = (Bx.back ⟨a, b, c, d, e, f⟩ t).f := rfl
theorem Bk_sx (p : Bx) : szB p.a p.b p.c p.d p.e p.f p.a p.d = p.sx := rfl
theorem Bk_sz (p : Bx) : szB p.a p.b p.c p.d p.e p.f p.c p.f = p.sz := rfl
end
theorem atX_B (p : Bx) (k : Int) : atX p.a p.b p.c p.d p.e p.f k = (p.at k).1 := rfl
theorem atY_B (p : Bx) (k : Int) : atY p.a p.b p.c p.d p.e p.f k = (p.at k).2.1 := rfl
theorem atZ_B (p : Bx) (k : Int) : atZ p.a p.b p.c p.d p.e p.f k = (p.at k).2.2 := rfl
/-- A cell of a common part lies in the one box. -/
theorem inter_in {p q : Bx} {k : Int} (h0 : 0 ≤ k) (h1 : k < (p.inter q).vol) : inB ((p.inter q).at k).1 ((p.inter q).at k).2.1 ((p.inter q).at k).2.2 p.a p.b p.c p.d p.e p.f :=
  (in_inter.1 (at_in (a := (p.inter q).a) (b := (p.inter q).b) (c := (p.inter q).c) (d := (p.inter q).d) (e := (p.inter q).e) (f := (p.inter q).f) ⟨h0, h1⟩)).1
end Vc
end Go.Proofs.YtipcadjfhndcnaaDoor
