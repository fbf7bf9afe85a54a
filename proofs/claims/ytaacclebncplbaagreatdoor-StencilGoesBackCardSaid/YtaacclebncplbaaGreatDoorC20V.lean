/- Layer 20, plain: the law of the way back. -/
import Derived.Test.YtaacclebncplbaaGreatDoorC20W
namespace Go.Proofs.YtaacclebncplbaaGreatDoor
namespace Vc
open Go Go.RowKit
set_option linter.unusedVariables false
section
variable {b : Bx} {cs G' W' H' G2 : List Int} {L' L2 : List Ch} {k n : Int}
structure GbH (b : Bx) (cs : List Int) (k n : Int) : Prop where
 gv : validG ⟨b, cs⟩ = true
 ne : cs.length ≠ 0
 le : cs.length ≤ 130
 hk : inT k
 hn : 0 ≤ n ∧ n ≤ 255
 nb : nB 1000 b
def gbT (b : Bx) (k : Int) : Bx := tg2 b k (1, 1, 1)
def gbB (b : Bx) (k : Int) : Bx := ⟨0, 0, 0, (gbT b k).d + 1, (gbT b k).e + 1, (gbT b k).f + 1⟩
def gbG (b : Bx) (k n : Int) : List Int := newL (gbB b k) n
def gbL (b : Bx) (cs : List Int) (k n : Int) : List Ch := chL (gbB b k) (gbG b k n) (cpF b cs b k (1, 1, 1))
def gbW (b : Bx) (cs : List Int) (k n : Int) : List Int := wrL (gbB b k) (gbG b k n) (gbL b cs k n)
def gbC (b : Bx) (cs : List Int) (k n : Int) : List Int := crpL (gbB b k) (gbW b cs k n) (gbT b k)
def gbM (b : Bx) (cs : List Int) (k n : Int) : List Ch := chL b (newL b n) (cpF (gbT b k) (gbC b cs k n) (gbT b k) (ivB k) (b.a, b.b, b.c))
theorem GbH.nx (H : GbH b cs k n) : neX b := by
 rcases val_box H.gv with h | h
 ·have hl := val_len H.gv
  have hl : b.vol = cs.length := hl
  rw [h] at hl
  have : bx0.vol = 0 := rfl
  exact absurd (show cs.length = 0 by omega) H.ne
 ·exact h
theorem GbH.nxT (H : GbH b cs k n) : neX (gbT b k) := tg_ne H.hk H.nx
theorem GbH.mat (H : GbH b cs k n) : matB n = true := by
 have := H.hn
 unfold matB
 rw [decide_eq_true (by omega), decide_eq_true (by omega)]
 rfl
theorem GbH.dims (H : GbH b cs k n) : ∃ x y z : Int, gbT b k = ⟨1, 1, 1, 1 + x, 1 + y, 1 + z⟩ ∧ (1 ≤ x ∧ x ≤ 130) ∧ (1 ≤ y ∧ y ≤ 130) ∧ (1 ≤ z ∧ z ≤ 130) ∧ x * y * z ≤ 130 := by
 obtain ⟨t1, t2, t3, t4, t5, t6⟩ := tg_in (a := (1, 1, 1)) H.hk H.nx
 have hv : (gbT b k).vol = b.vol := tg_vol H.hk
 have hl : b.vol = cs.length := val_len H.gv
 have hn : neB (gbT b k).a (gbT b k).b (gbT b k).c (gbT b k).d (gbT b k).e (gbT b k).f := H.nxT
 have hp := vol_ne hn
 have hle := H.le
 have e1 : (gbT b k).a = 1 := t1
 have e2 : (gbT b k).b = 1 := t2
 have e3 : (gbT b k).c = 1 := t3
 unfold neB at hn
 refine ⟨(gbT b k).d - 1, (gbT b k).e - 1, (gbT b k).f - 1, bx_ext e1 e2 e3 (by simp only; omega) (by simp only; omega) (by simp only; omega), ?_⟩
 have hvv : (gbT b k).vol = ((gbT b k).d - 1) * ((gbT b k).e - 1) * ((gbT b k).f - 1) := by
  have : (gbT b k).vol = volB (gbT b k).a (gbT b k).b (gbT b k).c (gbT b k).d (gbT b k).e (gbT b k).f := rfl
  rw [this, hp, e1, e2, e3]
 rw [e1, e2, e3] at hn
 have x1 : 1 ≤ (gbT b k).d - 1 := by omega
 have y1 : 1 ≤ (gbT b k).e - 1 := by omega
 have z1 : 1 ≤ (gbT b k).f - 1 := by omega
 generalize (gbT b k).d - 1 = x at *
 generalize (gbT b k).e - 1 = y at *
 generalize (gbT b k).f - 1 = z at *
 have p1 : x * y * 1 ≤ x * y * z := Int.mul_le_mul_of_nonneg_left z1 (Int.mul_nonneg (by omega) (by omega))
 have p2 : x * 1 ≤ x * y := Int.mul_le_mul_of_nonneg_left y1 (by omega)
 have p3 : 1 * y ≤ x * y := Int.mul_le_mul_of_nonneg_right x1 (by omega)
 have p4 : 1 * z ≤ x * y * z := Int.mul_le_mul_of_nonneg_right (by omega) (by omega)
 omega
theorem GbH.volT (H : GbH b cs k n) : (gbT b k).vol ≤ 130 := by
 have hv : (gbT b k).vol = b.vol := tg_vol H.hk
 have hl : b.vol = cs.length := val_len H.gv
 have := H.le
 omega
theorem GbH.eT (H : GbH b cs k n) : newE (gbT b k) 0 = 0 := by
 obtain ⟨x, y, z, e, hx, hy, hz, _⟩ := H.dims
 refine new_e0 ⟨?_, rfl⟩ (by have := H.volT; omega)
 rw [e]
 exact in20_iff.2 (by omega)
theorem GbH.eB (H : GbH b cs k n) : newE (gbB b k) n = 0 := by
 obtain ⟨x, y, z, e, hx, hy, hz, hp⟩ := H.dims
 have eB : gbB b k = ⟨0, 0, 0, x + 2, y + 2, z + 2⟩ := by
  unfold gbB
  rw [e]
  exact bx_ext rfl rfl rfl (by simp only; omega) (by simp only; omega) (by simp only; omega)
 rw [eB]
 refine new_e0 ⟨in20_iff.2 (by omega), H.mat⟩ ?_
 have hne : neB 0 0 0 (x + 2) (y + 2) (z + 2) := by unfold neB; omega
 have : (⟨0, 0, 0, x + 2, y + 2, z + 2⟩ : Bx).vol = (x + 2 - 0) * (y + 2 - 0) * (z + 2 - 0) := vol_ne hne
 rw [this, Int.sub_zero, Int.sub_zero, Int.sub_zero]
 have q0 : 0 ≤ x * y := Int.mul_nonneg (by omega) (by omega)
 have q1 : x * y * 1 ≤ x * y * z := Int.mul_le_mul_of_nonneg_left (by omega) q0
 have q2 : (x + 2) * (y + 2) = x * y + 2 * x + 2 * y + 4 := by
  rw [Int.add_mul, Int.mul_add, Int.mul_add]
  omega
 have q3 : (x + 2) * (y + 2) ≤ 654 := by omega
 have q4 : (x + 2) * (y + 2) * (z + 2) ≤ 654 * 132 := Int.mul_le_mul q3 (by omega) (by omega) (by omega)
 omega
theorem newB_id {c : Bx} {m : Int} (h : newE c m = 0) (hn : neX c) : newB c m = c := by
 unfold newB
 exact if_pos ⟨h, by have := vol_pos' (b := c) hn; omega⟩
theorem GbH.nxB (H : GbH b cs k n) : neX (gbB b k) := by
 obtain ⟨x, y, z, e, hx, hy, hz, hp⟩ := H.dims
 show (0 : Int) < (gbT b k).d + 1 ∧ (0 : Int) < (gbT b k).e + 1 ∧ (0 : Int) < (gbT b k).f + 1
 rw [e]
 simp only
 omega
theorem GbH.iB (H : GbH b cs k n) : newB (gbB b k) n = gbB b k := newB_id H.eB H.nxB
theorem GbH.iT (H : GbH b cs k n) : newB (gbT b k) 0 = gbT b k := newB_id H.eT H.nxT
theorem GbH.eb (H : GbH b cs k n) : newE b n = 0 := by
 have h0 := new_of H.gv
 have hi := val_in H.gv
 have hv := val_vol H.gv
 exact new_e0 ⟨hi, H.mat⟩ (by omega)
theorem GbH.ib (H : GbH b cs k n) : newB b n = b := newB_id H.eb H.nx
theorem GbH.vG (H : GbH b cs k n) (e : G' = gbG b k n) : validG ⟨newB (gbB b k) n, G'⟩ = true := by
 rw [e]
 exact new_val H.eB
theorem GbH.cp (H : GbH b cs k n) (e : G' = gbG b k n) : cpL (newB (gbB b k) n) G' b cs b k (1, 1, 1) = gbL b cs k n := by
 have : cpE b k = 0 := by
  have hl : b.vol = cs.length := val_len H.gv
  have := H.le
  unfold cpE
  rw [if_pos H.hk, if_neg (by omega)]
 unfold cpL
 rw [if_pos this, H.iB, e]
 rfl
theorem GbH.e1 (H : GbH b cs k n) : cpE b k = 0 := by
 have hl : b.vol = cs.length := val_len H.gv
 have := H.le
 unfold cpE
 rw [if_pos H.hk, if_neg (by omega)]
theorem GbH.e2 (H : GbH b cs k n) : cpE (newB (gbT b k) 0) (ivB k) = 0 := by
 have := H.volT
 unfold cpE
 rw [if_pos (iv_inT H.hk), H.iT, if_neg (by omega)]
theorem GbH.vG0 (H : GbH b cs k n) : validG ⟨gbB b k, gbG b k n⟩ = true := by
 have := H.vG rfl
 rw [H.iB] at this
 exact this
theorem GbH.chg (H : GbH b cs k n) {c : Ch} (h : c ∈ gbL b cs k n) : chgB c := cp_chg H.vG0 (val_mat H.gv) h
theorem GbH.wr (H : GbH b cs k n) (e : G' = gbG b k n) (e' : L' = gbL b cs k n) : wrL (newB (gbB b k) n) G' L' = gbW b cs k n := by
 rw [H.iB, e, e']
 rfl
theorem GbH.vW0 (H : GbH b cs k n) : validG ⟨gbB b k, gbW b cs k n⟩ = true := wr_val H.vG0 fun c hc => (H.chg hc).2.2.2
theorem GbH.vW (H : GbH b cs k n) (e : W' = gbW b cs k n) : validG ⟨newB (gbB b k) n, W'⟩ = true := by
 rw [H.iB, e]
 exact H.vW0
theorem GbH.cr (H : GbH b cs k n) (e : W' = gbW b cs k n) : crpL (newB (gbB b k) n) W' (gbT b k) = gbC b cs k n := by
 rw [H.iB, e]
 rfl
theorem GbH.vC0 (H : GbH b cs k n) : validG ⟨gbT b k, gbC b cs k n⟩ = true := by
 have := val_crp (b := gbB b k) (cs := gbW b cs k n) H.eT (val_mat H.vW0)
 rw [H.iT] at this
 exact this
theorem GbH.vC (H : GbH b cs k n) (e : H' = gbC b cs k n) : validG ⟨newB (gbT b k) 0, H'⟩ = true := by
 rw [H.iT, e]
 exact H.vC0
theorem GbH.vT (H : GbH b cs k n) (e : G' = turL k b cs) : validG ⟨turB k b, G'⟩ = true := by
 rw [e]
 exact tur_val H.gv
theorem GbH.vb (H : GbH b cs k n) (e : G' = newL b n) : validG ⟨newB b n, G'⟩ = true := by
 rw [e]
 exact new_val H.eb
theorem GbH.inB (H : GbH b cs k n) {q : Pt} (h : (gbT b k).has q = true) : (gbB b k).has q = true := by
 obtain ⟨x, y, z, e, _⟩ := H.dims
 have h := has_iff.1 h
 refine has_iff.2 ?_
 unfold gbB
 rw [e] at h ⊢
 unfold Vc.inB at h ⊢
 simp only at h ⊢
 omega
theorem GbH.get (H : GbH b cs k n) {q : Pt} (h : (gbT b k).has q = true) : getL (gbT b k) (gbC b cs k n) q = getL b cs (sr2 b k (1, 1, 1) q).1 := by
 have h1 := crp_get (b := gbB b k) (cs := gbW b cs k n) (p := q) H.eT
 rw [H.iT, if_pos h] at h1
 have h2 := st_get (sb := b) (scs := cs) (b := b) (k := k) (a := (1, 1, 1)) H.vG0 (H.inB h)
 obtain ⟨p, hp⟩ := tg_sr (a := (1, 1, 1)) H.hk h
 rw [if_pos (by rw [hp])] at h2
 exact h1.trans h2
theorem GbH.turn (H : GbH b cs k n) : gbC b cs k n = turL k b cs :=
 st_turn (a := (1, 1, 1)) H.gv H.hk H.nx (by have h1 : (gbT b k).vol = ((gbC b cs k n).length : Int) := val_len H.vC0; have h2 : (gbT b k).vol = b.vol := tg_vol H.hk; omega) fun q hq => H.get hq
theorem GbH.cp2 (H : GbH b cs k n) (e : G2 = newL b n) (e' : H' = gbC b cs k n) : cpL (newB b n) G2 (newB (gbT b k) 0) H' (newB (gbT b k) 0) (ivB k) (b.a, b.b, b.c) = gbM b cs k n := by
 unfold cpL
 rw [if_pos H.e2, H.ib, H.iT, e, e']
 rfl
theorem GbH.vb0 (H : GbH b cs k n) : validG ⟨b, newL b n⟩ = true := by
 have := H.vb rfl
 rw [H.ib] at this
 exact this
theorem GbH.chg2 (H : GbH b cs k n) {c : Ch} (h : c ∈ gbM b cs k n) : chgB c := cp_chg H.vb0 (val_mat H.vC0) h
theorem GbH.wr2 (H : GbH b cs k n) (e : G2 = newL b n) (e' : L2 = gbM b cs k n) : wrL (newB b n) G2 L2 = cs := by
 rw [H.ib, e, e']
 exact st_back (a := (1, 1, 1)) H.gv H.hk H.vb0 fun q hq => H.get hq
theorem GbH.nT (H : GbH b cs k n) : nB 10000 (newB (gbT b k) 0) := by
 obtain ⟨x, y, z, e, _⟩ := H.dims
 rw [H.iT, e]
 unfold nB nI
 simp only
 omega
theorem GbH.np (H : GbH b cs k n) : nP 10000 (b.a, b.b, b.c) := by
 have := H.nb
 unfold nB nI at this
 unfold nP nI
 simp only
 omega
theorem GbH.pat (H : GbH b cs k n) {P1 P2 : List Int} (e1 : H' = gbC b cs k n) (e2 : P1 = H') (e3 : G' = turL k b cs) (e4 : P2 = G') : eqG (ppB (newB (gbT b k) 0) H') P1 (ppB (turB k b) G') P2 = true := by
 have hl : H'.length ≠ 0 := by rw [e1, H.turn, turL_len]; exact H.ne
 have hl2 : G'.length ≠ 0 := by rw [e3, turL_len]; exact H.ne
 refine eqG_of ?_ (by rw [e2, e1, H.turn, e4, e3])
 rw [H.iT]
 unfold ppB shfB
 rw [if_neg hl, if_neg hl2]
 obtain ⟨t1, t2, t3, t4, t5, t6⟩ := tg_in (a := (1, 1, 1)) H.hk H.nx
 have t1 : (gbT b k).a = 1 := t1
 have t2 : (gbT b k).b = 1 := t2
 have t3 : (gbT b k).c = 1 := t3
 have t4 : (gbT b k).d = 1 + ((turB k b).d - (turB k b).a) := t4
 have t5 : (gbT b k).e = 1 + ((turB k b).e - (turB k b).b) := t5
 have t6 : (gbT b k).f = 1 + ((turB k b).f - (turB k b).c) := t6
 refine bx_ext ?_ ?_ ?_ ?_ ?_ ?_ <;> simp only <;> omega
end
end Vc
end Go.Proofs.YtaacclebncplbaaGreatDoor
