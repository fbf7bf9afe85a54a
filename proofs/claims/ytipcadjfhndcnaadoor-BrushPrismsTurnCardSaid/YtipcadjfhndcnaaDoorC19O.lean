/- Layer 19, plain: half of a box is in its prism. -/
import Derived.Test.YtipcadjfhndcnaaDoorC19N
import Derived.Test.YtipcadjfhndcnaaDoorC04M
namespace Go.Proofs.YtipcadjfhndcnaaDoor
namespace Vc
open Go Go.RowKit
set_option linter.unusedVariables false

theorem half_arith {SX SZ u w : Int} (h : ¬ u * SZ < (w + 1) * SX) (hx : 0 < SX) (hz : 0 < SZ) : (SX - 1 - u) * SZ < (SZ - 1 - w + 1) * SX := by
  rw [Int.add_mul, Int.one_mul] at h
  have e1 : (SX - 1 - u) * SZ = SX * SZ - SZ - u * SZ := by rw [Int.sub_mul, Int.sub_mul, Int.one_mul]
  have e2 : (SZ - 1 - w + 1) * SX = SX * SZ - w * SX := by rw [show SZ - 1 - w + 1 = SZ - w by omega, Int.sub_mul, Int.mul_comm SZ SX]
  omega
/-- The cell of a box that lies opposite, but for one axis. -/
def refl (k : Nat) (p : Bx) (q : Int × Int × Int) : Int × Int × Int :=
  (if k = 0 then q.1 else p.a + p.d - 1 - q.1, if k = 1 then q.2.1 else p.b + p.e - 1 - q.2.1, if k = 2 then q.2.2 else p.c + p.f - 1 - q.2.2)
theorem refl_in {k : Nat} {p : Bx} {q : Int × Int × Int} (h : inB q.1 q.2.1 q.2.2 p.a p.b p.c p.d p.e p.f) : inB (refl k p q).1 (refl k p q).2.1 (refl k p q).2.2 p.a p.b p.c p.d p.e p.f := by
  unfold inB at h ⊢
  unfold refl
  simp only
  refine ⟨?_, ?_, ?_, ?_, ?_, ?_⟩ <;> split <;> omega
theorem refl_refl (k : Nat) (p : Bx) (q : Int × Int × Int) : refl k p (refl k p q) = q := by
  obtain ⟨x, y, z⟩ := q
  unfold refl
  simp only [Prod.mk.injEq]
  refine ⟨?_, ?_, ?_⟩ <;> split <;> omega
/-- Turned offsets of a cell in a box, along the first and the third turned axis. -/
theorem off_of {s a b c d e f x y z : Int} (hs : inT s) (hne : neB a b c d e f) (k : Nat) : tcB s k x y z - tlB s k a b c d e f = if tNg s.toNat k then pick d e f (tAx s.toNat k) - 1 - pick x y z (tAx s.toNat k) else pick x y z (tAx s.toNat k) - pick a b c (tAx s.toNat k) := by
  unfold tcB tlB
  rw [if_pos hs, if_pos hs, if_pos hne]
  split <;> omega
theorem siz_of {s a b c d e f : Int} (hs : inT s) (hne : neB a b c d e f) (k : Nat) : thB s k a b c d e f - tlB s k a b c d e f = pick d e f (tAx s.toNat k) - pick a b c (tAx s.toNat k) := by
  unfold thB tlB
  rw [if_pos hs, if_pos hs, if_pos hne, if_pos hne]
  split <;> omega
theorem pick_pos {a b c d e f : Int} (hne : neB a b c d e f) (j : Nat) : pick a b c j < pick d e f j := by
  unfold neB at hne
  unfold pick
  split <;> omega
theorem pick_refl {p : Bx} {q : Int × Int × Int} {k j : Nat} (hj : j < 3) (hk : j ≠ k) : pick (refl k p q).1 (refl k p q).2.1 (refl k p q).2.2 j = pick p.a p.b p.c j + pick p.d p.e p.f j - 1 - pick q.1 q.2.1 q.2.2 j := by
  have : j = 0 ∨ j = 1 ∨ j = 2 := by omega
  unfold refl
  rcases this with rfl | rfl | rfl <;> simp only [pick] <;> split <;> omega
theorem ax_ok {s : Int} (hs : inT s) : tAx s.toNat 0 < 3 ∧ tAx s.toNat 2 < 3 ∧ tAx s.toNat 0 ≠ tAx s.toNat 1 ∧ tAx s.toNat 2 ≠ tAx s.toNat 1 := by
  have hp := perm48 s.toNat (by unfold inT at hs; omega)
  simp only [List.mem_cons, List.not_mem_nil, or_false, Prod.mk.injEq] at hp
  omega
theorem back_ne {p : Bx} {t : Int} (hs : inT (ivB t)) (hne : neB p.a p.b p.c p.d p.e p.f) : neB (p.back t).a (p.back t).b (p.back t).c (p.back t).d (p.back t).e (p.back t).f := by
  have s0 := siz_of hs hne 0
  have s1 := siz_of hs hne 1
  have s2 := siz_of hs hne 2
  have p0 := pick_pos hne (tAx (ivB t).toNat 0)
  have p1 := pick_pos hne (tAx (ivB t).toNat 1)
  have p2 := pick_pos hne (tAx (ivB t).toNat 2)
  unfold neB
  show tlB (ivB t) 0 _ _ _ _ _ _ < thB (ivB t) 0 _ _ _ _ _ _ ∧ tlB (ivB t) 1 _ _ _ _ _ _ < thB (ivB t) 1 _ _ _ _ _ _ ∧ tlB (ivB t) 2 _ _ _ _ _ _ < thB (ivB t) 2 _ _ _ _ _ _
  omega
theorem off_refl {p : Bx} {s : Int} {q : Int × Int × Int} (hs : inT s) (hne : neB p.a p.b p.c p.d p.e p.f) {k : Nat} (hj : tAx s.toNat k < 3) (hk : tAx s.toNat k ≠ tAx s.toNat 1) :
    tcB s k (refl (tAx s.toNat 1) p q).1 (refl (tAx s.toNat 1) p q).2.1 (refl (tAx s.toNat 1) p q).2.2 - tlB s k p.a p.b p.c p.d p.e p.f = (thB s k p.a p.b p.c p.d p.e p.f - tlB s k p.a p.b p.c p.d p.e p.f) - 1 - (tcB s k q.1 q.2.1 q.2.2 - tlB s k p.a p.b p.c p.d p.e p.f) := by
  rw [off_of hs hne k, off_of hs hne k, siz_of hs hne k, pick_refl hj hk]
  split <;> omega
theorem refl_prm {p : Bx} {t : Int} {q : Int × Int × Int} (hs : inT (ivB t)) (hne : neB p.a p.b p.c p.d p.e p.f) (h : ¬ prmB p t q = true) : prmB p t (refl (tAx (ivB t).toNat 1) p q) = true := by
  obtain ⟨a0, a2, n0, n2⟩ := ax_ok hs
  have nb := back_ne hs hne
  have sx : (p.back t).sx = (p.back t).d - (p.back t).a := by unfold Bx.sx szB; exact if_pos nb
  have sz : (p.back t).sz = (p.back t).f - (p.back t).c := by unfold Bx.sz szB; exact if_pos nb
  unfold prmB at h ⊢
  rw [decide_eq_true_eq] at h ⊢
  have u := off_refl (q := q) hs hne a0 n0
  have w := off_refl (q := q) hs hne a2 n2
  have u : tcB (ivB t) 0 (refl (tAx (ivB t).toNat 1) p q).1 (refl (tAx (ivB t).toNat 1) p q).2.1 (refl (tAx (ivB t).toNat 1) p q).2.2 - (p.back t).a = (p.back t).sx - 1 - (tcB (ivB t) 0 q.1 q.2.1 q.2.2 - (p.back t).a) := by rw [sx]; exact u
  have w : tcB (ivB t) 2 (refl (tAx (ivB t).toNat 1) p q).1 (refl (tAx (ivB t).toNat 1) p q).2.1 (refl (tAx (ivB t).toNat 1) p q).2.2 - (p.back t).c = (p.back t).sz - 1 - (tcB (ivB t) 2 q.1 q.2.1 q.2.2 - (p.back t).c) := by rw [sz]; exact w
  rw [u, w]
  unfold neB at nb
  exact half_arith h (by rw [sx]; omega) (by rw [sz]; omega)
/-- At least half of the cells of a box are in its prism. -/
theorem prm_half {p : Bx} {t : Int} (hs : inT (ivB t)) : (cellsB p).length ≤ 2 * ((cellsB p).filter (prmB p t)).length := by
  refine half_count (R := refl (tAx (ivB t).toNat 1) p) (cells_nd p) (fun q hq => ?_) fun q hq h => ?_
  · have hin := mem_cells.1 (show (q.1, q.2.1, q.2.2) ∈ cellsB p from hq)
    exact ⟨mem_cells.2 (refl_in hin), refl_refl _ _ _⟩
  · have hin := mem_cells.1 (show (q.1, q.2.1, q.2.2) ∈ cellsB p from hq)
    exact refl_prm hs (inB_ne hin) h
end Vc
end Go.Proofs.YtipcadjfhndcnaaDoor
