/- Layer 19, plain: the cells of a box are in order; which cells a list has. -/
import Derived.Test.YtipcadjfhndcnaaDoorC19M
namespace Go.Proofs.YtipcadjfhndcnaaDoor
namespace Vc
open Go Go.RowKit
set_option linter.unusedVariables false

theorem at_lt {p : Bx} {i j : Int} (h0 : 0 ≤ i) (hij : i < j) (h1 : j < p.vol) : ltP (p.at i) (p.at j) = true := by
  have oi : okB p.a p.b p.c p.d p.e p.f i := ⟨h0, Int.lt_trans hij h1⟩
  have oj : okB p.a p.b p.c p.d p.e p.f j := ⟨by omega, h1⟩
  have ne := okB_ne oi
  have ki := at_ok oi
  have kj := at_ok oj
  unfold neB at ne
  have X0 : 0 < p.d - p.a := by omega
  have Y0 : 0 < p.e - p.b := by omega
  unfold ltP Bx.at
  simp only [ki.1, ki.2.1, ki.2.2, kj.1, kj.2.1, kj.2.2]
  have m1 : i / (p.d - p.a) ≤ j / (p.d - p.a) := Int.ediv_le_ediv X0 (by omega)
  have m2 : i / (p.d - p.a) / (p.e - p.b) ≤ j / (p.d - p.a) / (p.e - p.b) := Int.ediv_le_ediv Y0 m1
  have e1 := Int.mul_ediv_add_emod i (p.d - p.a)
  have e2 := Int.mul_ediv_add_emod j (p.d - p.a)
  have e3 := Int.mul_ediv_add_emod (i / (p.d - p.a)) (p.e - p.b)
  have e4 := Int.mul_ediv_add_emod (j / (p.d - p.a)) (p.e - p.b)
  rw [Bool.or_eq_true, Bool.and_eq_true, Bool.or_eq_true, Bool.and_eq_true, decide_eq_true_eq, decide_eq_true_eq, decide_eq_true_eq, decide_eq_true_eq, decide_eq_true_eq]
  generalize i / (p.d - p.a) / (p.e - p.b) = C at *
  generalize j / (p.d - p.a) / (p.e - p.b) = D at *
  by_cases hc : C = D
  · subst hc
    refine .inr ⟨rfl, ?_⟩
    generalize i / (p.d - p.a) % (p.e - p.b) = u at *
    generalize j / (p.d - p.a) % (p.e - p.b) = v at *
    by_cases hu : u = v
    · subst hu
      refine .inr ⟨rfl, ?_⟩
      have : i / (p.d - p.a) = j / (p.d - p.a) := by omega
      rw [this] at e1
      omega
    · exact .inl (by omega)
  · exact .inl (by omega)
theorem cells_pw (p : Bx) : (cellsB p).Pairwise fun a b => ltP a b = true := by
  unfold cellsB
  rw [List.pairwise_map]
  refine List.Pairwise.imp_of_mem ?_ (List.pairwise_lt_range (n := p.vol.toNat))
  intro i j hi hj hij
  have := List.mem_range.1 hj
  exact at_lt (by omega) (by omega) (by omega)
theorem incB_pw : ∀ {l : List (Int × Int × Int)}, (l.Pairwise fun a b => ltP a b = true) → incB l = true
  | [], _ => rfl
  | [_], _ => rfl
  | a :: b :: l, h => by
    have h2 := List.pairwise_cons.1 h
    show (ltP a b && incB (b :: l)) = true
    rw [h2.1 b (by simp), Bool.true_and]
    exact incB_pw h2.2
theorem inc_cells (has : Int × Int × Int → Bool) (p : Bx) : incB ((cellsB p).filter has) = true := incB_pw ((cells_pw p).filter has)
theorem inc_lsL (has : Int × Int × Int → Bool) (p : Bx) : incB (lsL has p) = true := by
  unfold lsL
  split
  · exact inc_cells has p
  · rfl
theorem mem_cells {p : Bx} {x y z : Int} : (x, y, z) ∈ cellsB p ↔ inB x y z p.a p.b p.c p.d p.e p.f := by
  unfold cellsB
  rw [List.mem_map]
  refine ⟨fun ⟨k, hk, e⟩ => ?_, fun h => ?_⟩
  · have hk := List.mem_range.1 hk
    have h := at_in (a := p.a) (b := p.b) (c := p.c) (d := p.d) (e := p.e) (f := p.f) (i := (k : Int)) ⟨by omega, by show (k : Int) < p.vol; omega⟩
    unfold Bx.at at e
    simp only [Prod.mk.injEq] at e
    rw [e.1, e.2.1, e.2.2] at h
    exact h
  · have h1 := id_lt h
    have h2 := at_id h
    unfold okB at h1
    refine ⟨(idB p.a p.b p.c p.d p.e p.f x y z).toNat, List.mem_range.2 (by have : idB p.a p.b p.c p.d p.e p.f x y z < p.vol := h1.2; omega), ?_⟩
    rw [Int.toNat_of_nonneg h1.1]
    unfold Bx.at
    rw [h2.1, h2.2.1, h2.2.2]
theorem sq_nn (d : Int) : 0 ≤ d * d := by
  rcases Int.le_total 0 d with h | h
  · exact Int.mul_nonneg h h
  · have := Int.mul_nonneg (show 0 ≤ -d by omega) (show 0 ≤ -d by omega)
    rwa [Int.neg_mul_neg] at this
theorem sq_neg (b : Bool) (u : Int) : (if b then 0 - u else u) * (if b then 0 - u else u) = u * u := by
  cases b
  · rfl
  · show (0 - u) * (0 - u) = u * u
    rw [Int.zero_sub, Int.neg_mul_neg]
theorem perm48 : ∀ n, n < 48 → (tAx n 0, tAx n 1, tAx n 2) ∈ [(0, 1, 2), (0, 2, 1), (1, 0, 2), (1, 2, 0), (2, 0, 1), (2, 1, 0)] := by decide +kernel
theorem turn_sq {s x y z : Int} (h : inT s) : tnB s 0 x y z * tnB s 0 x y z + tnB s 1 x y z * tnB s 1 x y z + tnB s 2 x y z * tnB s 2 x y z = x * x + y * y + z * z := by
  unfold tnB
  simp only [if_pos h]
  rw [sq_neg, sq_neg, sq_neg]
  have hp := perm48 s.toNat (by unfold inT at h; omega)
  simp only [List.mem_cons, List.not_mem_nil, or_false, Prod.mk.injEq] at hp
  rcases hp with ⟨a, b, c⟩ | ⟨a, b, c⟩ | ⟨a, b, c⟩ | ⟨a, b, c⟩ | ⟨a, b, c⟩ | ⟨a, b, c⟩ <;> rw [a, b, c] <;> simp only [pick] <;> omega
theorem half_le {d s : Int} (hs : 0 ≤ s) (h : 4 * (d * d) ≤ s * s) : d ≤ s / 2 := by
  apply Classical.byContradiction
  intro hn
  have h2 : s + 1 ≤ 2 * d := by omega
  have h3 : (s + 1) * (s + 1) ≤ 2 * d * (2 * d) := Int.mul_le_mul h2 h2 (by omega) (by omega)
  have e1 : 2 * d * (2 * d) = 4 * (d * d) := by rw [Int.mul_assoc, Int.mul_left_comm d 2 d, ← Int.mul_assoc]; rfl
  have e2 : (s + 1) * (s + 1) = s * s + s + s + 1 := by rw [Int.add_mul, Int.mul_add]; omega
  omega
theorem half_ge {d s : Int} (hs : 0 ≤ s) (h : 4 * (d * d) ≤ s * s) : -(s / 2) ≤ d := by
  have := half_le (d := -d) hs (by rw [Int.neg_mul_neg]; exact h)
  omega
theorem ball_in {x y z s a b c : Int} (hs : isSz s) (h : ballB x y z s (a, b, c) = true) : inB a b c (ballX x y z s).a (ballX x y z s).b (ballX x y z s).c (ballX x y z s).d (ballX x y z s).e (ballX x y z s).f := by
  unfold ballB at h
  have hb := of_decide_eq_true h
  simp only at hb
  have q3 := sq_nn (a - x)
  have q4 := sq_nn (b - y)
  have q5 := sq_nn (c - z)
  have s0 : 0 ≤ s := by have := hs.1; omega
  have r3 := half_le (d := a - x) s0 (by omega)
  have r4 := half_le (d := b - y) s0 (by omega)
  have r5 := half_le (d := c - z) s0 (by omega)
  have l3 := half_ge (d := a - x) s0 (by omega)
  have l4 := half_ge (d := b - y) s0 (by omega)
  have l5 := half_ge (d := c - z) s0 (by omega)
  unfold ballX
  rw [if_pos hs]
  unfold inB
  simp only
  omega
theorem inter_vol (p q : Bx) : (p.inter q).vol ≤ q.vol := by
  have hq := q.vol_nn
  by_cases h : neB (max p.a q.a) (max p.b q.b) (max p.c q.c) (min p.d q.d) (min p.e q.e) (min p.f q.f)
  · have e : (p.inter q).vol = (min p.d q.d - max p.a q.a) * (min p.e q.e - max p.b q.b) * (min p.f q.f - max p.c q.c) := by
      rw [Bx.vol_ord inter_ord]
      unfold Bx.inter itB
      simp only [if_pos h]
    unfold neB at h
    have hn : neB q.a q.b q.c q.d q.e q.f := by unfold neB; omega
    have eq : q.vol = (q.d - q.a) * (q.e - q.b) * (q.f - q.c) := by unfold Bx.vol volB; exact if_pos hn
    rw [e, eq]
    have h1 : (min p.d q.d - max p.a q.a) * (min p.e q.e - max p.b q.b) ≤ (q.d - q.a) * (q.e - q.b) := Int.mul_le_mul (by omega) (by omega) (by omega) (by omega)
    exact Int.mul_le_mul h1 (by omega) (by omega) (Int.mul_nonneg (by omega) (by omega))
  · have e : (p.inter q).vol = 0 := by
      rw [Bx.vol_ord inter_ord]
      unfold Bx.inter itB
      simp only [if_neg h]
      rfl
    omega
theorem few_lsL {has : Int × Int × Int → Bool} {p : Bx} (h : p.vol ≤ 32768) : lsL has p = (cellsB p).filter has ∧ lsE has p = 0 := by
  have hl : ((cellsB p).filter has).length ≤ 32768 := by
    have := List.length_filter_le has (cellsB p)
    rw [cellsB_len] at this
    have := p.vol_nn
    omega
  unfold lsL lsE
  rw [if_pos hl, if_pos hl]
  exact ⟨rfl, rfl⟩
theorem mem_inter {p q : Bx} {has : Int × Int × Int → Bool} {x y z : Int} (h : (p.inter q).vol ≤ 32768) : (x, y, z) ∈ lsL has (p.inter q) ↔ (inB x y z p.a p.b p.c p.d p.e p.f ∧ inB x y z q.a q.b q.c q.d q.e q.f) ∧ has (x, y, z) = true := by
  rw [(few_lsL h).1, List.mem_filter, mem_cells]
  refine and_congr ?_ Iff.rfl
  exact in_inter
theorem b411g {l : List (Int × Int × Int)} {x y z : Int} : (Ff 411 [rowG enP l, xI x, xI y, xI z]).b = decide ((x, y, z) ∈ l) := by
  rw [F411, xB_b, lstX_rowG deP_enP]
  rfl
theorem b412g {l : List (Int × Int × Int)} : (Ff 412 [rowG enP l]).b = incB l := by
  rw [F412, xB_b, lstX_rowG deP_enP]
theorem ltP_irr (a : Int × Int × Int) : ltP a a = false := by
  unfold ltP
  simp only [Int.lt_irrefl, decide_false, Bool.and_false, Bool.or_false]
theorem cells_nd (p : Bx) : (cellsB p).Nodup := (cells_pw p).imp fun {a b} h e => by
  subst e
  rw [ltP_irr] at h
  cases h
/-- Where each that is not in has a partner that is: at least half are in. -/
theorem half_count {α : Type} {L : List α} {P : α → Bool} {R : α → α} (nd : L.Nodup) (hR : ∀ x ∈ L, R x ∈ L ∧ R (R x) = x) (h : ∀ x ∈ L, ¬ P x = true → P (R x) = true) : L.length ≤ 2 * (L.filter P).length := by
  have n1 : ((L.filter fun a => decide ¬ P a = true).map R).Nodup := by
    unfold List.Nodup
    rw [List.pairwise_map]
    refine List.Pairwise.imp_of_mem ?_ (nd.filter _)
    intro a b ha hb hab e
    have h1 := (hR a (List.mem_filter.1 ha).1).2
    have h2 := (hR b (List.mem_filter.1 hb).1).2
    rw [e, h2] at h1
    exact hab h1.symm
  have n2 : ((L.filter fun a => decide ¬ P a = true).map R) ⊆ L.filter P := fun y hy => by
    obtain ⟨x, hx, rfl⟩ := List.mem_map.1 hy
    obtain ⟨hx1, hx2⟩ := List.mem_filter.1 hx
    exact List.mem_filter.2 ⟨(hR x hx1).1, h x hx1 (of_decide_eq_true hx2)⟩
  have n3 := n1.length_le_of_subset n2
  rw [List.length_map] at n3
  have n4 := List.length_eq_countP_add_countP P (l := L)
  rw [List.countP_eq_length_filter, List.countP_eq_length_filter] at n4
  omega
end Vc
end Go.Proofs.YtipcadjfhndcnaaDoor
