/- Layer 41, plain: lists of boxes. -/
import Derived.Test.YtokicaoapclicaaC41C
import Derived.Test.YtokicaoapclicaaC07L
namespace Go.Proofs.Ytokicaoapclicaa
namespace Vc
open Go Go.RowKit
set_option linter.unusedVariables false

section
variable (l a b c d e f x n k m : X) (r : List X)
theorem b600 : (Ff 600 [l]).b = true ↔ nearL (lstX deX l) = true := Iff.rfl
theorem b601 : (Ff 601 [l, a, b, c, d, e, f]).b = true ↔ ovB (lstX deX l) ⟨a.i, b.i, c.i, d.i, e.i, f.i⟩ = true := Iff.rfl
theorem F601 : Ff 601 [l, a, b, c, d, e, f] = xB (ovB (lstX deX l) ⟨a.i, b.i, c.i, d.i, e.i, f.i⟩) := rfl
theorem F602 : Ff 602 [l, a, b, c, d, e, f, x, n] = xI (slB (lstX deX l) ⟨a.i, b.i, c.i, d.i, e.i, f.i⟩ x.i n.i) := rfl
theorem P610 : Px 610 (l :: r) = (nearL (lstX deX l) = true) := rfl
theorem P620 : Px 620 [l, k] = (0 ≤ k.i ∧ k.i ≤ l.i ∧ ((lstX deX l).take k.i.toNat).all nearX = true) := rfl
theorem P621 : Px 621 [l, a, b, c, d, e, f, k] = (0 ≤ k.i ∧ k.i ≤ l.i ∧ ovB ((lstX deX l).take k.i.toNat) ⟨a.i, b.i, c.i, d.i, e.i, f.i⟩ = false) := rfl
end
theorem f604 (a b c d e f x n : X) : (Ff 604 [a, b, c, d, e, f, x, n]).i = (mvB (bxX a b c d e f) x.i n.i).a := rfl
theorem f605 (a b c d e f x n : X) : (Ff 605 [a, b, c, d, e, f, x, n]).i = (mvB (bxX a b c d e f) x.i n.i).b := rfl
theorem f606 (a b c d e f x n : X) : (Ff 606 [a, b, c, d, e, f, x, n]).i = (mvB (bxX a b c d e f) x.i n.i).c := rfl
theorem f607 (a b c d e f x n : X) : (Ff 607 [a, b, c, d, e, f, x, n]).i = (mvB (bxX a b c d e f) x.i n.i).d := rfl
theorem f608 (a b c d e f x n : X) : (Ff 608 [a, b, c, d, e, f, x, n]).i = (mvB (bxX a b c d e f) x.i n.i).e := rfl
theorem f609 (a b c d e f x n : X) : (Ff 609 [a, b, c, d, e, f, x, n]).i = (mvB (bxX a b c d e f) x.i n.i).f := rfl
theorem nearC_iff {n : Int} : nearC n = true ↔ -1000 ≤ n ∧ n ≤ 1000 := by
  unfold nearC
  rw [Bool.and_eq_true, decide_eq_true_eq, decide_eq_true_eq]
theorem nearX_iff {p : Bx} : nearX p = true ↔ (-1000 ≤ p.a ∧ p.a ≤ 1000) ∧ (-1000 ≤ p.b ∧ p.b ≤ 1000) ∧ (-1000 ≤ p.c ∧ p.c ≤ 1000) ∧ (-1000 ≤ p.d ∧ p.d ≤ 1000) ∧ (-1000 ≤ p.e ∧ p.e ≤ 1000) ∧ (-1000 ≤ p.f ∧ p.f ≤ 1000) := by
  unfold nearX
  simp only [Bool.and_eq_true, nearC_iff, and_assoc]
theorem meetB_iff {p q : Bx} : meetB p q = true ↔ max p.a q.a < min p.d q.d ∧ max p.b q.b < min p.e q.e ∧ max p.c q.c < min p.f q.f := by
  unfold meetB
  simp only [Bool.and_eq_true, decide_eq_true_eq]
theorem all_step {l : X} {k : Int} (h0 : 0 ≤ k) (h1 : k < l.i) : ((lstX deX l).take (k + 1).toNat).all nearX = (((lstX deX l).take k.toNat).all nearX && nearX (deX (l.r k))) := by
  rw [lx_take h0 h1, List.all_append]
  simp
theorem ov_step {l : X} {k : Int} {q : Bx} (h0 : 0 ≤ k) (h1 : k < l.i) : ovB ((lstX deX l).take (k + 1).toNat) q = (ovB ((lstX deX l).take k.toNat) q || meetB (deX (l.r k)) q) := by
  unfold ovB
  rw [lx_take h0 h1, List.any_append]
  simp
theorem ov_one {l : X} {k : Int} {q : Bx} (h0 : 0 ≤ k) (h1 : k < l.i) (h : meetB (deX (l.r k)) q = true) : ovB (lstX deX l) q = true := List.any_eq_true.2 ⟨_, lx_mem h0 h1, h⟩
theorem near_len {l : X} (h0 : 0 ≤ l.i) (h : nearL (lstX deX l) = true) : l.i ≤ 40 := by
  unfold nearL at h
  rw [Bool.and_eq_true, decide_eq_true_eq, lstX_len] at h
  omega
theorem near_at {l : X} {k : Int} (h : nearL (lstX deX l) = true) (h0 : 0 ≤ k) (h1 : k < l.i) : nearX (deX (l.r k)) = true := by
  unfold nearL at h
  rw [Bool.and_eq_true] at h
  exact List.all_eq_true.1 h.2 _ (lx_mem h0 h1)
def S1k : Sk := .int .i64 (-1000) 1000
def S6n : List Sk := [S1k, S1k, S1k, S1k, S1k, S1k]
def RLn : RSh := .one (.row S6n 40)
theorem near_row {l : X} (h : nearL (lstX deX l) = true) : RowOk S6n l.r l.i.toNat := fun i hi => by
  have := nearX_iff.1 (near_at (k := i) h (by omega) (by omega))
  unfold deX at this
  simp only at this
  exact ⟨this.1, this.2.1, this.2.2.1, this.2.2.2.1, this.2.2.2.2.1, this.2.2.2.2.2, trivial⟩
theorem near_rsh {rest : List RSh} (ds : Ds) (h : rshX (RL :: rest) ds) (hp : Px 610 ds) : rshX (RLn :: rest) ds := by
  match ds, h, hp with
  | d :: r, h, hp =>
    have hp : nearL (lstX deX d) = true := hp
    exact ⟨⟨h.1.1, near_len h.1.1 hp, near_row hp⟩, h.2⟩
theorem m650a (l k : X) : (Ff 650 [l, k]).i = l.i + 1 - k.i := rfl
theorem m650b (l a b c d e f k : X) : (Ff 650 [l, a, b, c, d, e, f, k]).i = l.i + 1 - k.i := rfl
theorem vol_meet {p q : Bx} : 0 < volB (itB p.a p.b p.c p.d p.e p.f q.a q.b q.c q.d q.e q.f (max p.a q.a)) (itB p.a p.b p.c p.d p.e p.f q.a q.b q.c q.d q.e q.f (max p.b q.b)) (itB p.a p.b p.c p.d p.e p.f q.a q.b q.c q.d q.e q.f (max p.c q.c)) (itB p.a p.b p.c p.d p.e p.f q.a q.b q.c q.d q.e q.f (min p.d q.d)) (itB p.a p.b p.c p.d p.e p.f q.a q.b q.c q.d q.e q.f (min p.e q.e)) (itB p.a p.b p.c p.d p.e p.f q.a q.b q.c q.d q.e q.f (min p.f q.f)) ↔ meetB p q = true := by
  rw [meetB_iff]
  by_cases h : neB (max p.a q.a) (max p.b q.b) (max p.c q.c) (min p.d q.d) (min p.e q.e) (min p.f q.f)
  · unfold itB
    simp only [if_pos h]
    rw [vol_ne h]
    unfold neB at h
    exact iff_of_true (Int.mul_pos (Int.mul_pos (by omega) (by omega)) (by omega)) h
  · unfold itB
    simp only [if_neg h]
    unfold neB at h
    exact iff_of_false (by decide) h
/-- One box more, and none that meets. -/
theorem ov_next {l : X} {k : Int} {q : Bx} (h0 : 0 ≤ k) (h1 : k < l.i) (h : ovB ((lstX deX l).take k.toNat) q = false) (hn : ¬ meetB (deX (l.r k)) q = true) : (0 ≤ k + 1 ∧ k + 1 ≤ l.i ∧ ovB ((lstX deX l).take (k + 1).toNat) q = false) ∧ l.i + 1 - (k + 1) < l.i + 1 - k ∧ 0 < l.i + 1 - k := by
  refine ⟨⟨by omega, by omega, ?_⟩, by omega, by omega⟩
  rw [ov_step h0 h1, h, Bool.false_or]
  exact Bool.eq_false_iff.2 hn
theorem few_iff {g : Gr} : fewG g = true ↔ nearX g.bx = true ∧ g.bx.vol = g.cs.length ∧ g.cs.length ≤ 600 := by
  unfold fewG
  simp only [Bool.and_eq_true, decide_eq_true_eq, and_assoc]
theorem few_rsh (ds : Ds) (h : rshX [RGw, RMt] ds) (hp : Px 611 ds) : rshX shBx ds := by
  have h' := rshX_flat h
  match ds, h', h, hp with
  | [a, b, c, d, e, f, l, t], h', h, hp =>
    have hp : fewG (grX a b c d e f l) = true := hp
    obtain ⟨h1, h2, h3⟩ := few_iff.1 hp
    have h1 := nearX_iff.1 h1
    unfold grX bxX at h1 h3
    simp only [lstX_len] at h1 h3
    obtain ⟨e0, e1, e2, e3, e4, e5, e6, e7, _⟩ := h'
    refine ⟨⟨⟨e0.1, h1.1⟩, ⟨e1.1, h1.2.1⟩, ⟨e2.1, h1.2.2.1⟩, ⟨e3.1, h1.2.2.2.1⟩, ⟨e4.1, h1.2.2.2.2.1⟩, ⟨e5.1, h1.2.2.2.2.2⟩, ⟨e6.1, by have := e6.1; omega, e6.2.2⟩, trivial⟩, by simp, ?_⟩
    exact ⟨e7, rfl⟩
def shOvlR : List RSh := [RLn, R6O]
def shSl : List RSh := [RLn, R6B, .one K64, .one KD]
end Vc
end Go.Proofs.Ytokicaoapclicaa
