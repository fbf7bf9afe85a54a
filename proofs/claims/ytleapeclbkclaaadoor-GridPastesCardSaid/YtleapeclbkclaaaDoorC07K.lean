/- Layer 7, plain: the differences of two grids, cell by cell. -/
import Derived.Test.YtleapeclbkclaaaDoorC07T
namespace Go.Proofs.YtleapeclbkclaaaDoor
namespace Vc
open Go Go.RowKit
set_option linter.unusedVariables false

theorem eqEl_C {a b c d e g h i j k : Int} {k0 k1 k2 k3 k4 : IntKind} (f : Int → Y) : eqEl [.int k0 a b, .int k1 c d, .int k2 e g, .int k3 h i, .int k4 j k] (enC (deC f)) f 0 := ⟨rfl, rfl, rfl, rfl, rfl, trivial⟩
def SDf : List Sk := [.int .i64 (-1048576) 3145724, PP21, PP21, .int .i64 0 255, .int .i64 0 255]
def clDf : Pth × TypeId × List Sk × Int := (.cell 4 0, 74, SDf, 2097152)
def cDif : RCtr := ⟨25, [RGw, RGw], .one (.row 74 SDf 2097152), some 711, 950⟩
def lpDif : List LSpec := [⟨[0, 59, 0], 20, [(.tmp 7, -1048575, 1048575)], [clDf], exs 14, 981, 981⟩,
  ⟨[2, 59, 0], 30, [(.tmp 8, -1048575, 1048575)], [clDf], exs 14 ++ [.tmp 7], 982, 982⟩,
  ⟨[0, 61, 59, 0], 40, [(.tmp 18, 0, 2097152)], [clDf], exs 14 ++ [.part 1 2, .part 1 1], 983, 983⟩]
section
variable {b b' : Bx} {cs cs' : List Int} {p q : Pt} {x y z : Int}
theorem flt2 {u v W s t : Int} (h : u < v) (hs : 0 ≤ s ∧ s < W) (ht : 0 ≤ t) : u * W + s < v * W + t := by
  have h1 := Int.mul_le_mul_of_nonneg_right (show u + 1 ≤ v from h) (show (0 : Int) ≤ W by omega)
  rw [Int.add_mul, Int.one_mul] at h1
  omega
theorem fm_congr {α : Type} {f g : Nat → Option α} : ∀ {n : Nat}, (∀ i, i < n → f i = g i) → (List.range n).filterMap f = (List.range n).filterMap g
  | 0, _ => rfl
  | n + 1, h => by
    rw [List.range_succ, List.filterMap_append, List.filterMap_append, fm_congr (n := n) fun i hi => h i (by omega)]
    simp only [List.filterMap_cons, List.filterMap_nil, h n (by omega)]
theorem fm_snoc {α : Type} {f g : Nat → Option α} {k : Nat} (h1 : ∀ i, i < k → g i = f i) (h2 : f k = none) : ∀ {n : Nat}, k < n → (∀ i, k < i → i < n → f i = none ∧ g i = none) → (List.range n).filterMap g = (List.range n).filterMap f ++ (g k).toList
  | n + 1, hk, h3 => by
    rw [List.range_succ, List.filterMap_append, List.filterMap_append]
    by_cases e : n = k
    · subst e
      rw [fm_congr h1]
      simp only [List.filterMap_cons, List.filterMap_nil, h2, List.append_nil]
      cases g n <;> rfl
    · rw [fm_snoc (n := n) h1 h2 (by omega) fun i hi hn => h3 i hi (by omega)]
      have h4 := h3 n (by omega) (by omega)
      simp only [List.filterMap_cons, List.filterMap_nil, h4.1, h4.2, List.append_nil]
theorem difP_out {i : Nat} (h : ¬ b'.has (b.at i) = true) : difP b cs b' cs' i = none := by
  unfold difP
  rw [if_neg (by rw [Bool.and_eq_true]; exact fun h' => h h'.1)]
theorem dif_congr {S T : Pt → Bool} (hv : b.vol = cs.length) (he : ∀ p, (b.int b').has p = true → S p = T p) : difS b cs b' cs' S = difS b cs b' cs' T := fm_congr fun i hi => by
  by_cases hb : b'.has (b.at i) = true
  · rw [he _ (int_has.2 ⟨at_has (by omega) (by omega), hb⟩)]
  · rw [difP_out hb]
    split <;> split <;> rfl
theorem dif_none : difS b cs b' cs' (fun _ => false) = [] := by
  unfold difS
  rw [List.filterMap_eq_nil_iff]
  exact fun _ _ => rfl
theorem dif_all : difS b cs b' cs' (fun _ => true) = difL b cs b' cs' := fm_congr fun _ _ => rfl
theorem dif_le {S : Pt → Bool} : (difS b cs b' cs' S).length ≤ cs.length := by
  have := List.length_filterMap_le (fun (i : Nat) => if S (b.at i) then difP b cs b' cs' i else none) (List.range cs.length)
  rw [List.length_range] at this
  exact this
theorem lex_idx (hp : b.has p = true) (hq : b.has q = true) (h : p.2.2 < q.2.2 ∨ (p.2.2 = q.2.2 ∧ (p.2.1 < q.2.1 ∨ (p.2.1 = q.2.1 ∧ p.1 < q.1)))) : b.idx p < b.idx q := by
  show idB b.a b.b b.c b.d b.e b.f p.1 p.2.1 p.2.2 < idB b.a b.b b.c b.d b.e b.f q.1 q.2.1 q.2.2
  rw [id_in (has_iff.1 hp), id_in (has_iff.1 hq)]
  have dp := has_def.1 hp
  have dq := has_def.1 hq
  have hr : (p.2.2 - b.c) * (b.e - b.b) + (p.2.1 - b.b) < (q.2.2 - b.c) * (b.e - b.b) + (q.2.1 - b.b) ∨ ((p.2.2 - b.c) * (b.e - b.b) + (p.2.1 - b.b) = (q.2.2 - b.c) * (b.e - b.b) + (q.2.1 - b.b) ∧ p.1 < q.1) := by
    rcases h with h | ⟨h1, h | ⟨h2, h3⟩⟩
    · exact .inl (flt2 (by omega) (by omega) (by omega))
    · rw [h1]
      exact .inl (by omega)
    · rw [h1, h2]
      exact .inr ⟨rfl, h3⟩
  rcases hr with h | ⟨h1, h2⟩
  · exact flt2 h (by omega) (by omega)
  · rw [h1]
    omega
/-- The cells ahead of one. -/
def sX (x y z : Int) (p : Pt) : Bool := decide (p.2.2 < z) || (decide (p.2.2 = z) && (decide (p.2.1 < y) || (decide (p.2.1 = y) && decide (p.1 < x))))
theorem row_ok {j : Int} (hz : (b.int b').c ≤ z ∧ z < (b.int b').f) (hy : (b.int b').b ≤ y ∧ y < (b.int b').e) (hj : 0 ≤ j ∧ j < (b.int b').d - (b.int b').a) :
    (b.int b').has ((b.int b').a + j, y, z) = true ∧ (b.idx ((b.int b').a + j, y, z) = b.idx ((b.int b').a, y, z) + j ∧ b'.idx ((b.int b').a + j, y, z) = b'.idx ((b.int b').a, y, z) + j) ∧
    (0 ≤ b.idx ((b.int b').a, y, z) + j ∧ b.idx ((b.int b').a, y, z) + j < b.vol) ∧ (0 ≤ b'.idx ((b.int b').a, y, z) + j ∧ b'.idx ((b.int b').a, y, z) + j < b'.vol) := by
  have hP : (b.int b').has ((b.int b').a + j, y, z) = true := has_def.2 (by simp only; omega)
  have hP0 : (b.int b').has ((b.int b').a, y, z) = true := has_def.2 (by simp only; omega)
  have h0 := int_has.1 hP0
  have h1 := int_has.1 hP
  have e := idx_row h0.1 h1.1
  have e' := idx_row h0.2 h1.2
  have k := idx_ok h1.1
  have k' := idx_ok h1.2
  exact ⟨hP, ⟨e, e'⟩, by omega, by omega⟩
/-- One cell more. -/
theorem dif_step (hv : b.vol = cs.length) (hp : (b.int b').has (x, y, z) = true) :
    difS b cs b' cs' (sX (x + 1) y z) = difS b cs b' cs' (sX x y z) ++ (if cs.getD (b.idx (x, y, z)).toNat 0 = cs'.getD (b'.idx (x, y, z)).toNat 0 then [] else [((x, y, z), cs.getD (b.idx (x, y, z)).toNat 0, cs'.getD (b'.idx (x, y, z)).toNat 0)]) := by
  obtain ⟨h1, h2⟩ := int_has.1 hp
  have hk := idx_ok h1
  have hk' := idx_ok h2
  have ek : b.at ((b.idx (x, y, z)).toNat : Nat) = (x, y, z) := by rw [Int.toNat_of_nonneg hk.1, at_idx h1]
  have hsn := fm_snoc (f := fun (i : Nat) => if sX x y z (b.at i) then difP b cs b' cs' i else none) (g := fun (i : Nat) => if sX (x + 1) y z (b.at i) then difP b cs b' cs' i else none) (k := (b.idx (x, y, z)).toNat) (n := cs.length)
    (fun i hi => by
      have hb : b.has (b.at i) = true := at_has (by omega) (by omega)
      have hid := idx_at (b := b) (i := (i : Int)) (by omega) (by omega)
      have e : sX (x + 1) y z (b.at i) = sX x y z (b.at i) := by
        unfold sX
        rw [Bool.eq_iff_iff]
        simp only [Bool.or_eq_true, Bool.and_eq_true, decide_eq_true_eq]
        have hl : ¬ (z < (b.at i).2.2 ∨ (z = (b.at i).2.2 ∧ (y < (b.at i).2.1 ∨ (y = (b.at i).2.1 ∧ x < (b.at i).1)))) := fun h => by
          have := lex_idx (q := b.at i) h1 hb h
          omega
        have ne : ¬ ((b.at i).1 = x ∧ (b.at i).2.1 = y ∧ (b.at i).2.2 = z) := fun h => by
          have e : b.at i = (x, y, z) := Prod.ext h.1 (Prod.ext h.2.1 h.2.2)
          rw [e] at hid
          omega
        omega
      show (if sX (x + 1) y z (b.at i) then _ else _) = (if sX x y z (b.at i) then _ else _)
      rw [e])
    (by
      show (if sX x y z (b.at ((b.idx (x, y, z)).toNat : Nat)) then _ else _) = _
      rw [ek, if_neg]
      unfold sX
      simp only [Bool.or_eq_true, Bool.and_eq_true, decide_eq_true_eq]
      omega)
    (by omega)
    (fun i hi hn => by
      have hb : b.has (b.at i) = true := at_has (by omega) (by omega)
      have hid := idx_at (b := b) (i := (i : Int)) (by omega) (by omega)
      have hl : ¬ ((b.at i).2.2 < z ∨ ((b.at i).2.2 = z ∧ ((b.at i).2.1 < y ∨ ((b.at i).2.1 = y ∧ (b.at i).1 < x)))) := fun h => by
        have := lex_idx (p := b.at i) hb h1 h
        omega
      have ne : b.at i ≠ (x, y, z) := fun e => by
        rw [e] at hid
        omega
      have ne' : ¬ ((b.at i).1 = x ∧ (b.at i).2.1 = y ∧ (b.at i).2.2 = z) := fun h => ne (Prod.ext h.1 (Prod.ext h.2.1 h.2.2))
      have e1 : ¬ sX x y z (b.at i) = true := by
        unfold sX
        simp only [Bool.or_eq_true, Bool.and_eq_true, decide_eq_true_eq]
        omega
      have e2 : ¬ sX (x + 1) y z (b.at i) = true := by
        unfold sX
        simp only [Bool.or_eq_true, Bool.and_eq_true, decide_eq_true_eq]
        omega
      exact ⟨if_neg e1, if_neg e2⟩)
  refine hsn.trans (congrArg _ ?_)
  show (if sX (x + 1) y z (b.at ((b.idx (x, y, z)).toNat : Nat)) then difP b cs b' cs' (b.idx (x, y, z)).toNat else none).toList = _
  rw [ek, if_pos (by
    unfold sX
    simp only [Bool.or_eq_true, Bool.and_eq_true, decide_eq_true_eq]
    exact .inr ⟨trivial, .inr ⟨trivial, show x < x + 1 by omega⟩⟩)]
  unfold difP
  rw [ek]
  have eg : getL b' cs' (x, y, z) = cs'.getD (b'.idx (x, y, z)).toNat 0 := if_pos hk'.1
  rw [eg, h2, Bool.true_and]
  by_cases e : cs.getD (b.idx (x, y, z)).toNat 0 = cs'.getD (b'.idx (x, y, z)).toNat 0
  · rw [if_pos e, decide_eq_true e.symm]
    rfl
  · rw [if_neg e, decide_eq_false (fun h => e h.symm)]
    rfl
end
end Vc
end Go.Proofs.YtleapeclbkclaaaDoor
