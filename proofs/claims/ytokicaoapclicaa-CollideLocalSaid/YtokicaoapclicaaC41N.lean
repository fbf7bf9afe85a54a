/- Layer 41, plain: a grid's solid cells in boxes. -/
import Derived.Test.YtokicaoapclicaaC07L
import Derived.Test.YtokicaoapclicaaC41L
namespace Go.Proofs.Ytokicaoapclicaa
namespace Vc
open Go Go.RowKit
set_option linter.unusedVariables false

section
variable {g x : Bx} {op : List Bool} {k : Nat}
theorem opn_iff {p : Pt} : opnB g op p = true ↔ g.has p = true ∧ op.getD (g.idx p).toNat false = true := by
  unfold opnB
  rw [Bool.and_eq_true, decide_eq_true_eq, idx_has]
theorem all_iff : allB g op x = true ↔ ∀ j : Nat, (j : Int) < x.vol → opnB g op (x.at j) = true := by
  unfold allB
  rw [List.all_eq_true]
  have hv : 0 ≤ x.vol := vol_nn
  constructor
  · intro h j hj
    exact h j (List.mem_range.2 (by omega))
  · intro h j hj
    have := List.mem_range.1 hj
    exact h j (by omega)
/-- All cells of a box are open, cell by cell. -/
theorem all_cell (h : allB g op x = true) {p : Pt} (hp : x.has p = true) : opnB g op p = true := by
  have h1 := idx_ok hp
  have := all_iff.1 h (x.idx p).toNat (by omega)
  rw [Int.toNat_of_nonneg h1.1, at_idx hp] at this
  exact this
theorem ins_ne (h : insX g x) : x.a < x.d ∧ x.b < x.e ∧ x.c < x.f := by unfold insX at h; omega
theorem ins_has (h : insX g x) {p : Pt} (hp : x.has p = true) : g.has p = true := by
  unfold insX at h
  rw [has_def] at hp ⊢
  omega
theorem lay_ne (h : insX g x) : (x.lay k).a < (x.lay k).d ∧ (x.lay k).b < (x.lay k).e ∧ (x.lay k).c < (x.lay k).f := by
  unfold insX at h
  rcases k with _ | _ | k <;> simp only [Bx.lay] <;> omega
theorem lay_ins (h : insX g x) (ha : allB g op (x.lay k) = true) : insX g (x.inc k) := by
  have h0 := lay_ne (k := k) h
  have h1 := all_iff.1 ha 0 (vol_pos' h0)
  have h2 := (opn_iff.1 h1).1
  rw [show ((0 : Nat) : Int) = 0 from rfl, at_zero h0, has_def] at h2
  unfold insX at h ⊢
  rcases k with _ | _ | k <;> simp only [Bx.lay, Bx.inc] at h2 ⊢ <;> omega
theorem grow_step (h : insX g x) : growU g op k x = if allB g op (x.lay k) then growU g op k (x.inc k) else x := by
  have hr : g.room x k = g.room (x.inc k) k + 1 := by
    unfold insX at h
    rcases k with _ | _ | k <;> simp only [Bx.room, Bx.inc] <;> omega
  unfold growU
  rw [hr]
  rfl
theorem grow_go (h : insX g x) (ha : allB g op (x.lay k) = true) : growU g op k (x.inc k) = growU g op k x := by
  rw [grow_step h, if_pos ha]
theorem grow_stop (h : insX g x) (ha : ¬ allB g op (x.lay k) = true) : growU g op k x = x := by
  rw [grow_step h, if_neg ha]
/-- What is kept while a box grows. -/
theorem growF_keeps {I : Bx → Prop} (hI : ∀ x, I x → allB g op (x.lay k) = true → I (x.inc k)) : ∀ (n : Nat) (x : Bx), I x → I (growF g op k n x)
  | 0, _, h => h
  | n + 1, x, h => by
    unfold growF
    split
    · rename_i ha
      exact growF_keeps hI n _ (hI x h ha)
    · exact h
theorem grow_ins (h : insX g x) : insX g (growU g op k x) := growF_keeps (I := insX g) (fun _ h ha => lay_ins h ha) _ _ h
theorem inc_all (h : allB g op x = true) (ha : allB g op (x.lay k) = true) (hx : insX g x) : allB g op (x.inc k) = true := by
  rw [all_iff]
  intro j hj
  have hp := at_has (b := x.inc k) (i := j) (by omega) hj
  have hs : x.has ((x.inc k).at j) = true ∨ (x.lay k).has ((x.inc k).at j) = true := by
    generalize (x.inc k).at j = p at *
    simp only [has_def] at hp ⊢
    rcases k with _ | _ | k <;> simp only [Bx.lay, Bx.inc] at hp ⊢ <;> omega
  rcases hs with hs | hs
  · exact all_cell h hs
  · exact all_cell ha hs
theorem grow_all (h : allB g op x = true) (hx : insX g x) : allB g op (growU g op k x) = true :=
  (growF_keeps (I := fun x => insX g x ∧ allB g op x = true) (fun _ h ha => ⟨lay_ins h.1 ha, inc_all h.2 ha h.1⟩) _ _ ⟨hx, h⟩).2
theorem growV_ins (h : insX g x) : insX g (growV g op x) := grow_ins (grow_ins (grow_ins h))
theorem growV_all (h : allB g op x = true) (hx : insX g x) : allB g op (growV g op x) = true := grow_all (grow_all (grow_all h hx) (grow_ins hx)) (grow_ins (grow_ins hx))
theorem mark_succ {n : Nat} : markF g x (n + 1) op = (markF g x n op).set (g.idx (x.at n)).toNat false := rfl
theorem mark_len : ∀ n, (markF g x n op).length = op.length
  | 0 => rfl
  | n + 1 => by
    unfold markF
    rw [List.length_set, mark_len n]
/-- A cell is open behind the marks if it was and is none of those. -/
theorem mark_get (hx : insX g x) (ho : (op.length : Int) = g.vol) : ∀ (n : Nat) (j : Nat), (n : Int) ≤ x.vol → ((markF g x n op).getD j false = true ↔ op.getD j false = true ∧ ∀ i : Nat, i < n → g.idx (x.at i) ≠ j)
  | 0, j, _ => ⟨fun h => ⟨h, fun i hi => by omega⟩, fun h => h.1⟩
  | n + 1, j, hn => by
    have hh := ins_has hx (at_has (b := x) (i := n) (by omega) (by omega))
    have hk := idx_ok hh
    unfold markF
    rw [getD_set, mark_len]
    by_cases hj : (g.idx (x.at n)).toNat = j
    · rw [if_pos ⟨hj, by omega⟩]
      refine iff_of_false Bool.false_ne_true fun h => h.2 n (by omega) (by omega)
    · rw [if_neg (fun h => hj h.1), mark_get hx ho n j (by omega)]
      refine ⟨fun h => ⟨h.1, fun i hi => ?_⟩, fun h => ⟨h.1, fun i hi => h.2 i (by omega)⟩⟩
      by_cases hin : i = n
      · subst hin
        intro e
        omega
      · exact h.2 i (by omega)
theorem run_len {op : List Bool} : ∀ n, (runV g op n).1.length = op.length
  | 0 => rfl
  | n + 1 => by
    show (stepV g (runV g op n) n).1.length = _
    unfold stepV
    split
    · rw [mark_len, run_len n]
    · exact run_len n
theorem run_out {op : List Bool} : ∀ n, (runV g op n).2.length ≤ n
  | 0 => Nat.le_refl _
  | n + 1 => by
    show (stepV g (runV g op n) n).2.length ≤ _
    have := run_out (op := op) n
    unfold stepV
    split
    · rw [List.length_append, List.length_singleton]
      omega
    · omega
theorem run_skip {op : List Bool} {n : Nat} (h : (runV g op n).1.getD n false = false) : runV g op (n + 1) = runV g op n := by
  show stepV g (runV g op n) n = _
  unfold stepV
  rw [if_neg (by rw [h]; exact Bool.false_ne_true)]
theorem run_take {op : List Bool} {n : Nat} (h : (runV g op n).1.getD n false = true) : runV g op (n + 1) = (markF g (growV g (runV g op n).1 (cellX (g.at n))) (growV g (runV g op n).1 (cellX (g.at n))).vol.toNat (runV g op n).1, (runV g op n).2 ++ [growV g (runV g op n).1 (cellX (g.at n))]) := by
  show stepV g (runV g op n) n = _
  unfold stepV
  rw [if_pos h]
theorem cell_ins {p : Pt} (h : g.has p = true) : insX g (cellX p) := by
  rw [has_def] at h
  unfold insX cellX
  simp only
  omega
theorem cell_has {p q : Pt} : (cellX p).has q = true ↔ q = p := by
  rw [has_def]
  unfold cellX
  simp only
  constructor
  · intro h
    exact Prod.ext (by omega) (Prod.ext (by omega) (by omega))
  · rintro rfl
    omega
end
/-! ### What the walk owes -/
abbrev bxI (a b c d e f : Int) : Bx := bxX (xI a) (xI b) (xI c) (xI d) (xI e) (xI f)
section
variable {a b c d e f l t i o u k v : X}
theorem m653 (a b c d e f l t i o : X) : (Ff 653 [a, b, c, d, e, f, l, t, i, o]).i = l.i + 1 - i.i := rfl
theorem m654 (a b c d e f l t i o u : X) : (Ff 654 [a, b, c, d, e, f, l, t, i, o, u]).i = l.i + 1 - i.i := rfl
theorem m655 (a b c d e f o k xa xb xc sd se sf xd xe xf : X) : (Ff 655 [a, b, c, d, e, f, o, k, xa, xb, xc, sd, se, sf, xd, xe, xf]).i = d.i - xd.i + (e.i - xe.i) + (f.i - xf.i) + 1 := rfl
theorem m656 (a b c d e f xa xb xc xd xe xf o0 i o : X) : (Ff 656 [a, b, c, d, e, f, xa, xb, xc, xd, xe, xf, o0, i, o]).i = (bxX xa xb xc xd xe xf).vol + 1 - i.i := rfl
theorem m657 (a b c d e f xa xb xc xd xe xf o i : X) : (Ff 657 [a, b, c, d, e, f, xa, xb, xc, xd, xe, xf, o, i]).i = (bxX xa xb xc xd xe xf).vol + 1 - i.i := rfl
theorem sol_off {n : Int} (h : n < 0 ∨ t.i ≤ n) : solX t n = false := by
  unfold solX
  by_cases h1 : 0 ≤ n
  · have h2 : ¬ n < t.i := by omega
    simp [h2]
  · simp [h1]
theorem sol_on {n : Int} (h : ¬ (n < 0 ∨ t.i ≤ n)) : solX t n = (t.r n 1).b := by
  unfold solX
  have h1 : 0 ≤ n := by omega
  have h2 : n < t.i := by omega
  simp [h1, h2]
theorem q630_0 (h : 0 ≤ l.i) : Px 630 [a, b, c, d, e, f, l, t, xI 0, mkX (rwRep [xB false]) l.i] := ⟨Int.le_refl _, h, rfl, fun k hk => by
  have hk : (k : Int) < 0 := hk
  omega⟩
theorem q630_s (h : Px 630 [a, b, c, d, e, f, l, t, i, o]) (hi : i.i < l.i) (hv : v.b = solX t (l.r i.i 0).i) : Px 630 [a, b, c, d, e, f, l, t, xI (i.i + 1), mkX (rwSet o.r i.i 0 v) o.i] := by
  obtain ⟨h1, h2, h3, h4⟩ := h
  refine ⟨?_, ?_, h3, fun k hk => ?_⟩
  · show 0 ≤ i.i + 1
    omega
  · show i.i + 1 ≤ l.i
    omega
  · have hk : (k : Int) < i.i + 1 := hk
    show (rwSet o.r i.i 0 v k 0).b = _
    unfold rwSet
    by_cases he : (k : Int) = i.i
    · rw [if_pos ⟨he, rfl⟩, he]
      exact hv
    · rw [if_neg (fun x => he x.1)]
      exact h4 k (by omega)
theorem sol_len : (solL (lstX deI l) t).length = l.i.toNat := by
  unfold solL
  rw [List.length_map, lstX_len]
theorem q631_0 (h : Px 630 [a, b, c, d, e, f, l, t, i, o]) (hi : ¬ i.i < l.i) : Px 631 [a, b, c, d, e, f, l, t, xI 0, o, mkX (rwTab 1 []) 0] := by
  obtain ⟨h1, h2, h3, h4⟩ := h
  refine ⟨Int.le_refl _, (show (0 : Int) ≤ l.i by omega), ?_⟩
  show (lstX deB o, lstX deX (mkX (rwTab 1 []) 0)) = (solL (lstX deI l) t, [])
  rw [lstX_nil]
  refine Prod.ext (ext_getD false ?_ fun k hk => ?_) rfl
  · show (lstX deB o).length = (solL (lstX deI l) t).length
    rw [lstX_len, sol_len, h3]
  · have hk : k < (lstX deB o).length := hk
    rw [lstX_len] at hk
    show (lstX deB o).getD k false = (solL (lstX deI l) t).getD k false
    rw [lxB_getD (o := o) (k := k) (by omega), h4 k (by omega)]
    unfold solL
    rw [List.getD_eq_getElem?_getD, List.getElem?_map, lstX_get (by omega)]
    rfl
theorem q631_len (h : Px 631 [a, b, c, d, e, f, l, t, k, o, u]) (h0 : 0 ≤ l.i) (h1 : 0 ≤ o.i) : o.i = l.i := by
  obtain ⟨_, _, h⟩ := h
  have := congrArg (fun x => x.1.length) h
  simp only [run_len, lstX_len, sol_len] at this
  omega
theorem q631_out (h : Px 631 [a, b, c, d, e, f, l, t, k, o, u]) (h1 : 0 ≤ u.i) : u.i ≤ k.i := by
  obtain ⟨h0, _, h⟩ := h
  have := congrArg (fun x => x.2.length) h
  simp only [lstX_len] at this
  have h2 := run_out (g := bxX a b c d e f) (op := solL (lstX deI l) t) k.i.toNat
  omega
theorem q631_skip (h : Px 631 [a, b, c, d, e, f, l, t, k, o, u]) (ho : o.i = l.i) (hk : k.i < l.i) (hb : ¬ (o.r k.i 0).b = true) : Px 631 [a, b, c, d, e, f, l, t, xI (k.i + 1), o, u] := by
  obtain ⟨h1, h2, h⟩ := h
  refine ⟨?_, ?_, ?_⟩
  · show 0 ≤ k.i + 1
    omega
  · show k.i + 1 ≤ l.i
    omega
  · show _ = runV _ _ (k.i + 1).toNat
    rw [show (k.i + 1).toNat = k.i.toNat + 1 by omega, run_skip, h]
    rw [← h]
    show (lstX deB o).getD k.i.toNat false = false
    rw [lxB_at h1 (by omega)]
    exact Bool.eq_false_iff.2 hb
theorem q631_take {o' A B C D E F : X} (h : Px 631 [a, b, c, d, e, f, l, t, k, o, u]) (ho : o.i = l.i) (hk : k.i < l.i) (h0 : 0 ≤ u.i) (hb : (o.r k.i 0).b = true)
    (hx : bxX A B C D E F = growV (bxX a b c d e f) (lstX deB o) (cellX ((bxX a b c d e f).at k.i)))
    (hm : lstX deB o' = markF (bxX a b c d e f) (bxX A B C D E F) (bxX A B C D E F).vol.toNat (lstX deB o)) : Px 631 [a, b, c, d, e, f, l, t, xI (k.i + 1), o', mkX (rwCat u.r u.i (rwTab 6 [A, B, C, D, E, F])) (u.i + 1)] := by
  obtain ⟨h1, h2, h⟩ := h
  refine ⟨?_, ?_, ?_⟩
  · show 0 ≤ k.i + 1
    omega
  · show k.i + 1 ≤ l.i
    omega
  · show (lstX deB o', lstX deX (mkX (rwCat u.r u.i (rwTab 6 [A, B, C, D, E, F])) (u.i + 1))) = runV _ _ (k.i + 1).toNat
    have hn : ((k.i.toNat : Nat) : Int) = k.i := Int.toNat_of_nonneg h1
    rw [show (k.i + 1).toNat = k.i.toNat + 1 by omega, run_take, lstX_push h0]
    · rw [← h]
      show _ = (markF _ (growV _ (lstX deB o) _) _ (lstX deB o), lstX deX u ++ _)
      rw [hn, ← hx, hm]
      rfl
    · rw [← h]
      show (lstX deB o).getD k.i.toNat false = true
      rw [lxB_at h1 (by omega)]
      exact hb
theorem opn_x {g : Bx} {p : Pt} (ho : o.i = g.vol) : opnB g (lstX deB o) p = true ↔ ¬ (g.idx p < 0 ∨ ¬ (o.r (g.idx p) 0).b = true) := by
  rw [opn_iff]
  by_cases h : g.has p = true
  · have h1 := idx_ok h
    rw [lxB_at h1.1 (by omega)]
    refine ⟨fun x y => ?_, fun x => ⟨h, Decidable.byContradiction fun y => x (.inr y)⟩⟩
    rcases y with y | y
    · omega
    · exact y x.2
  · rw [idx_out h]
    exact ⟨fun x => absurd x.1 h, fun x => absurd (.inl (by omega)) x⟩
theorem idx_lt_x {g : Bx} {p : Pt} {n : Int} (h : ¬ g.idx p < 0) (hn : n = g.vol) : g.idx p < n := by
  have := idx_ok (idx_has.1 (show 0 ≤ g.idx p by omega))
  omega
theorem q632_s {g X X0 : Bx} {op : List Bool} {k : Nat} (h : growU g op k X = growU g op k X0 ∧ insX g X) (ha : allB g op (X.lay k) = true) : growU g op k (X.inc k) = growU g op k X0 ∧ insX g (X.inc k) := ⟨(grow_go h.2 ha).trans h.1, lay_ins h.2 ha⟩
theorem q632_e {g X X0 : Bx} {op : List Bool} {k : Nat} (h : growU g op k X = growU g op k X0 ∧ insX g X) (ha : ¬ allB g op (X.lay k) = true) : X = growU g op k X0 := (grow_stop h.2 ha).symm.trans h.1
section
variable {xa xb xc xd xe xf : X}
theorem q634_0 : Px 634 [a, b, c, d, e, f, xa, xb, xc, xd, xe, xf, o, xI 0] := ⟨Int.le_refl _, vol_nn, fun j hj => by
  have hj : (j : Int) < 0 := hj
  omega⟩
theorem q634_s (h : Px 634 [a, b, c, d, e, f, xa, xb, xc, xd, xe, xf, o, i]) (hi : i.i < (bxX xa xb xc xd xe xf).vol) (ho : o.i = (bxX a b c d e f).vol)
    (hn : ¬ ((bxX a b c d e f).idx ((bxX xa xb xc xd xe xf).at i.i) < 0 ∨ ¬ (o.r ((bxX a b c d e f).idx ((bxX xa xb xc xd xe xf).at i.i)) 0).b = true)) : Px 634 [a, b, c, d, e, f, xa, xb, xc, xd, xe, xf, o, xI (i.i + 1)] := by
  obtain ⟨h1, h2, h3⟩ := h
  refine ⟨?_, ?_, fun j hj => ?_⟩
  · show 0 ≤ i.i + 1
    omega
  · show i.i + 1 ≤ _
    omega
  · have hj : (j : Int) < i.i + 1 := hj
    by_cases he : (j : Int) = i.i
    · rw [he]
      exact (opn_x ho).2 hn
    · exact h3 j (by omega)
theorem q634_e (h : Px 634 [a, b, c, d, e, f, xa, xb, xc, xd, xe, xf, o, i]) (hi : ¬ i.i < (bxX xa xb xc xd xe xf).vol) : allB (bxX a b c d e f) (lstX deB o) (bxX xa xb xc xd xe xf) = true := by
  obtain ⟨h1, h2, h3⟩ := h
  exact all_iff.2 fun j hj => h3 j (by omega)
theorem q634_n (h : Px 634 [a, b, c, d, e, f, xa, xb, xc, xd, xe, xf, o, i]) (hi : i.i < (bxX xa xb xc xd xe xf).vol) (ho : o.i = (bxX a b c d e f).vol)
    (hn : (bxX a b c d e f).idx ((bxX xa xb xc xd xe xf).at i.i) < 0 ∨ ¬ (o.r ((bxX a b c d e f).idx ((bxX xa xb xc xd xe xf).at i.i)) 0).b = true) : ¬ allB (bxX a b c d e f) (lstX deB o) (bxX xa xb xc xd xe xf) = true := fun h' => by
  obtain ⟨h1, h2, h3⟩ := h
  have := all_iff.1 h' i.i.toNat (by omega)
  rw [Int.toNat_of_nonneg h1] at this
  exact (opn_x ho).1 this hn
theorem q633_0 : Px 633 [a, b, c, d, e, f, xa, xb, xc, xd, xe, xf, o, xI 0, o] := ⟨Int.le_refl _, vol_nn, rfl, rfl⟩
theorem q633_at {o0 : X} (h : Px 633 [a, b, c, d, e, f, xa, xb, xc, xd, xe, xf, o0, i, o]) (hi : i.i < (bxX xa xb xc xd xe xf).vol) (hx : insX (bxX a b c d e f) (bxX xa xb xc xd xe xf)) :
    0 ≤ (bxX a b c d e f).idx ((bxX xa xb xc xd xe xf).at i.i) ∧ (bxX a b c d e f).idx ((bxX xa xb xc xd xe xf).at i.i) < (bxX a b c d e f).vol := idx_ok (ins_has hx (at_has h.1 hi))
theorem q633_s {o0 : X} (h : Px 633 [a, b, c, d, e, f, xa, xb, xc, xd, xe, xf, o0, i, o]) (hi : i.i < (bxX xa xb xc xd xe xf).vol) (hx : insX (bxX a b c d e f) (bxX xa xb xc xd xe xf)) :
    Px 633 [a, b, c, d, e, f, xa, xb, xc, xd, xe, xf, o0, xI (i.i + 1), mkX (rwSet o.r ((bxX a b c d e f).idx ((bxX xa xb xc xd xe xf).at i.i)) 0 (xB false)) o.i] := by
  have hk := q633_at h hi hx
  obtain ⟨h1, h2, h3, h4⟩ := h
  refine ⟨?_, ?_, h3, ?_⟩
  · show 0 ≤ i.i + 1
    omega
  · show i.i + 1 ≤ _
    omega
  · rw [deB_set hk.1]
    show (lstX deB o).set _ _ = markF _ _ (i.i + 1).toNat _
    rw [h4, show (i.i + 1).toNat = i.i.toNat + 1 by omega, mark_succ, Int.toNat_of_nonneg h1]
    rfl
theorem q633_e {o0 : X} (h : Px 633 [a, b, c, d, e, f, xa, xb, xc, xd, xe, xf, o0, i, o]) (hi : ¬ i.i < (bxX xa xb xc xd xe xf).vol) : lstX deB o = markF (bxX a b c d e f) (bxX xa xb xc xd xe xf) (bxX xa xb xc xd xe xf).vol.toNat (lstX deB o0) := by
  obtain ⟨h1, h2, h3, h4⟩ := h
  rw [h4, show i.i = (bxX xa xb xc xd xe xf).vol by omega]
end
theorem deX_enX (q : Bx) : deX (enX q) = q := rfl
theorem eqEl_X (f : Int → Y) : eqEl S6b (enX (deX f)) f 0 := ⟨rfl, rfl, rfl, rfl, rfl, rfl, trivial⟩
theorem q603 (h : Px 631 [a, b, c, d, e, f, l, t, k, o, u]) (hk : ¬ k.i < l.i) (h0 : 0 ≤ u.i) (h6 : u.i ≤ 600) : rowEq S6b (Ff 603 [a, b, c, d, e, f, l, t]) u.r u.i 600 := by
  obtain ⟨h1, h2, h⟩ := h
  refine rowEq_of eqEl_X h0 h6 ?_
  show lstX deX u = (runV _ _ (solL (lstX deI l) t).length).2
  rw [sol_len, show l.i.toNat = k.i.toNat by omega, ← h]
end
end Vc
end Go.Proofs.Ytokicaoapclicaa
