/- Layer 41, plain: the boxes tile the solid cells. -/
import Derived.Test.YtokicaoapclicaaC41N
import Derived.Test.YtokicaoapclicaaC41M
namespace Go.Proofs.Ytokicaoapclicaa
namespace Vc
open Go Go.RowKit
set_option linter.unusedVariables false

theorem meet_has {p q : Bx} : meetB p q = true ↔ ∃ r : Pt, p.has r = true ∧ q.has r = true := by
  rw [meetB_iff]
  constructor
  · intro h
    exact ⟨(max p.a q.a, max p.b q.b, max p.c q.c), by rw [has_def]; simp only; omega, by rw [has_def]; simp only; omega⟩
  · rintro ⟨r, h1, h2⟩
    rw [has_def] at h1 h2
    omega
theorem ov_has {l : List Bx} {b : Bx} : ovB l b = true ↔ ∃ r : Pt, (∃ x ∈ l, x.has r = true) ∧ b.has r = true := by
  unfold ovB
  rw [List.any_eq_true]
  constructor
  · rintro ⟨x, hx, hm⟩
    obtain ⟨r, h1, h2⟩ := meet_has.1 hm
    exact ⟨r, ⟨x, hx, h1⟩, h2⟩
  · rintro ⟨r, ⟨x, hx, h1⟩, h2⟩
    exact ⟨x, hx, meet_has.2 ⟨r, h1, h2⟩⟩
theorem cnt_set : ∀ {l : List Bool} {i : Nat}, l.getD i false = true → (l.set i false).count true + 1 = l.count true
  | [], i, h => by simp at h
  | a :: l, 0, h => by
    simp only [List.getD_cons_zero] at h
    subst h
    simp
  | a :: l, i + 1, h => by
    simp only [List.getD_cons_succ] at h
    have := cnt_set h
    simp only [List.set_cons_succ, List.count_cons]
    omega
theorem cnt_none {l : List Bool} (h : ∀ j, j < l.length → l.getD j false = false) : l.count true = 0 := by
  rw [List.count_eq_zero]
  intro hm
  obtain ⟨j, hj, he⟩ := List.getElem_of_mem hm
  have := h j hj
  rw [List.getD_eq_getElem?_getD, List.getElem?_eq_getElem hj, he] at this
  cases this
section
variable {g x : Bx} {op : List Bool}
theorem mark_count (hx : insX g x) (ho : (op.length : Int) = g.vol) (ha : allB g op x = true) : ∀ n : Nat, (n : Int) ≤ x.vol → (markF g x n op).count true + n = op.count true
  | 0, _ => rfl
  | n + 1, hn => by
    have hi := mark_count hx ho ha n (by omega)
    have h1 := all_iff.1 ha n (by omega)
    obtain ⟨h2, h3⟩ := opn_iff.1 h1
    have hk := idx_ok h2
    have : (markF g x n op).getD (g.idx (x.at n)).toNat false = true := (mark_get hx ho n _ (by omega)).2 ⟨h3, fun i hi e => by
      have h4 := ins_has hx (at_has (b := x) (i := i) (by omega) (by omega))
      have := at_inj (b := x) (i := i) (j := n) (by omega) (by omega) (by omega) (by omega) (idx_inj h4 h2 (by omega))
      omega⟩
    have := cnt_set this
    rw [mark_succ]
    omega
theorem inc_sub {k : Nat} (h : insX g x) {p : Pt} (hp : x.has p = true) : (x.inc k).has p = true := by
  unfold insX at h
  rw [has_def] at hp ⊢
  rcases k with _ | _ | k <;> simp only [Bx.inc] <;> omega
theorem grow_sub {k : Nat} (h : insX g x) {p : Pt} (hp : x.has p = true) : (growU g op k x).has p = true :=
  (growF_keeps (I := fun y => insX g y ∧ y.has p = true) (fun y hy ha => ⟨lay_ins hy.1 ha, inc_sub hy.1 hy.2⟩) _ _ ⟨h, hp⟩).2
theorem grow_has3 (h : insX g x) {p : Pt} (hp : x.has p = true) : (growV g op x).has p = true := grow_sub (grow_ins (grow_ins h)) (grow_sub (grow_ins h) (grow_sub h hp))
/-- What is taken, and what is left. -/
structure Tiles (g : Bx) (op op' : List Bool) (L : List Bx) : Prop where
  len : op'.length = op.length
  ins : ∀ x ∈ L, insX g x
  sol : ∀ x ∈ L, ∀ p, x.has p = true → op.getD (g.idx p).toNat false = true
  left : ∀ p, g.has p = true → (op'.getD (g.idx p).toNat false = true ↔ op.getD (g.idx p).toNat false = true ∧ ∀ x ∈ L, ¬ x.has p = true)
  dis : L.Pairwise fun x y => ∀ p, ¬ (x.has p = true ∧ y.has p = true)
  sum : (L.map Bx.vol).sum + (op'.count true : Nat) = (op.count true : Nat)
theorem tiles_run (ho : (op.length : Int) = g.vol) : ∀ n : Nat, (n : Int) ≤ g.vol → Tiles g op (runV g op n).1 (runV g op n).2 ∧ ∀ j, j < n → (runV g op n).1.getD j false = false
  | 0, _ => ⟨⟨rfl, fun x hx => (by cases hx), fun x hx => (by cases hx), fun p hp => ⟨fun h => ⟨h, fun x hx => (by cases hx)⟩, fun h => h.1⟩, List.Pairwise.nil, by simp [runV]⟩, fun j hj => by omega⟩
  | n + 1, hn => by
    obtain ⟨T, hz⟩ := tiles_run ho n (by omega)
    cases hb : (runV g op n).1.getD n false with
    | false =>
      rw [run_skip hb]
      refine ⟨T, fun j hj => ?_⟩
      by_cases e : j = n
      · rw [e]; exact hb
      · exact hz j (by omega)
    | true =>
      rw [run_take hb]
      have hg := at_has (b := g) (i := n) (by omega) (by omega)
      have hi := idx_at (b := g) (i := n) (by omega) (by omega)
      have hc := cell_ins hg
      have ho' : ((runV g op n).1.length : Int) = g.vol := by rw [T.len]; exact ho
      have hca : allB g (runV g op n).1 (cellX (g.at n)) = true := all_iff.2 fun j hj => by
        have := cell_has.1 (at_has (b := cellX (g.at n)) (i := j) (by omega) hj)
        rw [this, opn_iff, hi]
        exact ⟨hg, hb⟩
      have hx := growV_ins (op := (runV g op n).1) hc
      have hxa := growV_all hca hc
      have hcx : (growV g (runV g op n).1 (cellX (g.at n))).has (g.at n) = true := grow_has3 hc (cell_has.2 rfl)
      generalize growV g (runV g op n).1 (cellX (g.at n)) = x at hx hxa hcx ⊢
      have hv : 0 ≤ x.vol := vol_nn
      have hv' : ((x.vol.toNat : Nat) : Int) = x.vol := Int.toNat_of_nonneg hv
      have key : ∀ p, g.has p = true → ((markF g x x.vol.toNat (runV g op n).1).getD (g.idx p).toNat false = true ↔ (runV g op n).1.getD (g.idx p).toNat false = true ∧ ¬ x.has p = true) := fun p hp => by
        have hk := idx_ok hp
        rw [mark_get hx ho' _ _ (by omega)]
        refine and_congr Iff.rfl ⟨fun h hxp => ?_, fun h i hil e => ?_⟩
        · have := idx_ok hxp
          refine h (x.idx p).toNat (by omega) ?_
          rw [Int.toNat_of_nonneg this.1, at_idx hxp]
          omega
        · have h4 := at_has (b := x) (i := i) (by omega) (by omega)
          have := idx_inj (ins_has hx h4) hp (by omega)
          rw [this] at h4
          exact h h4
      have hop : ∀ p, x.has p = true → (runV g op n).1.getD (g.idx p).toNat false = true := fun p hp => (opn_iff.1 (all_cell hxa hp)).2
      refine ⟨⟨by rw [mark_len]; exact T.len, fun y hy => ?_, fun y hy p hp => ?_, fun p hp => ?_, ?_, ?_⟩, fun j hj => ?_⟩
      · rcases List.mem_append.1 hy with h | h
        · exact T.ins y h
        · rw [List.mem_singleton.1 h]; exact hx
      · rcases List.mem_append.1 hy with h | h
        · exact T.sol y h p hp
        · rw [List.mem_singleton.1 h] at hp
          exact ((T.left p (ins_has hx hp)).1 (hop p hp)).1
      · rw [key p hp, T.left p hp, and_assoc]
        refine and_congr Iff.rfl ⟨fun h y hy => ?_, fun h => ⟨fun y hy => h y (List.mem_append_left _ hy), h x (List.mem_append_right _ (List.mem_singleton.2 rfl))⟩⟩
        rcases List.mem_append.1 hy with h' | h'
        · exact h.1 y h'
        · rw [List.mem_singleton.1 h']; exact h.2
      · rw [List.pairwise_append]
        refine ⟨T.dis, List.pairwise_singleton _ _, fun y hy z hz p hp => ?_⟩
        rw [List.mem_singleton.1 hz] at hp
        exact ((T.left p (ins_has hx hp.2)).1 (hop p hp.2)).2 y hy hp.1
      · have := mark_count hx ho' hxa x.vol.toNat (by omega)
        have s := T.sum
        simp only [List.map_append, List.map_cons, List.map_nil, List.sum_append, List.sum_cons, List.sum_nil]
        omega
      · cases hq : (markF g x x.vol.toNat (runV g op n).1).getD j false with
        | false => rfl
        | true =>
          have hj' : (j : Int) < g.vol := by omega
          have e1 := idx_at (b := g) (i := j) (by omega) hj'
          have h5 := (key _ (at_has (b := g) (i := j) (by omega) hj')).1 (by rw [e1]; exact hq)
          rw [e1] at h5
          by_cases e : j = n
          · subst e
            exact absurd hcx h5.2
          · have := hz j (by omega)
            have h6 := h5.1
            rw [Int.toNat_natCast, this] at h6
            cases h6
/-! ### All boxes -/
variable (ho : (op.length : Int) = g.vol)
include ho
theorem box_tiles : Tiles g op (runV g op op.length).1 (boxesB g op) := (tiles_run ho op.length (by omega)).1
theorem box_has {p : Pt} : (∃ x ∈ boxesB g op, x.has p = true) ↔ g.has p = true ∧ op.getD (g.idx p).toNat false = true := by
  obtain ⟨T, hz⟩ := tiles_run ho op.length (by omega)
  constructor
  · rintro ⟨x, hx, hp⟩
    exact ⟨ins_has (T.ins x hx) hp, T.sol x hx p hp⟩
  · rintro ⟨hp, hb⟩
    have hk := idx_ok hp
    have hl := (T.left p hp).2
    rw [hz _ (by omega)] at hl
    refine Classical.byContradiction fun hn => ?_
    have := hl ⟨hb, fun x hx hxp => hn ⟨x, hx, hxp⟩⟩
    cases this
theorem box_ov {b : Bx} : ovB (boxesB g op) b = true ↔ ∃ j : Nat, (j : Int) < g.vol ∧ op.getD j false = true ∧ b.has (g.at j) = true := by
  rw [ov_has]
  constructor
  · rintro ⟨r, h1, h2⟩
    obtain ⟨h3, h4⟩ := (box_has ho).1 h1
    have hk := idx_ok h3
    refine ⟨(g.idx r).toNat, by omega, h4, ?_⟩
    rw [Int.toNat_of_nonneg hk.1, at_idx h3]
    exact h2
  · rintro ⟨j, h1, h2, h3⟩
    refine ⟨g.at j, (box_has ho).2 ⟨at_has (by omega) h1, ?_⟩, h3⟩
    rw [idx_at (by omega) h1]
    exact h2
theorem box_sum : ((boxesB g op).map Bx.vol).sum = (op.count true : Nat) := by
  obtain ⟨T, hz⟩ := tiles_run ho op.length (by omega)
  have := T.sum
  rw [cnt_none (l := (runV g op op.length).1) (fun j hj => hz j (by rw [T.len] at hj; exact hj))] at this
  unfold boxesB
  omega
theorem box_dis {i : Nat} {x : Bx} (hx : (boxesB g op)[i]? = some x) : ¬ ovB ((boxesB g op).take i) x = true := by
  have T := box_tiles ho
  rw [ov_has]
  rintro ⟨r, ⟨y, hy, h1⟩, h2⟩
  obtain ⟨j, hj, e⟩ := List.getElem_of_mem hy
  rw [List.length_take] at hj
  rw [List.getElem_take] at e
  obtain ⟨hi, ex⟩ := List.getElem?_eq_some_iff.1 hx
  have := List.pairwise_iff_getElem.1 T.dis j i (by omega) hi (by omega) r
  rw [e, ex] at this
  exact this ⟨h1, h2⟩
end
end Vc
end Go.Proofs.Ytokicaoapclicaa
