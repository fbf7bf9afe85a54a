/- Reading and writing symbolic memory. -/
import Derived.Test.YtfpecoddgdcaaaaDoorVcC
namespace Go.Proofs.YtfpecoddgdcaaaaDoor
namespace Vc
open Go Go.RowKit

/-! ### The program's types -/
def aggOf (P : Program) (t : TypeId) : Option Bool :=
  match P.underlying t with
  | some (.struct _) | some (.array _ _) => some true
  | some _ => some false
  | none => none
def szOf (P : Program) (t : TypeId) : Option Nat := (P.info? t).map (·.size)

theorem run_isAgg {P : Program} {t : TypeId} {b : Bool} (h : aggOf P t = some b) (w : World) : (isAgg t).run P w = .ok b w := by
  unfold aggOf at h
  split at h
  · rename_i d hd; cases h; simp [isAgg, run_underlying hd]
  · rename_i d hd; cases h; simp [isAgg, run_underlying hd]
  · rename_i d _ hd; cases h
    simp only [isAgg, Sem.run_bind, run_underlying hd, Result.andThen_ok]
    rfl
  · cases h
theorem run_sizeOf {P : Program} {t : TypeId} {n : Nat} (h : szOf P t = some n) (w : World) : (sizeOf t).run P w = .ok n w := by
  unfold szOf at h
  cases hi : P.info? t with
  | none => rw [hi] at h; cases h
  | some i => rw [hi] at h; cases h; simp [sizeOf, typeInfo, hi]

/-! ### A part of an aggregate -/
def spart (P : Program) (t : TypeId) (cs : List SC) (off : Nat) : Option SV :=
  match aggOf P t with
  | some true => (match szOf P t with | some n => some (.agg ((cs.drop off).take n)) | none => none)
  | some false => (match cs[off]? with | some s => some (.c s) | none => none)
  | none => none
theorem spart_ok {P : Program} {ρ : Env} {ls : Ls} {t : TypeId} {cs : List SC} {vs : List Value} {off : Nat} {s : SV} (h : spart P t cs off = some s) (hr : All2 (RS ρ ls) cs vs) (w : World) :
    ∃ u, (part t vs.toArray off).run P w = .ok u w ∧ RV ρ ls s u := by
  unfold spart at h
  split at h
  · rename_i ha
    split at h
    · rename_i n hn
      cases h
      refine ⟨.agg ((vs.drop off).take n).toArray, ?_, _, rfl, (hr.drop off).take n⟩
      simp [part, run_isAgg ha, run_sizeOf hn]
    · cases h
  · rename_i ha
    split at h
    · rename_i s' hs
      cases h
      obtain ⟨u, hu, hru⟩ := hr.get hs
      exact ⟨u, by simp [part, run_isAgg ha, hu], hru⟩
    · cases h
  · cases h

/-! ### The cells of a value -/
def svCells : SV → Option (List SC)
  | .c s => if s.one then some [s] else none
  | .agg l => if l.all SC.one then some l else none
  | _ => none
theorem svCells_ok {ρ : Env} {ls : Ls} {s : SV} {v : Value} {l : List SC} (h : svCells s = some l) (hr : RV ρ ls s v) :
    ∃ vs, v.cells = List.toArray vs ∧ All2 (RS ρ ls) l vs ∧ ∀ u ∈ vs, u.oneCell' = true := by
  cases s with
  | c s =>
    simp only [svCells] at h
    split at h
    · rename_i h1
      cases h
      have h2 := RS.oneCell hr h1
      exact ⟨[v], by rw [cells_of_one h2], ⟨hr, trivial⟩, by simpa using h2⟩
    · cases h
  | agg l' =>
    simp only [svCells] at h
    split at h
    · rename_i h1
      cases h
      obtain ⟨vs, rfl, ha⟩ := hr
      refine ⟨vs, rfl, ha, ?_⟩
      induction l generalizing vs with
      | nil => cases vs with
        | nil => simp
        | cons _ _ => exact ha.elim
      | cons x xs ih => cases vs with
        | nil => exact ha.elim
        | cons u us =>
          simp only [List.all_cons, Bool.and_eq_true] at h1
          intro z hz
          rcases List.mem_cons.1 hz with rfl | hz
          · exact RS.oneCell ha.1 h1.1
          · exact ih h1.2 us ha.2 z hz
    · cases h
  | tup l' => cases h

def setMany {α : Type} : List α → Nat → List α → List α
  | cs, _, [] => cs
  | cs, o, x :: xs => setMany (cs.set o x) (o + 1) xs
theorem setMany_len {α : Type} : ∀ (xs cs : List α) (o : Nat), (setMany cs o xs).length = cs.length
  | [], _, _ => rfl
  | _ :: xs, cs, o => by rw [setMany, setMany_len xs]; simp
theorem All2.setMany {α β : Type} {R : α → β → Prop} : ∀ {xs : List α} {ys : List β}, All2 R xs ys → ∀ {cs : List α} {ds : List β} (o : Nat), All2 R cs ds → All2 R (Vc.setMany cs o xs) (Vc.setMany ds o ys)
  | [], [], _, _, _, _, h => h
  | _ :: _, _ :: _, h, _, _, o, h' => All2.setMany h.2 (o + 1) (h'.set o h.1)


/-! ### Reading -/
def skS (s : Sk) (R i : E) (o : Nat) : SC :=
  match s with
  | .int k lo hi => .int k (eSel R i (.ic o)) lo hi
  | .bool => .bool (eSel R i (.ic o))
  | .opq => .opv (eSel R i (.ic o))
def lookG : List (Nat × List Value) → Nat → Option (List Value)
  | [], _ => none
  | (g, vs) :: r, k => if g == k then some vs else lookG r k
theorem lookG_ok : ∀ {gs : List (Nat × List Value)} {k : Nat} {vs : List Value}, lookG gs k = some vs → (k, vs) ∈ gs
  | [], _, _, h => by cases h
  | (g, us) :: r, k, vs, h => by
    simp only [lookG] at h
    split at h
    · rename_i he; cases h; simp at he; subst he; simp
    · exact List.mem_cons_of_mem _ (lookG_ok h)

/-- The parts of an element from 'off' on, n of them. -/
def partsS (sh : List Sk) (R i : E) : Nat → Nat → Option (List SC)
  | _, 0 => some []
  | off, n + 1 => match sh[off]?, partsS sh R i (off + 1) n with | some s, some r => some (skS s R i off :: r) | _, _ => none

def constOf : E → Option Int
  | .ic n => some n
  | _ => none
theorem constOf_ok {e : E} {n : Int} (h : constOf e = some n) : e = .ic n := by cases e <;> simp_all [constOf]

def sload (P : Program) (gs : List (Nat × List Value)) (hp : SH) (t : TypeId) (x : SC) : Option SV :=
  match x with
  | .ptr l off => (match aggOf P t, hp[l]? with
    | some false, some ⟨_, _, .cells cs⟩ => (match cs[off]? with | some s => some (.c s) | none => none)
    | some true, some ⟨_, _, .cells cs⟩ => (match szOf P t with | some n => if off + n ≤ cs.length then some (.agg ((cs.drop off).take n)) else none | none => none)
    | _, _ => none)
  | .gl g off => (match aggOf P t, lookG gs g with
    | some false, some vs => (match vs[off]? with | some v => some (.c (scOf v)) | none => none)
    | some true, some vs => (match szOf P t with | some n => if off + n ≤ vs.length then some (.agg (((vs.drop off).take n).map scOf)) else none | none => none)
    | _, _ => none)
  | .pe l sz i off => (match aggOf P t, hp[l]? with
    | some false, some ⟨_, _, .row sh R _ _⟩ => if sz = sh.length then (match sh[off]? with | some s => some (.c (skS s R i off)) | none => none) else none
    | some true, some ⟨_, _, .row sh R _ _⟩ => if sz = sh.length then (match szOf P t with | some n => (match partsS sh R i off n with | some l => some (.agg l) | none => none) | none => none) else none
    | some false, some ⟨_, _, .grow sz' cs⟩ => if sz = sz' then (match constOf i with | some k => (match cs[k.toNat * sz + off]? with | some s => some (.c s) | none => none) | none => none) else none
    | some true, some ⟨_, _, .grow sz' cs⟩ => if sz = sz' then (match constOf i, szOf P t with | some k, some n => if k.toNat * sz + off + n ≤ cs.length then some (.agg ((cs.drop (k.toNat * sz + off)).take n)) else none | _, _ => none) else none
    | _, _ => none)
  | _ => none

section
variable {P : Program} {ρ : Env} {B : Nat} {w0 w : World} {ls : Ls} {hp : SH}

theorem skS_ok {s : Sk} {R i : E} {o : Nat} (h : skOk s (evR ρ R (evI ρ i) o)) : RS ρ ls (skS s R i o) (skV s (evR ρ R (evI ρ i) o)) := by
  have e := ev_eSel ρ R i (.ic o)
  have e' : (ev ρ (eSel R i (.ic o))).x.y = evR ρ R (evI ρ i) o := e
  have e1 : evI ρ (eSel R i (.ic o)) = (evR ρ R (evI ρ i) o).i := by rw [← e']; rfl
  have e2 : evB ρ (eSel R i (.ic o)) = (evR ρ R (evI ρ i) o).b := by rw [← e']; rfl
  have e3 : (ev ρ (eSel R i (.ic o))).x.v = (evR ρ R (evI ρ i) o).v := by rw [← e']; rfl
  cases s with
  | int k lo hi => exact ⟨by rw [e1]; rfl, by rw [e1]; exact h.1, by rw [e1]; exact h.2⟩
  | bool => show _ = Value.bool _; rw [e2]; rfl
  | opq => exact ⟨by rw [e3]; rfl, h⟩

/-- The cell of a part of an element. -/
theorem row_cell {l : Nat} {b : Bool} {ty : TypeId} {sh : List Sk} {R n : E} {hi : Int} (h : EntOk ρ B w ls l ⟨b, ty, .row sh R n hi⟩) {i o : Nat} {s : Sk} (hi' : i < (evI ρ n).toNat) (ho : sh[o]? = some s) :
    ∃ a c, ls[l]? = some (.slice (some a) (evI ρ n).toNat c) ∧ w.cell? (a.add (i * sh.length + o)) = some (skV s (evR ρ R i o)) ∧ skOk s (evR ρ R i o) := by
  obtain ⟨A, c, h1, h2, h3, h4, h5, h6, h7, h8⟩ := h
  have hg := rowV_get (R := evR ρ R) hi' ho
  have hk : skOk s (evR ρ R i o) := by
    have := elOk_get (h6 i hi') ho
    simpa using this
  cases b
  · obtain ⟨a, rfl, _, e3⟩ := h8 rfl (by omega)
    exact ⟨a, c, h1, e3 _ _ hg, hk⟩
  · have hown := h7 rfl
    cases hA : A with
    | none =>
      subst hA
      rcases hown.2 with ⟨e, e'⟩ | ⟨g, cap, cur, e, _⟩
      · omega
      · cases e
    | some a =>
      subst hA
      refine ⟨a, c, h1, ?_, hk⟩
      have hb : ∃ g, a = ⟨g, 0, none⟩ := by
        rcases hown.2 with ⟨e, _⟩ | ⟨g, cap, cur, e, _⟩
        · cases e
        · injection e with e1; injection e1 with e2; exact ⟨g, e2⟩
      obtain ⟨g, rfl⟩ := hb
      exact hown.cells (g := g) rfl _ _ hg

theorem loadVar_cells {t : TypeId} {a : Addr} {vs : List Value} (ha : aggOf P t = some true) (hn : szOf P t = some vs.length) (h : ∀ j v, vs[j]? = some v → w.cell? (a.add j) = some v) :
    (loadVar t a).run P w = .ok (.agg vs.toArray) w := by
  have hl := run_loadCells_list (P := P) w a vs h
  simp [loadVar, run_isAgg ha, run_sizeOf hn, hl]
theorem loadVar_cell {t : TypeId} {a : Addr} {v : Value} (ha : aggOf P t = some false) (h : w.cell? a = some v) : (loadVar t a).run P w = .ok v w := by
  simp [loadVar, run_isAgg ha, h]

theorem partsS_ok {sh : List Sk} {R i : E} {a : Addr} (hc : ∀ (o : Nat) (s : Sk), sh[o]? = some s → w.cell? (a.add ((evI ρ i).toNat * sh.length + o)) = some (skV s (evR ρ R (evI ρ i) o)) ∧ skOk s (evR ρ R (evI ρ i) o)) :
    ∀ {n off : Nat} {l : List SC}, partsS sh R i off n = some l → ∃ vs, vs.length = n ∧ All2 (RS ρ ls) l vs ∧ ∀ j v, vs[j]? = some v → w.cell? ((a.add ((evI ρ i).toNat * sh.length + off)).add j) = some v
  | 0, off, l, h => by cases h; exact ⟨[], rfl, trivial, fun j v hv => by simp at hv⟩
  | n + 1, off, l, h => by
    simp only [partsS] at h
    split at h
    · rename_i s r hs hr
      cases h
      obtain ⟨vs, h1, h2, h3⟩ := partsS_ok hc hr
      obtain ⟨c1, c2⟩ := hc off s hs
      refine ⟨skV s (evR ρ R (evI ρ i) off) :: vs, by simp [h1], ⟨skS_ok c2, h2⟩, fun j v hv => ?_⟩
      cases j with
      | zero => simp at hv; subst hv; rw [add_add]; exact c1
      | succ j =>
        simp at hv
        have := h3 j v hv
        rw [add_add] at this ⊢
        rw [show (evI ρ i).toNat * sh.length + off + (j + 1) = (evI ρ i).toNat * sh.length + (off + 1) + j by omega]
        exact this
    · cases h

theorem grow_cell {e : TypeId} {sz : Nat} {a : Addr} {n c : Nat} {vs : List Value} (hown : w.ownsRow B e sz (.slice (some a) n c) n vs) {j : Nat} {u : Value} (hu : vs[j]? = some u) : w.cell? (a.add j) = some u := by
  have hb : ∃ g, a = ⟨g, 0, none⟩ := by
    rcases hown.2 with ⟨e, _⟩ | ⟨g, cap, cur, e, _⟩
    · cases e
    · injection e with e1; injection e1 with e2; exact ⟨g, e2⟩
  obtain ⟨g, rfl⟩ := hb
  exact hown.cells (g := g) rfl _ _ hu

theorem sload_ok {t : TypeId} {x : SC} {s : SV} {v : Value} (h : sload P ρ.g hp t x = some s) (hh : HOk ρ B w0 ls hp w) (hv : RS ρ ls x v) :
    ∃ a u, v = .pointer (some a) ∧ (loadVar t a).run P w = .ok u w ∧ RV ρ ls s u := by
  unfold sload at h
  split at h
  · rename_i l off
    obtain ⟨a, ha, rfl⟩ := hv
    split at h
    · rename_i b ty cs hag hx
      split at h
      · rename_i s' hs
        cases h
        obtain ⟨a', vs, e1, e2, e3, _⟩ := hh.ent l _ hx
        rw [ha] at e1; cases e1
        obtain ⟨u, hu, hr⟩ := e2.get hs
        exact ⟨_, u, rfl, loadVar_cell hag (e3 _ _ hu), hr⟩
      · cases h
    · rename_i b ty cs hag hx
      split at h
      · rename_i n hn
        split at h
        · rename_i hle
          cases h
          obtain ⟨a', vs, e1, e2, e3, _⟩ := hh.ent l _ hx
          rw [ha] at e1; cases e1
          have hlen := e2.len
          have hlen' : ((vs.drop off).take n).length = n := by simp; omega
          refine ⟨_, _, rfl, loadVar_cells (vs := (vs.drop off).take n) hag (by rw [hlen']; exact hn) (fun j v hj => ?_), _, rfl, (e2.drop off).take n⟩
          rw [add_add]
          rw [List.getElem?_take] at hj
          split at hj
          · rw [List.getElem?_drop] at hj; exact e3 _ _ hj
          · cases hj
        · cases h
      · cases h
    · cases h
  · rename_i g off
    have hv' : v = .pointer (some ⟨g, off, none⟩) := hv
    subst hv'
    split at h
    · rename_i vs hag hg
      split at h
      · rename_i u hu
        cases h
        have := (hh.glob _ (lookG_ok hg)).2 _ _ hu
        exact ⟨_, u, rfl, loadVar_cell hag this, RS_scOf ρ ls u⟩
      · cases h
    · rename_i vs hag hg
      split at h
      · rename_i n hn
        split at h
        · rename_i hle
          cases h
          have hlen' : ((vs.drop off).take n).length = n := by simp; omega
          refine ⟨_, _, rfl, loadVar_cells (vs := (vs.drop off).take n) hag (by rw [hlen']; exact hn) (fun j v hj => ?_), _, rfl, All2.map_self scOf _ fun b _ => RS_scOf ρ ls b⟩
          rw [Addr.add_lit]
          rw [List.getElem?_take] at hj
          split at hj
          · rw [List.getElem?_drop] at hj; exact (hh.glob _ (lookG_ok hg)).2 _ _ hj
          · cases hj
        · cases h
      · cases h
    · cases h
  · rename_i l sz i off
    obtain ⟨a, N, C, ha, rfl, hi0, hiN⟩ := hv
    split at h
    · rename_i b ty sh R n hi hag hx
      split at h
      · rename_i hsz
        split at h
        · rename_i s' hs
          cases h
          subst hsz
          have hent := hh.ent l _ hx
          have hN : N = (evI ρ n).toNat := by
            obtain ⟨A, c, h1, _⟩ := hent
            rw [ha] at h1; injection h1 with h1; injection h1
          obtain ⟨a', c, e1, e2, e3⟩ := row_cell hent (i := (evI ρ i).toNat) (by omega) hs
          rw [ha] at e1; cases e1
          rw [show (((evI ρ i).toNat : Nat) : Int) = evI ρ i by omega] at e2 e3
          exact ⟨_, _, rfl, loadVar_cell hag e2, skS_ok e3⟩
        · cases h
      · cases h
    · rename_i b ty sh R n hi hag hx
      split at h
      · rename_i hsz
        split at h
        · rename_i m hm
          split at h
          · rename_i l' hl'
            cases h
            subst hsz
            have hent := hh.ent l _ hx
            have hN : N = (evI ρ n).toNat := by
              obtain ⟨A, c, h1, _⟩ := hent
              rw [ha] at h1; injection h1 with h1; injection h1
            have hc : ∀ (o : Nat) (s : Sk), sh[o]? = some s → w.cell? (a.add ((evI ρ i).toNat * sh.length + o)) = some (skV s (evR ρ R (evI ρ i) o)) ∧ skOk s (evR ρ R (evI ρ i) o) := fun o s hs => by
              obtain ⟨a', c, e1, e2, e3⟩ := row_cell hent (i := (evI ρ i).toNat) (by omega) hs
              rw [ha] at e1; cases e1
              rw [show (((evI ρ i).toNat : Nat) : Int) = evI ρ i by omega] at e2 e3
              exact ⟨e2, e3⟩
            obtain ⟨vs, v1, v2, v3⟩ := partsS_ok (ls := ls) hc hl'
            exact ⟨_, _, rfl, loadVar_cells hag (by rw [v1]; exact hm) v3, vs, rfl, v2⟩
          · cases h
        · cases h
      · cases h
    · rename_i b ty sz' cs hag hx
      split at h
      · rename_i hsz
        subst hsz
        split at h
        · rename_i k hk
          have he := constOf_ok hk
          subst he
          split at h
          · rename_i s' hs
            cases h
            obtain ⟨_, _, A, n, c, vs, h1, h2, h3, h4⟩ := hh.ent l _ hx
            obtain ⟨u, hu, hr⟩ := h3.get hs
            have h1' := ha
            rw [h1] at ha; injection ha with ha; injection ha with ha1 ha2 ha3
            subst ha1
            exact ⟨_, u, rfl, loadVar_cell hag (grow_cell h4 hu), hr⟩
          · cases h
        · cases h
      · cases h
    · rename_i b ty sz' cs hag hx
      split at h
      · rename_i hsz
        subst hsz
        split at h
        · rename_i k m hk hm
          have he := constOf_ok hk
          subst he
          split at h
          · rename_i hle
            cases h
            obtain ⟨_, _, A, n, c, vs, h1, h2, h3, h4⟩ := hh.ent l _ hx
            rw [h1] at ha; injection ha with ha; injection ha with ha1 ha2 ha3
            subst ha1
            have hlen := h3.len
            have hlen' : ((vs.drop (k.toNat * sz + off)).take m).length = m := by simp; omega
            refine ⟨_, _, rfl, loadVar_cells (vs := (vs.drop (k.toNat * sz + off)).take m) hag (by rw [hlen']; exact hm) (fun j v hj => ?_), _, rfl, (h3.drop _).take m⟩
            rw [add_add]
            rw [List.getElem?_take] at hj
            split at hj
            · rw [List.getElem?_drop] at hj; exact grow_cell h4 hj
            · cases hj
          · cases h
        · cases h
      · cases h
    · cases h
  · cases h

/-! ### Writing -/
theorem setMany_len' {α : Type} (xs cs : List α) (o : Nat) : (setMany cs o xs).length = cs.length := setMany_len xs cs o

/-- A scalar that is put into a part of kind s: the kind afterwards (its range may have grown), the expression. -/
def matchSk : Sk → SC → Option (Sk × E)
  | .int k lo hi, .int k' e l h => if k = k' then some (.int k (min lo l) (max hi h), e) else none
  | .bool, .bool e => some (.bool, e)
  | .opq, .opv e => some (.opq, e)
  | .opq, .cst v => if v.oneCell' then some (.opq, .cv v) else none
  | _, _ => none
def rowSet (i : E) : List Sk → E → Nat → List SC → Option (List Sk × E)
  | sh, R, _, [] => some (sh, R)
  | sh, R, o, c :: cs => match sh[o]? with
    | some s => (match matchSk s c with
      | some (s', e) => rowSet i (sh.set o s') (.rset R i (.ic o) e) (o + 1) cs
      | none => none)
    | none => none

def sstore (P : Program) (hp : SH) (t : TypeId) (x : SC) (v : SV) : Option SH :=
  match x with
  | .ptr l off => (match svCells v, szOf P t, hp[l]? with
    | some cs, some n, some ⟨true, ty, .cells cs'⟩ => if (n == cs.length) && decide (off + n ≤ cs'.length) then some (hp.set l ⟨true, ty, .cells (setMany cs' off cs)⟩) else none
    | _, _, _ => none)
  | .pe l sz i off => (match svCells v, szOf P t, hp[l]? with
    | some cs, some n, some ⟨true, ty, .row sh R m hi⟩ => if (n == cs.length) && (sz == sh.length) then (match rowSet i sh R off cs with
        | some (sh', R') => some (hp.set l ⟨true, ty, .row sh' R' m hi⟩)
        | none => none) else none
    | _, _, _ => none)
  | _ => none

theorem set_same {α : Type} {l : List α} {i : Nat} {x : α} (h : l[i]? = some x) : l.set i x = l := by
  apply List.ext_getElem?
  intro j
  by_cases hj : j = i
  · subst hj
    have hlt : j < l.length := (List.getElem?_eq_some_iff.1 h).1
    rw [List.getElem?_set_self hlt, h]
  · rw [List.getElem?_set_ne (Ne.symm hj)]

theorem storeCells_ok : ∀ (cs : List SC) (vs : List Value) (w : World) (hp : SH) (l off i : Nat) (a : Addr) (ty : TypeId) (cs' : List SC), HOk ρ B w0 ls hp w → hp[l]? = some ⟨true, ty, .cells cs'⟩ → ls[l]? = some (.pointer (some a)) →
    off + i + cs.length ≤ cs'.length → All2 (RS ρ ls) cs vs → (∀ u ∈ vs, u.oneCell' = true) →
    ∃ w', (storeCells (a.add off) vs i).run P w = .ok () w' ∧ HOk ρ B w0 ls (hp.set l ⟨true, ty, .cells (setMany cs' (off + i) cs)⟩) w'
  | [], [], w, hp, l, off, i, a, ty, cs', hh, hl, _, _, _, _ => ⟨w, rfl, by rw [show setMany cs' (off + i) [] = cs' from rfl, set_same hl]; exact hh⟩
  | c :: cs, v :: vs, w, hp, l, off, i, a, ty, cs', hh, hl, ha, hle, hr, h1 => by
    simp only [List.length_cons] at hle
    have hst := hh.set (o := off + i) hl (by omega) hr.1 (h1 v (by simp)) ha P
    have hll : l < hp.length := (List.getElem?_eq_some_iff.1 hl).1
    obtain ⟨w', hrun, hok⟩ := storeCells_ok cs vs _ _ l off (i + 1) a ty (cs'.set (off + i) c) hst.2 (List.getElem?_set_self hll) ha (by simp; omega) hr.2 (fun u hu => h1 u (by simp [hu]))
    refine ⟨w', ?_, ?_⟩
    · simp only [storeCells, Sem.run_bind]
      rw [add_add, hst.1]
      exact hrun
    · rw [List.set_set] at hok
      exact hok

theorem skV_match {s s' : Sk} {c : SC} {e : E} {v : Value} (h : matchSk s c = some (s', e)) (hr : RS ρ ls c v) : skV s' (ev ρ e).x.y = v ∧ skOk s' (ev ρ e).x.y ∧ (∀ y, skV s' y = skV s y) ∧ (∀ y, skOk s y → skOk s' y) := by
  unfold matchSk at h
  split at h
  · split at h
    · rename_i hk
      subst hk
      cases h
      obtain ⟨rfl, h2, h3⟩ := hr
      refine ⟨rfl, ⟨?_, ?_⟩, fun y => rfl, fun y hy => ⟨?_, ?_⟩⟩
      · show _ ≤ evI ρ _; omega
      · show evI ρ _ ≤ _; omega
      · have := hy.1; omega
      · have := hy.2; omega
    · cases h
  · cases h
    have hr' : v = .bool _ := hr
    subst hr'
    exact ⟨rfl, trivial, fun y => rfl, fun y hy => hy⟩
  · cases h
    obtain ⟨rfl, h2⟩ := hr
    exact ⟨rfl, h2, fun y => rfl, fun y hy => hy⟩
  · split at h
    · rename_i h1
      cases h
      have hr' : v = _ := hr
      subst hr'
      exact ⟨rfl, h1, fun y => rfl, fun y hy => hy⟩
    · cases h
  · cases h

theorem HOk.setPart (hh : HOk ρ B w0 ls hp w) {l o : Nat} {ty : TypeId} {sh : List Sk} {R n i : E} {hi : Int} {s s' : Sk} {c : SC} {e : E} {v : Value} (hl : hp[l]? = some ⟨true, ty, .row sh R n hi⟩) (ho : sh[o]? = some s) (hm : matchSk s c = some (s', e))
    (hr : RS ρ ls c v) (h1 : v.oneCell' = true) {a : Addr} {N C : Nat} (ha : ls[l]? = some (.slice (some a) N C)) (hi0 : 0 ≤ evI ρ i) (hiN : (evI ρ i).toNat < N) (P : Program) :
    (store (a.add ((evI ρ i).toNat * sh.length + o)) v).run P w = .ok () (w.setCell (a.add ((evI ρ i).toNat * sh.length + o)) v) ∧
    HOk ρ B w0 ls (hp.set l ⟨true, ty, .row (sh.set o s') (.rset R i (.ic o) e) n hi⟩) (w.setCell (a.add ((evI ρ i).toNat * sh.length + o)) v) := by
  have hent := hh.ent l _ hl
  obtain ⟨A, c', g1, g2, g3, g4, g5, g6, g7, _⟩ := hent
  rw [ha] at g1
  injection g1 with g1
  injection g1 with g1 gN gC
  subst g1 gN gC
  have hown := g7 rfl
  obtain ⟨g, rfl⟩ : ∃ g, a = ⟨g, 0, none⟩ := by
    rcases hown.2 with ⟨e, _⟩ | ⟨g, cap, cur, e, _⟩
    · cases e
    · injection e with e1; injection e1 with e2; exact ⟨g, e2⟩
  have hol : o < sh.length := (List.getElem?_eq_some_iff.1 ho).1
  rw [Addr.add_lit]
  simp only [Nat.zero_add]
  have hget := rowV_get (R := evR ρ R) hiN ho
  have hcell : w.cell? ⟨g, (evI ρ i).toNat * sh.length + o, none⟩ = some (skV s (evR ρ R (evI ρ i).toNat o)) := by
    have := hown.cells (g := g) rfl _ _ hget
    rwa [Addr.add_lit, Nat.zero_add] at this
  obtain ⟨m1, m2, m3, m4⟩ := skV_match hm hr
  refine ⟨?_, ?_⟩
  · rw [run_store P w _ v .plain h1, hcell, hown.frozenAt]
    rfl
  · obtain ⟨st1, st2⟩ := hown.stored ((evI ρ i).toNat * sh.length + o) v
    refine hh.turn hl rfl st2 (.inr (by rw [ha]; rfl)) ?_ (fun _ => rfl)
    have hset : ∀ (j p : Nat), evR ρ (.rset R i (.ic o) e) j p = if j = (evI ρ i).toNat ∧ p = o then (ev ρ e).x.y else evR ρ R j p := fun j p => by
      show (if (j : Int) = evI ρ i ∧ (p : Int) = (o : Int) then _ else _) = _
      by_cases hc : j = (evI ρ i).toNat ∧ p = o
      · rw [if_pos hc, if_pos ⟨by omega, by omega⟩]
      · rw [if_neg hc, if_neg (fun hh => hc ⟨by omega, by omega⟩)]
    have hshset : ∀ p : Nat, (sh.set o s')[p]? = if p = o then some s' else sh[p]? := fun p => by
      by_cases hp' : p = o
      · subst hp'; rw [if_pos rfl, List.getElem?_set_self hol]
      · rw [if_neg hp', List.getElem?_set_ne (Ne.symm hp')]
    have hrow : (rowV sh (evR ρ R) (evI ρ n).toNat).set ((evI ρ i).toNat * sh.length + o) v = rowV (sh.set o s') (evR ρ (.rset R i (.ic o) e)) (evI ρ n).toNat := by
      refine rowV_ext (by rw [List.length_set, rowV_len, List.length_set]) (fun j p s2 hj hp2 => ?_)
      rw [List.length_set]
      rw [hshset] at hp2
      have hpl : p < sh.length := by
        by_cases hp' : p = o
        · omega
        · rw [if_neg hp'] at hp2; exact (List.getElem?_eq_some_iff.1 hp2).1
      by_cases hc : j = (evI ρ i).toNat ∧ p = o
      · obtain ⟨rfl, rfl⟩ := hc
        rw [if_pos rfl] at hp2
        cases hp2
        rw [List.getElem?_set_self (by rw [rowV_len]; have := Nat.mul_le_mul_right sh.length (show (evI ρ i).toNat + 1 ≤ (evI ρ n).toNat from hiN); rw [Nat.add_mul] at this; omega)]
        rw [hset, if_pos ⟨rfl, rfl⟩, m1]
      · have hne : (evI ρ i).toNat * sh.length + o ≠ j * sh.length + p := fun e => hc (by
          have e1 : ((evI ρ i).toNat * sh.length + o) / sh.length = (j * sh.length + p) / sh.length := by rw [e]
          rw [Nat.mul_comm _ sh.length, Nat.mul_comm j, Nat.mul_add_div (by omega), Nat.mul_add_div (by omega), Nat.div_eq_of_lt hol, Nat.div_eq_of_lt hpl] at e1
          have e2 : j = (evI ρ i).toNat := by omega
          subst e2
          exact ⟨rfl, by omega⟩)
        rw [List.getElem?_set_ne hne, hset, if_neg hc]
        by_cases hp' : p = o
        · subst hp'
          rw [if_pos rfl] at hp2
          cases hp2
          rw [m3]; exact rowV_get hj ho
        · rw [if_neg hp'] at hp2
          exact rowV_get hj hp2
    refine ⟨_, C, ha, g2, g3, g4, by rw [List.length_set]; exact g5, fun j hj => ?_, fun _ => ?_, fun e => by cases e⟩
    · refine elOk_of fun p s2 hp2 => ?_
      rw [Int.zero_add, hset]
      rw [hshset] at hp2
      by_cases hc : j = (evI ρ i).toNat ∧ p = o
      · obtain ⟨rfl, rfl⟩ := hc
        rw [if_pos rfl] at hp2
        cases hp2
        rw [if_pos ⟨rfl, rfl⟩]; exact m2
      · rw [if_neg hc]
        by_cases hp' : p = o
        · subst hp'
          rw [if_pos rfl] at hp2
          cases hp2
          have := elOk_get (g6 j hj) ho
          rw [Int.zero_add] at this
          exact m4 _ this
        · rw [if_neg hp'] at hp2
          have := elOk_get (g6 j hj) hp2
          rwa [Int.zero_add] at this
    · show (w.setCell _ v).ownsRow B ty (sh.set o s').length _ _ _
      rw [← hrow, List.length_set]
      exact st1

theorem storeRow_ok : ∀ (cs : List SC) (vs : List Value) (w : World) (hp : SH) (l off k : Nat) (a : Addr) (N C : Nat) (ty : TypeId) (sh sh' : List Sk) (R R' n i : E) (hi : Int), HOk ρ B w0 ls hp w → hp[l]? = some ⟨true, ty, .row sh R n hi⟩ → ls[l]? = some (.slice (some a) N C) →
    0 ≤ evI ρ i → (evI ρ i).toNat < N → rowSet i sh R (off + k) cs = some (sh', R') → All2 (RS ρ ls) cs vs → (∀ u ∈ vs, u.oneCell' = true) →
    ∃ w', (storeCells (a.add ((evI ρ i).toNat * sh.length + off)) vs k).run P w = .ok () w' ∧ HOk ρ B w0 ls (hp.set l ⟨true, ty, .row sh' R' n hi⟩) w'
  | [], [], w, hp, l, off, k, a, N, C, ty, sh, sh', R, R', n, i, hi, hh, hl, _, _, _, h, _, _ => by
    cases h
    exact ⟨w, rfl, by rw [set_same hl]; exact hh⟩
  | c :: cs, v :: vs, w, hp, l, off, k, a, N, C, ty, sh, sh', R, R', n, i, hi, hh, hl, ha, h0, hN, h, hr, h1 => by
    simp only [rowSet] at h
    split at h
    · rename_i s hs
      split at h
      · rename_i s' e hm
        have hst := hh.setPart hl hs hm hr.1 (h1 v (by simp)) ha h0 hN P
        have hll : l < hp.length := (List.getElem?_eq_some_iff.1 hl).1
        obtain ⟨w', hrun, hok⟩ := storeRow_ok cs vs _ _ l off (k + 1) a N C ty (sh.set (off + k) s') sh' (.rset R i (.ic (off + k : Nat)) e) R' n i hi hst.2 (List.getElem?_set_self hll) ha h0 hN h hr.2 (fun u hu => h1 u (by simp [hu]))
        refine ⟨w', ?_, by rw [List.set_set] at hok; exact hok⟩
        simp only [storeCells, Sem.run_bind]
        rw [add_add, show (evI ρ i).toNat * sh.length + off + k = (evI ρ i).toNat * sh.length + (off + k) by omega, hst.1]
        simp only [List.length_set] at hrun
        exact hrun
      · cases h
    · cases h

theorem sstore_ok {hp' : SH} {t : TypeId} {x : SC} {s : SV} {u v : Value} (h : sstore P hp t x s = some hp') (hh : HOk ρ B w0 ls hp w) (ha : RS ρ ls x u) (hv : RV ρ ls s v) :
    ∃ a w', u = .pointer (some a) ∧ (storeVar t a v).run P w = .ok () w' ∧ HOk ρ B w0 ls hp' w' := by
  unfold sstore at h
  split at h
  · rename_i l off
    obtain ⟨a, ha, rfl⟩ := ha
    split at h
    · rename_i cs n ty cs' hc hn hx
      split at h
      · rename_i hif
        simp only [Bool.and_eq_true, beq_iff_eq, decide_eq_true_eq] at hif
        obtain ⟨hlen, hle⟩ := hif
        cases h
        obtain ⟨vs, e1, e2, e3⟩ := svCells_ok hc hv
        obtain ⟨w', hrun, hok⟩ := storeCells_ok (P := P) cs vs w hp l off 0 a ty cs' hh hx ha (by omega) e2 e3
        have hsz : vs.length = n := by rw [← e2.len]; exact hlen.symm
        exact ⟨_, w', rfl, by simp [storeVar, run_sizeOf hn, e1, hsz, hrun], hok⟩
      · cases h
    · cases h
  · rename_i l sz i off
    obtain ⟨a, N, C, ha, rfl, h0, hN⟩ := ha
    split at h
    · rename_i cs n ty sh R m hi hc hn hx
      split at h
      · rename_i hif
        simp only [Bool.and_eq_true, beq_iff_eq] at hif
        obtain ⟨hlen, rfl⟩ := hif
        split at h
        · rename_i sh' R' hset
          cases h
          obtain ⟨vs, e1, e2, e3⟩ := svCells_ok hc hv
          obtain ⟨w', hrun, hok⟩ := storeRow_ok (P := P) cs vs w hp l off 0 a N C ty sh sh' R R' m i hi hh hx ha h0 hN hset e2 e3
          have hsz : vs.length = n := by rw [← e2.len]; exact hlen.symm
          exact ⟨_, w', rfl, by simp [storeVar, run_sizeOf hn, e1, hsz, hrun], hok⟩
        · cases h
      · cases h
    · cases h
  · cases h
end
end Vc
end Go.Proofs.YtfpecoddgdcaaaaDoor
