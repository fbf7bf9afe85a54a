/- A region that draws its order, walked in the calculus. -/
import Derived.Test.YtfpecoddgdcaaaaDoorVcS
namespace Go.Proofs.YtfpecoddgdcaaaaDoor
namespace Vc
open Go Go.RowKit

structure QR where
  its : List It
  ows : List (E × Ow)
  rest : List Oper
def isNew (P : Program) (tm : Tms) (o : Oper) : Option It := match o.op with
  | .alloc t => (match zeroCells P t with | some l => some (.new t l) | none => none)
  | .box t x => (match opd tm (.bc true) x with
    | some v => (match svCells v with | some l => some (.new t l) | none => none)
    | none => none)
  | _ => none
/-- As many operations as are quiet or make a variable. -/
def regL (P : Program) (cf : Cfg) (sm : Sm) (hp : SH) (neg : List E) (all : Array Oper) (tmM : Tms) : List Oper → List It → List (E × Ow) → QR
  | [], its, ows => ⟨its, ows, []⟩
  | o :: r, its, ows => match guardOf (seeT all its o.after.toList tmM) all neg o.guard with
    | none => ⟨its, ows, o :: r⟩
    | some none => regL P cf sm hp neg all tmM r (its ++ [.val undT]) ows
    | some (some G) => match opQ2 P cf.q sm (seeT all its o.after.toList tmM) hp G o with
      | some (v, ow) => regL P cf sm hp neg all tmM r (its ++ [.val ⟨G, nz neg v⟩]) (if ow.none? then ows else (G, ow) :: ows)
      | none => if isT G && o.dst.isSome then (match isNew P (seeT all its o.after.toList tmM) o with
          | some it => regL P cf sm hp neg all tmM r (its ++ [it]) ows
          | none => ⟨its, ows, o :: r⟩) else ⟨its, ows, o :: r⟩

section
variable {P : Program} {ρ : Env} {B : Nat} {w0 w : World} {ls : Ls} {hp : SH} {tm tmM : Tms} {a : Act} {G : E} {cf : Cfg} {sm : Sm} {neg : List E} {all : Array Oper}

def Pre (pre its : List It) : Prop := ∀ (j : Nat) (it : It), pre[j]? = some it → its[j]? = some it
/-- What the walk says of one operation. -/
def ItOk (P : Program) (cf : Cfg) (sm : Sm) (hp : SH) (neg : List E) (all : Array Oper) (tmM : Tms) (its : List It) (ows : List (E × Ow)) (k : Nat) (o : Oper) : Prop :=
  ∃ pre, Pre pre its ∧ ((guardOf (seeT all pre o.after.toList tmM) all neg o.guard = some none ∧ its[k]? = some (.val undT)) ∨
    (∃ G v ow, guardOf (seeT all pre o.after.toList tmM) all neg o.guard = some (some G) ∧ opQ2 P cf.q sm (seeT all pre o.after.toList tmM) hp G o = some (v, ow) ∧ its[k]? = some (.val ⟨G, nz neg v⟩) ∧ (ow.none? = true ∨ (G, ow) ∈ ows)) ∨
    (∃ G it, guardOf (seeT all pre o.after.toList tmM) all neg o.guard = some (some G) ∧ isT G = true ∧ o.dst.isSome = true ∧ isNew P (seeT all pre o.after.toList tmM) o = some it ∧ its[k]? = some it))
theorem regL_spec : ∀ {l : List Oper} {its : List It} {ows : List (E × Ow)} {q : QR}, regL P cf sm hp neg all tmM l its ows = q →
    Pre its q.its ∧ (∀ x ∈ ows, x ∈ q.ows) ∧ its.length ≤ q.its.length ∧ ∀ k o, its.length + k < q.its.length → l[k]? = some o → ItOk P cf sm hp neg all tmM q.its q.ows (its.length + k) o
  | [], its, ows, q, h => by subst h; exact ⟨fun _ _ h => h, fun _ h => h, Nat.le_refl _, fun k o h => by simp only [regL] at h; omega⟩
  | o :: r, its, ows, q, h => by
    have stop : q = ⟨its, ows, o :: r⟩ → Pre its q.its ∧ (∀ x ∈ ows, x ∈ q.ows) ∧ its.length ≤ q.its.length ∧ ∀ k o', its.length + k < q.its.length → (o :: r)[k]? = some o' → ItOk P cf sm hp neg all tmM q.its q.ows (its.length + k) o' := fun e => by
      subst e; exact ⟨fun _ _ h => h, fun _ h => h, Nat.le_refl _, fun k o h => by simp only at h; omega⟩
    have more : ∀ {it : It} {ows' : List (E × Ow)}, regL P cf sm hp neg all tmM r (its ++ [it]) ows' = q → (∀ x ∈ ows, x ∈ ows') →
        (Pre its q.its → q.its[its.length]? = some it → (∀ x ∈ ows', x ∈ q.ows) → ItOk P cf sm hp neg all tmM q.its q.ows its.length o) →
        Pre its q.its ∧ (∀ x ∈ ows, x ∈ q.ows) ∧ its.length ≤ q.its.length ∧ ∀ k o', its.length + k < q.its.length → (o :: r)[k]? = some o' → ItOk P cf sm hp neg all tmM q.its q.ows (its.length + k) o' := fun {it ows'} h how hit => by
      obtain ⟨h1, h2, h3, h4⟩ := regL_spec h
      have hp1 : Pre its q.its := fun j it' hj => h1 j it' (by rw [List.getElem?_append_left (List.getElem?_eq_some_iff.1 hj).1]; exact hj)
      simp only [List.length_append, List.length_singleton] at h3 h4
      refine ⟨hp1, fun x hx => h2 x (how x hx), by omega, fun k o' hk ho => ?_⟩
      cases k with
      | zero => simp at ho; subst ho; exact hit hp1 (h1 _ _ (by simp)) h2
      | succ k =>
        simp at ho
        have := h4 k o' (by omega) ho
        rwa [show its.length + 1 + k = its.length + (k + 1) by omega] at this
    simp only [regL] at h
    split at h
    · exact stop h.symm
    · rename_i hg
      exact more h (fun _ h => h) fun hp1 hk _ => ⟨its, hp1, .inl ⟨hg, hk⟩⟩
    · rename_i G hg
      split at h
      · rename_i v ow hv
        refine more h (fun x hx => by split; exact hx; exact List.mem_cons_of_mem _ hx) fun hp1 hk hm => ⟨its, hp1, .inr (.inl ⟨G, v, ow, hg, hv, hk, ?_⟩)⟩
        cases hn : ow.none?
        · rw [hn] at hm; exact .inr (hm _ (by simp))
        · exact .inl rfl
      · split at h
        · rename_i hif
          simp only [Bool.and_eq_true] at hif
          split at h
          · rename_i it hit
            exact more h (fun _ h => h) fun hp1 hk _ => ⟨its, hp1, .inr (.inr ⟨G, it, hg, hif.1, hif.2, hit, hk⟩)⟩
          · exact stop h.symm
        · exact stop h.symm

/-! ### What holds in the midst of a region -/
def ItV (ρ : Env) (ls : Ls) (N : Nat) (w : World) : It → Value → Prop
  | .val t, v => RT ρ ls t v
  | .new ty cs, v => ∃ b vs, v = .pointer (some ⟨b, 0, none⟩) ∧ N ≤ b ∧ w.heap[b]? = some (.cells (List.toArray vs) ty (0, 0)) ∧ All2 (RS ρ ls) cs vs
theorem ItV.kept {N : Nat} {w' : World} {it : It} {v : Value} (h : ItV ρ ls N w it v) (hg : w.grownBy w' none) : ItV ρ ls N w' it v := by
  cases it with
  | val t => exact h
  | new ty cs =>
    obtain ⟨b, vs, h1, h2, h3, h4⟩ := h
    exact ⟨b, vs, h1, h2, by rw [hg.block b (Array.getElem?_eq_some_iff.1 h3).1 (by simp)]; exact h3, h4⟩
def It.fresh : It → Bool
  | .new _ _ => true
  | _ => false
structure Mid (ρ : Env) (B : Nat) (w0 : World) (ls : Ls) (hp : SH) (tm : Tms) (ops : Array Oper) (n : Nat) (its : List It) (N : Nat) (listed : Array Bool) (a : Act) (w : World) : Prop where
  dfr : a.defers = []
  sz : a.tmps.size = tm.n
  heap : HOk ρ B w0 ls hp w
  base : N ≤ w.heap.size
  old : ∀ d t, d < tm.n → tm.t.get d = some t → (∀ i, i < n → listed.getD i false = true → dstOf ops i ≠ some d) → RT ρ ls t (a.tmps.getD d undef)
  done : ∀ i it d, i < n → listed.getD i false = true → its[i]? = some it → dstOf ops i = some d → ItV ρ ls N w it (a.tmps.getD d undef)
  apart : ∀ i j x y d e, i < n → j < n → i ≠ j → listed.getD i false = true → listed.getD j false = true → its[i]? = some x → its[j]? = some y → x.fresh = true → y.fresh = true → dstOf ops i = some d → dstOf ops j = some e → a.tmps.getD d undef ≠ a.tmps.getD e undef

/-- The operations' places differ, and are places. -/
def dstsB (m : Nat) : List (Option Tmp) → Bool
  | [] => true
  | none :: r => dstsB m r
  | some d :: r => Nat.blt d m && (r.all fun x => match x with | some e => !(Nat.beq d e) | none => true) && dstsB m r
theorem dstsB_ok {m : Nat} : ∀ {l : List (Option Tmp)}, dstsB m l = true → (∀ (i : Nat) (d : Tmp), l[i]? = some (some d) → d < m) ∧ ∀ (i j : Nat) (d : Tmp), i ≠ j → l[i]? = some (some d) → l[j]? ≠ some (some d)
  | [], _ => ⟨fun i d h => by simp at h, fun i j d _ h => by simp at h⟩
  | none :: r, h => by
    obtain ⟨h1, h2⟩ := dstsB_ok (l := r) h
    refine ⟨fun i d hi => ?_, fun i j d hij hi hj => ?_⟩
    · cases i with
      | zero => simp at hi
      | succ i => exact h1 i d (by simpa using hi)
    · cases i with
      | zero => simp at hi
      | succ i => cases j with
        | zero => simp at hj
        | succ j => exact h2 i j d (by omega) (by simpa using hi) (by simpa using hj)
  | some d0 :: r, h => by
    simp only [dstsB, Bool.and_eq_true] at h
    obtain ⟨⟨h0, hall⟩, h'⟩ := h
    obtain ⟨h1, h2⟩ := dstsB_ok (l := r) h'
    have hlt : d0 < m := Nat.le_of_ble_eq_true h0
    have hne : ∀ (j : Nat), r[j]? ≠ some (some d0) := fun j hj => by
      have := List.all_eq_true.1 hall _ (List.mem_of_getElem? hj)
      simp at this
    refine ⟨fun i d hi => ?_, fun i j d hij hi hj => ?_⟩
    · cases i with
      | zero => simp at hi; subst hi; exact hlt
      | succ i => exact h1 i d (by simpa using hi)
    · cases i with
      | zero =>
        simp at hi; subst hi
        cases j with
        | zero => exact hij rfl
        | succ j => exact hne j (by simpa using hj)
      | succ i => cases j with
        | zero => simp at hj; subst hj; exact hne i (by simpa using hi)
        | succ j => exact h2 i j d (by omega) (by simpa using hi) (by simpa using hj)
theorem getD_set_self {l : Array Bool} {i : Nat} (h : l.getD i true = false) : (l.setIfInBounds i true).getD i false = true := by
  rcases Nat.lt_or_ge i l.size with h' | h'
  · simp [h']
  · simp [Array.getElem?_eq_none h'] at h
theorem put_getD {d : Option Tmp} {u : Value} {e : Nat} : ((a.put d u).tmps.getD e undef = u ∧ d = some e ∧ e < a.tmps.size) ∨ ((a.put d u).tmps.getD e undef = a.tmps.getD e undef ∧ (d ≠ some e ∨ a.tmps.size ≤ e)) := by
  cases d with
  | none => exact .inr ⟨rfl, .inl (by simp)⟩
  | some d =>
    by_cases hd : d = e
    · subst hd
      rcases Nat.lt_or_ge d a.tmps.size with h | h
      · refine .inl ⟨?_, rfl, h⟩
        show (a.tmps.setIfInBounds d u).getD d undef = u
        rw [Array.getD_eq_getD_getElem?, Array.getElem?_setIfInBounds_self_of_lt h]; rfl
      · refine .inr ⟨?_, .inr h⟩
        show (a.tmps.setIfInBounds d u).getD d undef = _
        rw [Array.getD_eq_getD_getElem?, Array.getElem?_eq_none (by simpa using h), Array.getD_eq_getD_getElem?, Array.getElem?_eq_none h]
    · refine .inr ⟨?_, .inl (fun e' => hd (by cases e'; rfl))⟩
      show (a.tmps.setIfInBounds d u).getD e undef = _
      rw [Array.getD_eq_getD_getElem?, Array.getElem?_setIfInBounds_ne hd, ← Array.getD_eq_getD_getElem?]

theorem Mid.step {n N : Nat} {its : List It} {listed : Array Bool} {w' : World} {i : Nat} {it : It} {u : Value} (h : Mid ρ B w0 ls hp tm all n its N listed a w) (hin : i < n) (hun : listed.getD i true = false) (hit : its[i]? = some it)
    (hd : (∀ (i d : Nat), i < n → dstOf all i = some d → d < tm.n) ∧ ∀ (i j d : Nat), i < n → j < n → i ≠ j → dstOf all i = some d → dstOf all j ≠ some d)
    (hg : w.grownBy w' none) (hh : HOk ρ B w0 ls hp w') (hu : ItV ρ ls N w' it u) (hf : it.fresh = true → ∀ b, blkOf (some u) = some b → w.heap.size ≤ b) :
    Mid ρ B w0 ls hp tm all n its N (listed.setIfInBounds i true) (a.put (dstOf all i) u) w' where
  dfr := by cases dstOf all i <;> exact h.dfr
  sz := by
    cases dstOf all i with
    | none => exact h.sz
    | some d => show (a.tmps.setIfInBounds d u).size = _; rw [Array.size_setIfInBounds]; exact h.sz
  heap := hh
  base := Nat.le_trans h.base hg.size
  old := fun d t hdn ht hno => by
    have hni : dstOf all i ≠ some d := hno i hin (getD_set_self hun)
    rcases put_getD (a := a) (d := dstOf all i) (u := u) (e := d) with ⟨_, h2, _⟩ | ⟨h1, _⟩
    · exact (hni h2).elim
    · rw [h1]
      exact h.old d t hdn ht fun j hj hl => hno j hj (getD_set_true hl)
  done := fun j it' d hj hl hit' hdj => by
    rcases put_getD (a := a) (d := dstOf all i) (u := u) (e := d) with ⟨h1, h2, _⟩ | ⟨h1, h2⟩
    · by_cases hij : i = j
      · subst hij
        rw [hit] at hit'; cases hit'
        rw [h1]; exact hu
      · exact (hd.2 i j d hin hj hij h2 hdj).elim
    · by_cases hij : i = j
      · subst hij
        rcases h2 with h2 | h2
        · exact (h2 hdj).elim
        · have := hd.1 i d hin hdj
          rw [h.sz] at h2; omega
      · rw [h1]
        rw [getD_set_ne false hij] at hl
        exact (h.done j it' d hj hl hit' hdj).kept hg
  apart := fun j k x y d e hj hk hjk lj lk hx hy fx fy dj dk => by
    have hsame : ∀ {j : Nat} {d : Tmp}, j < n → j ≠ i → dstOf all j = some d → (a.put (dstOf all i) u).tmps.getD d undef = a.tmps.getD d undef := fun {j d} hj hji hdj => by
      rcases put_getD (a := a) (d := dstOf all i) (u := u) (e := d) with ⟨_, h2, _⟩ | ⟨h1, _⟩
      · exact (hd.2 i j d hin hj (Ne.symm hji) h2 hdj).elim
      · exact h1
    have hself : ∀ {d : Tmp}, dstOf all i = some d → (a.put (dstOf all i) u).tmps.getD d undef = u := fun {d} hdi => by
      rcases put_getD (a := a) (d := dstOf all i) (u := u) (e := d) with ⟨h1, _, _⟩ | ⟨_, h2⟩
      · exact h1
      · rcases h2 with h2 | h2
        · exact (h2 hdi).elim
        · have := hd.1 i d hin hdi
          rw [h.sz] at h2; omega
    have hnew : ∀ {j : Nat} {x : It} {d : Tmp}, j < n → j ≠ i → (listed.setIfInBounds i true).getD j false = true → its[j]? = some x → x.fresh = true → dstOf all j = some d → it.fresh = true → u ≠ a.tmps.getD d undef := fun {j x d} hj hji hl hx fx hdj fit e => by
      rw [getD_set_ne false (Ne.symm hji)] at hl
      have := h.done j x d hj hl hx hdj
      cases x with
      | val t => cases fx
      | new ty cs =>
        obtain ⟨b, vs, h1, h2, h3, _⟩ := this
        have hb := hf fit b (by rw [e, h1]; rfl)
        have := (Array.getElem?_eq_some_iff.1 h3).1
        omega
    by_cases hji : j = i
    · subst hji
      rw [hit] at hx; cases hx
      rw [hself dj, hsame hk (Ne.symm hjk) dk]
      exact hnew hk (Ne.symm hjk) lk hy fy dk fx
    · by_cases hki : k = i
      · subst hki
        rw [hit] at hy; cases hy
        rw [hself dk, hsame hj hji dj]
        exact fun e => hnew hj hji lj hx fx dj fy e.symm
      · rw [hsame hj hji dj, hsame hk hki dk]
        rw [getD_set_ne false (Ne.symm hji)] at lj
        rw [getD_set_ne false (Ne.symm hki)] at lk
        exact h.apart j k x y d e hj hk hjk lj lk hx hy fx fy dj dk
end
end Vc
end Go.Proofs.YtfpecoddgdcaaaaDoor
