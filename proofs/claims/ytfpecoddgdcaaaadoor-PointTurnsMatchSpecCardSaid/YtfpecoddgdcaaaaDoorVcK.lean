/- Equality of structs and arrays of integers and truth values is equality part by part. -/
import Derived.Test.YtfpecoddgdcaaaaDoorVcJ
namespace Go.Proofs.YtfpecoddgdcaaaaDoor
namespace Vc
open Go Go.RowKit

def flatFs (P : Program) (F : TypeId → Option (List Kd)) : Nat → List Field → Option (List Kd)
  | _, [] => some []
  | off, f :: fs => if f.offset = off ∧ f.name ≠ "_" then (match F f.type, szOf P f.type with
    | some ks, some n => if n = ks.length then (match flatFs P F (off + n) fs with | some r => some (ks ++ r) | none => none) else none
    | _, _ => none) else none
def repL (ks : List Kd) : Nat → List Kd
  | 0 => []
  | n + 1 => ks ++ repL ks n
def flatT (P : Program) : Nat → TypeId → Option (List Kd)
  | 0, _ => none
  | d + 1, t => match P.underlying t with
    | some .bool => some [.bool]
    | some (.int k) => some [.int k]
    | some (.struct fs) => if P.stoodInHeld t then none else flatFs P (flatT P d) 0 fs.toList
    | some (.array n e) => (match flatT P d e, P.info? e with
      | some ks, some i => if i.size = ks.length then some (repL ks n) else none
      | _, _ => none)
    | _ => none

def IsV (P : Program) (t : TypeId) (xs : List Value) (u : Value) : Prop := (aggOf P t = some true ∧ u = .agg xs.toArray) ∨ (aggOf P t = some false ∧ xs = [u])
theorem IsV.agg {P : Program} {t : TypeId} {xs : List Value} {u : Value} (h : IsV P t xs u) (ha : aggOf P t = some true) : u = .agg xs.toArray := by
  rcases h with ⟨_, h⟩ | ⟨e, _⟩
  · exact h
  · rw [ha] at e; cases e
def EqF (P : Program) (dd : Nat) (t : TypeId) (ks : List Kd) : Prop :=
  ∀ (w : World) (xs ys : List Value) (u v : Value), All2 KdV ks xs → All2 KdV ks ys → IsV P t xs u → IsV P t ys v → (Op.equalIn dd t u v).run P w = .ok (eqVs xs ys) w

theorem eqVs_append : ∀ {a c b d : List Value}, a.length = c.length → eqVs (a ++ b) (c ++ d) = (eqVs a c && eqVs b d)
  | [], [], _, _, _ => rfl
  | x :: a, y :: c, b, d, h => by
    simp only [List.cons_append, eqVs]
    rw [eqVs_append (by simpa using h), Bool.and_assoc]
  | [], _ :: _, _, _, h => by cases h
  | _ :: _, [], _, _, h => by cases h
theorem All2.split {α β : Type} {R : α → β → Prop} : ∀ {a b : List α} {c : List β}, All2 R (a ++ b) c → All2 R a (c.take a.length) ∧ All2 R b (c.drop a.length)
  | [], b, c, h => ⟨by simp [All2], by simpa using h⟩
  | x :: a, b, [], h => h.elim
  | x :: a, b, y :: c, h => by
    obtain ⟨h1, h2⟩ := All2.split h.2
    exact ⟨⟨h.1, h1⟩, h2⟩

section
variable {P : Program}
theorem agg_of_flatT {d : Nat} {t : TypeId} {ks : List Kd} (h : flatT P d t = some ks) : aggOf P t = some true ∨ (aggOf P t = some false ∧ ks.length = 1) := by
  cases d with
  | zero => cases h
  | succ d =>
    simp only [flatT] at h
    unfold aggOf
    split at h
    · rename_i e; rw [e]; cases h; exact .inr ⟨rfl, rfl⟩
    · rename_i e; rw [e]; cases h; exact .inr ⟨rfl, rfl⟩
    · rename_i e; rw [e]; exact .inl rfl
    · rename_i e; rw [e]; exact .inl rfl
    · cases h
theorem part_flat {d : Nat} {t : TypeId} {ks : List Kd} (h : flatT P d t = some ks) (hs : szOf P t = some ks.length) {xs : List Value} {off : Nat} (hl : All2 KdV ks ((xs.drop off).take ks.length)) (w : World) :
    ∃ u, (part t xs.toArray off).run P w = .ok u w ∧ IsV P t ((xs.drop off).take ks.length) u := by
  rcases agg_of_flatT h with ha | ⟨ha, h1⟩
  · refine ⟨.agg ((xs.drop off).take ks.length).toArray, ?_, .inl ⟨ha, rfl⟩⟩
    simp [part, run_isAgg ha, run_sizeOf hs]
  · have hlen := hl.len
    rw [h1] at hlen ⊢
    have hlt : off < xs.length := by
      rcases Nat.lt_or_ge off xs.length with h' | h'
      · exact h'
      · rw [List.drop_of_length_le h'] at hlen; simp at hlen
    have e1 : (xs.drop off).take 1 = [xs[off]] := by rw [List.drop_eq_getElem_cons hlt]; rfl
    refine ⟨xs[off], ?_, .inr ⟨ha, e1⟩⟩
    simp [part, run_isAgg ha, hlt]

theorem fields_flat {dd : Nat} {F : TypeId → Option (List Kd)} {d : Nat} (hF : F = flatT P d) (IH : ∀ t ks, flatT P d t = some ks → EqF P dd t ks) : ∀ {fs : List Field} {off : Nat} {ks : List Kd} {xs ys : List Value} (w : World),
    flatFs P F off fs = some ks → All2 KdV ks (xs.drop off) → All2 KdV ks (ys.drop off) → (Op.eqFields dd xs.toArray ys.toArray fs).run P w = .ok (eqVs (xs.drop off) (ys.drop off)) w
  | [], off, ks, xs, ys, w, h, hx, hy => by
    cases h
    have e1 : xs.drop off = [] := List.eq_nil_of_length_eq_zero hx.len.symm
    have e2 : ys.drop off = [] := List.eq_nil_of_length_eq_zero hy.len.symm
    rw [e1, e2]; rfl
  | f :: fs, off, ks, xs, ys, w, h, hx, hy => by
    simp only [flatFs] at h
    split at h
    · rename_i hf
      obtain ⟨rfl, hn⟩ := hf
      split at h
      · rename_i k n hk hs
        split at h
        · rename_i hnk
          subst hnk
          split at h
          · rename_i r hr
            cases h
            rw [hF] at hk
            obtain ⟨x1, x2⟩ := All2.split hx
            obtain ⟨y1, y2⟩ := All2.split hy
            obtain ⟨u, hu, iu⟩ := part_flat hk hs x1 w
            obtain ⟨v, hv, iv⟩ := part_flat hk hs y1 w
            have he := IH _ _ hk w _ _ u v x1 y1 iu iv
            rw [List.drop_drop] at x2 y2
            have hrest := fields_flat hF IH (xs := xs) (ys := ys) w hr x2 y2
            have hlx : ((xs.drop f.offset).take k.length).length = ((ys.drop f.offset).take k.length).length := by rw [← x1.len, ← y1.len]
            have e1 : xs.drop f.offset = (xs.drop f.offset).take k.length ++ xs.drop (f.offset + k.length) := by rw [← List.drop_drop, List.take_append_drop]
            have e2 : ys.drop f.offset = (ys.drop f.offset).take k.length ++ ys.drop (f.offset + k.length) := by rw [← List.drop_drop, List.take_append_drop]
            have hgoal : eqVs (xs.drop f.offset) (ys.drop f.offset) = (eqVs ((xs.drop f.offset).take k.length) ((ys.drop f.offset).take k.length) && eqVs (xs.drop (f.offset + k.length)) (ys.drop (f.offset + k.length))) := by
              conv => lhs; rw [e1, e2]
              exact eqVs_append hlx
            rw [hgoal]
            simp only [Op.eqFields, hn, ne_eq, not_false_eq_true, if_true, Sem.run_bind, hu, hv, he, Result.andThen_ok]
            cases eqVs ((xs.drop f.offset).take k.length) ((ys.drop f.offset).take k.length)
            · simp
            · simpa using hrest
          · cases h
        · cases h
      · cases h
    · cases h

theorem items_flat {dd : Nat} {d : Nat} {e : TypeId} {ks : List Kd} (hk : flatT P d e = some ks) (hs : szOf P e = some ks.length) (IH : EqF P dd e ks) : ∀ {n j : Nat} {xs ys : List Value} (w : World),
    All2 KdV (repL ks n) (xs.drop (j * ks.length)) → All2 KdV (repL ks n) (ys.drop (j * ks.length)) → (Op.eqItems dd e ks.length xs.toArray ys.toArray (List.range' j n)).run P w = .ok (eqVs (xs.drop (j * ks.length)) (ys.drop (j * ks.length))) w
  | 0, j, xs, ys, w, hx, hy => by
    have e1 : xs.drop (j * ks.length) = [] := List.eq_nil_of_length_eq_zero hx.len.symm
    have e2 : ys.drop (j * ks.length) = [] := List.eq_nil_of_length_eq_zero hy.len.symm
    rw [e1, e2]; rfl
  | n + 1, j, xs, ys, w, hx, hy => by
    obtain ⟨x1, x2⟩ := All2.split (a := ks) hx
    obtain ⟨y1, y2⟩ := All2.split (a := ks) hy
    obtain ⟨u, hu, iu⟩ := part_flat hk hs x1 w
    obtain ⟨v, hv, iv⟩ := part_flat hk hs y1 w
    have he := IH w _ _ u v x1 y1 iu iv
    have ej : j * ks.length + ks.length = (j + 1) * ks.length := by rw [Nat.add_mul]; omega
    rw [List.drop_drop, ej] at x2 y2
    have hrest := items_flat hk hs IH (xs := xs) (ys := ys) w x2 y2
    have hlx : ((xs.drop (j * ks.length)).take ks.length).length = ((ys.drop (j * ks.length)).take ks.length).length := by rw [← x1.len, ← y1.len]
    have e1 : xs.drop (j * ks.length) = (xs.drop (j * ks.length)).take ks.length ++ xs.drop ((j + 1) * ks.length) := by rw [← ej, ← List.drop_drop, List.take_append_drop]
    have e2 : ys.drop (j * ks.length) = (ys.drop (j * ks.length)).take ks.length ++ ys.drop ((j + 1) * ks.length) := by rw [← ej, ← List.drop_drop, List.take_append_drop]
    have hgoal : eqVs (xs.drop (j * ks.length)) (ys.drop (j * ks.length)) = (eqVs ((xs.drop (j * ks.length)).take ks.length) ((ys.drop (j * ks.length)).take ks.length) && eqVs (xs.drop ((j + 1) * ks.length)) (ys.drop ((j + 1) * ks.length))) := by
      conv => lhs; rw [e1, e2]
      exact eqVs_append hlx
    rw [hgoal]
    simp only [List.range'_succ, Op.eqItems, Sem.run_bind, hu, hv, he, Result.andThen_ok]
    cases eqVs ((xs.drop (j * ks.length)).take ks.length) ((ys.drop (j * ks.length)).take ks.length)
    · simp
    · simpa using hrest

theorem flatT_ok : ∀ (d dd : Nat) (t : TypeId) (ks : List Kd), d ≤ dd → flatT P d t = some ks → EqF P dd t ks
  | 0, _, _, _, _, h => by cases h
  | d + 1, 0, _, _, hd, _ => by omega
  | d + 1, dd + 1, t, ks, hd, h => by
    intro w xs ys u v hx hy iu iv
    simp only [flatT] at h
    split at h
    · rename_i ht
      cases h
      have ha : aggOf P t = some false := by unfold aggOf; rw [ht]
      rcases iu with ⟨e, _⟩ | ⟨_, rfl⟩
      · rw [ha] at e; cases e
      rcases iv with ⟨e, _⟩ | ⟨_, rfl⟩
      · rw [ha] at e; cases e
      obtain ⟨a, rfl⟩ := hx.1
      obtain ⟨b, rfl⟩ := hy.1
      rw [run_equalIn_bool' w dd t a b ht]
      simp [eqVs, eqV1]
    · rename_i k ht
      cases h
      have ha : aggOf P t = some false := by unfold aggOf; rw [ht]
      rcases iu with ⟨e, _⟩ | ⟨_, rfl⟩
      · rw [ha] at e; cases e
      rcases iv with ⟨e, _⟩ | ⟨_, rfl⟩
      · rw [ha] at e; cases e
      obtain ⟨a, rfl⟩ := hx.1
      obtain ⟨b, rfl⟩ := hy.1
      rw [run_equalIn_int w dd t k k a b ht]
      simp [eqVs, eqV1]
    · rename_i fs ht
      split at h
      · cases h
      · rename_i hst
        have ha : aggOf P t = some true := by unfold aggOf; rw [ht]
        obtain rfl := iu.agg ha
        obtain rfl := iv.agg ha
        have hfs : P.fieldsOf t = fs := by simp [Program.fieldsOf, ht]
        rw [run_equalIn_struct w dd t _ _ (by rw [hfs]; exact ht) (by simpa using hst), hfs]
        exact fields_flat rfl (fun t' ks' h' => flatT_ok d dd t' ks' (by omega) h') (xs := xs) (ys := ys) w h hx hy
    · rename_i n e ht
      split at h
      · rename_i ks' i hk hi
        split at h
        · rename_i hsz
          cases h
          have ha : aggOf P t = some true := by unfold aggOf; rw [ht]
          obtain rfl := iu.agg ha
          obtain rfl := iv.agg ha
          have hs : szOf P e = some ks'.length := by simp [szOf, hi, hsz]
          have hc : P.cellsOf e = ks'.length := by simp [Program.cellsOf, hi, hsz]
          rw [run_equalIn_array w dd _ _ ht hi, hc, List.range_eq_range']
          have := items_flat hk hs (flatT_ok d dd e ks' (by omega) hk) (n := n) (j := 0) (xs := xs) (ys := ys) w (by simpa using hx) (by simpa using hy)
          simpa using this
        · cases h
      · cases h
    · cases h

theorem FlatEq.of {t : TypeId} {ks : List Kd} (h : flatT P 9 t = some ks) (ha : aggOf P t = some true) (hg : P.eqGuardType P.depth t = false) : FlatEq P t ks where
  guard := hg
  eq := fun xs ys w hx hy => flatT_ok 9 10000 t ks (by decide) h w xs ys _ _ hx hy (.inl ⟨ha, rfl⟩) (.inl ⟨ha, rfl⟩)
def eqTOk (P : Program) : List (TypeId × List Kd) → Bool
  | [] => true
  | (t, ks) :: r => decide (flatT P 9 t = some ks) && (match aggOf P t with | some true => true | _ => false) && !P.eqGuardType P.depth t && eqTOk P r
theorem eqTOk_ok : ∀ {l : List (TypeId × List Kd)}, eqTOk P l = true → ∀ t ks, lookEq l t = some ks → FlatEq P t ks
  | [], _, _, _, h => by cases h
  | (u, k) :: r, h, t, ks, hl => by
    simp only [eqTOk, Bool.and_eq_true, decide_eq_true_eq, Bool.not_eq_true'] at h
    obtain ⟨⟨⟨h1, h2⟩, h3⟩, h4⟩ := h
    simp only [lookEq] at hl
    split at hl
    · rename_i he
      cases hl
      have : u = t := by simpa using he
      subst this
      refine FlatEq.of h1 ?_ h3
      split at h2
      · assumption
      · cases h2
    · exact eqTOk_ok h4 t ks hl

/-- The functions that are walked into are the program's. -/
def FnsOk (P : Program) : List (FuncId × Func) → Prop
  | [] => True
  | (f, fn) :: r => (P.funcs[f]? = some fn ∧ (fn.name == "runtime.NumGoroutine") = false) ∧ FnsOk P r
theorem FnsOk.look : ∀ {l : List (FuncId × Func)}, FnsOk P l → ∀ f fn, lookFn l f = some fn → P.funcs[f]? = some fn ∧ (fn.name == "runtime.NumGoroutine") = false
  | [], _, _, _, h => by cases h
  | (g, fn') :: r, h, f, fn, hl => by
    simp only [lookFn] at hl
    split at hl
    · rename_i he
      cases hl
      have : g = f := by simpa using he
      subst this
      exact h.1
    · exact FnsOk.look h.2 f fn hl
end
end Vc
end Go.Proofs.YtfpecoddgdcaaaaDoor
