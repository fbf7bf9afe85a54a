/- A contract out of a walk: what is left at the end of each path is reckoned. -/
import Derived.Test.YtelbilnnmmbmdaaDoorVdI
namespace Go.Proofs.YtelbilnnmmbmdaaDoor
namespace Vc
open Go Go.RowKit
set_option linter.unusedVariables false
def ckChk (ρ : Env) (hp : SH) (x : X) : Ck → SC → Bool
 | .int k lo hi, .int k' e _ _ => decide (k = k') && (x.i == evI ρ e) && decide (lo ≤ x.i) && decide (x.i ≤ hi)
 | .bool, .bool e => x.b == evB ρ e
 | .ln hi, s => (match slen hp (.c s) with | some (.int .i64 e _ _) => (x.i == evI ρ e) && decide (0 ≤ x.i) && decide (x.i ≤ hi) | _ => false)
 | .cst (.bool b), .bool e => b == evB ρ e
 | .cst (.int k n), .int k' e _ _ => decide (k = k') && (n == evI ρ e)
 | _, _ => false
def ckChkL (ρ : Env) (hp : SH) (f : Nat → X) : Nat → List Ck → List SC → Bool
 | _, [], [] => true
 | j, r :: rs, s :: ss => ckChk ρ hp (f j) r s && ckChkL ρ hp f (j + 1) rs ss
 | _, _, _ => false
def ckChkT (ρ : Env) (hp : SH) (f : Nat → X) : Nat → List (Bool × List Ck) → List (Bool × List SC) → Bool
 | _, [], [] => true
 | j, (true, rs) :: l, (true, ss) :: m => ckChkL ρ hp f j rs ss && ckChkT ρ hp f (j + rs.length) l m
 | j, (false, [r]) :: l, (false, [s]) :: m => ckChk ρ hp (f j) r s && ckChkT ρ hp f (j + 1) l m
 | _, _, _ => false
def resChk (ρ : Env) (hp : SH) (f : Nat → X) (j : Nat) : Rs → SV → Bool
 | .one r, .c s => ckChk ρ hp (f j) r s
 | .agg rs, .agg ss => ckChkL ρ hp f j rs ss
 | .tup l, .tup m => ckChkT ρ hp f j l m
 | _, _ => false
def resCnt : Rs → Nat
 | .one _ => 1
 | .agg rs => rs.length
 | .tup l => (l.map fun x => x.2.length).sum
theorem ckL_congr {f g : Nat → X} : ∀ {rs : List Ck} {j : Nat} {vs : List Value}, (∀ k, k < rs.length → f (j + k) = g (j + k)) → ckL f j rs vs → ckL g j rs vs
 | [], _, [], _, _ => trivial
 | r :: rs, j, v :: vs, h, hh => by
  refine ⟨?_, ckL_congr (j := j + 1) (fun k hk => by have := h (k + 1) (by simpa using hk); rwa [show j + (k + 1) = j + 1 + k by omega] at this) hh.2⟩
  have := h 0 (by simp)
  rw [Nat.add_zero] at this
  rw [← this]; exact hh.1
 | [], _, _ :: _, _, hh => hh.elim
 | _ :: _, _, [], _, hh => hh.elim
theorem ckT_congr {f g : Nat → X} : ∀ {l : List (Bool × List Ck)} {j : Nat} {vs : List Value}, (∀ k, k < (l.map fun x => x.2.length).sum → f (j + k) = g (j + k)) → ckT f j l vs → ckT g j l vs
 | [], _, [], _, _ => trivial
 | (true, rs) :: l, j, v :: vs, h, hh => by
  simp only [List.map_cons, List.sum_cons] at h
  obtain ⟨⟨us, e, h1⟩, h2⟩ := hh
  refine ⟨⟨us, e, ckL_congr (fun k hk => h k (by omega)) h1⟩, ckT_congr (j := j + rs.length) (fun k hk => ?_) h2⟩
  have := h (rs.length + k) (by omega)
  rwa [show j + (rs.length + k) = j + rs.length + k by omega] at this
 | (false, [r]) :: l, j, v :: vs, h, hh => by
  simp only [List.map_cons, List.sum_cons, List.length_singleton] at h
  refine ⟨?_, ckT_congr (j := j + 1) (fun k hk => ?_) hh.2⟩
  ·have := h 0 (by omega)
   rw [Nat.add_zero] at this
   rw [← this]; exact hh.1
  ·have := h (1 + k) (by omega)
   rwa [show j + (1 + k) = j + 1 + k by omega] at this
 | [], _, _ :: _, _, hh => hh.elim
 | (false, []) :: _, _, _ :: _, _, hh => hh.elim
 | (false, _ :: _ :: _) :: _, _, _ :: _, _, hh => hh.elim
 | (_, _) :: _, _, [], _, hh => by simp [ckT] at hh
theorem resOk_congr {f g : Nat → X} {j : Nat} {r : Rs} {v : Value} (h : ∀ k, k < resCnt r → f (j + k) = g (j + k)) (hh : resOk f j r v) : resOk g j r v := by
 cases r with
 | one r =>
  have := h 0 (by simp [resCnt])
  rw [Nat.add_zero] at this
  show ckOk (g j) r v
  rw [← this]; exact hh
 | agg rs => obtain ⟨us, e, h1⟩ := hh; exact ⟨us, e, ckL_congr h h1⟩
 | tup l => obtain ⟨us, e, h1⟩ := hh; exact ⟨us, e, ckT_congr h h1⟩
def Fm.chk (ρ : Env) (f : Nat → X) (j : Nat) (r : Rs) : Fm → Bool
 | .tru => true
 | .fls => false
 | .and a b => a.chk ρ f j r && b.chk ρ f j r
 | .imp g a => bif evB ρ g then a.chk ρ f j r else true
 | .tst e => evB ρ e
 | .pre _ _ => false
 | .leaf v hp => resChk ρ hp f j r v
 | _ => false
section
variable {P : Program} {ρ : Env} {B : Nat} {w0 w : World} {ls : Ls} {hp : SH} {cf : Cfg}
theorem ckChk_ok {x : X} {r : Ck} {s : SC} {v : Value} (h : ckChk ρ hp x r s = true) (hh : HOk ρ B w0 ls hp w) (hr : RS ρ ls s v) : ckOk x r v := by
 unfold ckChk at h
 split at h
 ·simp only [Bool.and_eq_true, decide_eq_true_eq, beq_iff_eq] at h
  obtain ⟨⟨⟨rfl, h2⟩, h3⟩, h4⟩ := h
  exact ⟨by rw [hr.1, h2], h3, h4⟩
 ·have hr' : v = _ := hr
  simp only [beq_iff_eq] at h
  show v = .bool x.b
  rw [hr', h]
 ·split at h
  ·rename_i e l u hs
   simp only [Bool.and_eq_true, decide_eq_true_eq, beq_iff_eq] at h
   obtain ⟨⟨h2, h3⟩, h4⟩ := h
   obtain ⟨A, n, c, rfl, g1, _, _⟩ := slen_ok (x := .c s) hs hh hr
   injection g1 with _ g1
   exact ⟨A, c, by rw [h2, ← g1]; rfl, h3, h4⟩
  ·cases h
 ·have hr' : v = _ := hr
  simp only [beq_iff_eq] at h
  show v = .bool _
  rw [hr', h]
 ·simp only [Bool.and_eq_true, decide_eq_true_eq, beq_iff_eq] at h
  obtain ⟨rfl, h2⟩ := h
  show v = .int _ _
  rw [hr.1, h2]
 ·cases h
theorem ckChkL_ok {f : Nat → X} (hh : HOk ρ B w0 ls hp w) : ∀ {rs : List Ck} {j : Nat} {ss : List SC} {vs : List Value}, ckChkL ρ hp f j rs ss = true → All2 (RS ρ ls) ss vs → ckL f j rs vs
 | [], _, [], [], _, _ => trivial
 | _ :: _, _, _ :: _, _ :: _, h, hr => by
  simp only [ckChkL, Bool.and_eq_true] at h
  exact ⟨ckChk_ok h.1 hh hr.1, ckChkL_ok hh h.2 hr.2⟩
 | [], _, [], _ :: _, _, hr => hr.elim
 | [], _, _ :: _, _, h, _ => by cases h
 | _ :: _, _, [], _, h, _ => by cases h
 | _ :: _, _, _ :: _, [], _, hr => hr.elim
theorem ckChkT_ok {f : Nat → X} (hh : HOk ρ B w0 ls hp w) : ∀ {l : List (Bool × List Ck)} {j : Nat} {m : List (Bool × List SC)} {vs : List Value}, ckChkT ρ hp f j l m = true → All2 (RE ρ ls) m vs → ckT f j l vs
 | [], _, [], [], _, _ => trivial
 | (true, rs) :: l, j, (true, ss) :: m, v :: vs, h, hr => by
  simp only [ckChkT, Bool.and_eq_true] at h
  obtain ⟨⟨us, rfl, h1⟩, h2⟩ := hr
  exact ⟨⟨us, rfl, ckChkL_ok hh h.1 h1⟩, ckChkT_ok hh h.2 h2⟩
 | (false, [r]) :: l, j, (false, [s]) :: m, v :: vs, h, hr => by
  simp only [ckChkT, Bool.and_eq_true] at h
  exact ⟨ckChk_ok h.1 hh hr.1, ckChkT_ok hh h.2 hr.2⟩
 | [], _, [], _ :: _, _, hr => hr.elim
 | [], _, _ :: _, _, h, _ => by cases h
 | _ :: _, _, [], _, h, _ => by simp [ckChkT] at h
 | (true, _) :: _, _, (false, _) :: _, _, h, _ => by simp [ckChkT] at h
 | (false, _) :: _, _, (true, _) :: _, _, h, _ => by simp [ckChkT] at h
 | (true, _) :: _, _, (true, _) :: _, [], _, hr => hr.elim
 | (false, [_]) :: _, _, (false, [_]) :: _, [], _, hr => hr.elim
 | (false, []) :: _, _, (false, _) :: _, _, h, _ => by simp [ckChkT] at h
 | (false, _ :: _ :: _) :: _, _, (false, _) :: _, _, h, _ => by simp [ckChkT] at h
 | (false, [_]) :: _, _, (false, []) :: _, _, h, _ => by simp [ckChkT] at h
 | (false, [_]) :: _, _, (false, _ :: _ :: _) :: _, _, h, _ => by simp [ckChkT] at h
theorem resChk_ok {f : Nat → X} {j : Nat} {r : Rs} {s : SV} {v : Value} (h : resChk ρ hp f j r s = true) (hh : HOk ρ B w0 ls hp w) (hr : RV ρ ls s v) : resOk f j r v := by
 unfold resChk at h
 split at h
 ·exact ckChk_ok h hh hr
 ·obtain ⟨us, rfl, h1⟩ := hr; exact ⟨us, rfl, ckChkL_ok hh h h1⟩
 ·obtain ⟨us, rfl, h1⟩ := hr; exact ⟨us, rfl, ckChkT_ok hh h h1⟩
 ·cases h
theorem ckChk_wk {k : Nat → Option Loop} {x : X} {r : Ck} {s : SC} : ckChk (ρ.wk k) hp x r s = ckChk ρ hp x r s := by
 unfold ckChk
 simp only [evI_wk, evB_wk]
theorem ckChkL_wk {k : Nat → Option Loop} {f : Nat → X} : ∀ {rs : List Ck} {j : Nat} {ss : List SC}, ckChkL (ρ.wk k) hp f j rs ss = ckChkL ρ hp f j rs ss
 | [], _, [] => rfl
 | _ :: _, _, _ :: _ => by simp only [ckChkL]; rw [ckChk_wk, ckChkL_wk]
 | [], _, _ :: _ => rfl
 | _ :: _, _, [] => rfl
theorem ckChkT_wk {k : Nat → Option Loop} {f : Nat → X} : ∀ {l : List (Bool × List Ck)} {j : Nat} {m : List (Bool × List SC)}, ckChkT (ρ.wk k) hp f j l m = ckChkT ρ hp f j l m
 | [], _, [] => rfl
 | (true, rs) :: l, j, (true, ss) :: m => by simp only [ckChkT]; rw [ckChkL_wk, ckChkT_wk]
 | (false, [r]) :: l, j, (false, [s]) :: m => by simp only [ckChkT]; rw [ckChk_wk, ckChkT_wk]
 | [], _, _ :: _ => rfl
 | _ :: _, _, [] => by simp [ckChkT]
 | (true, _) :: _, _, (false, _) :: _ => by simp [ckChkT]
 | (false, _) :: _, _, (true, _) :: _ => by simp [ckChkT]
 | (false, []) :: _, _, (false, _) :: _ => by simp [ckChkT]
 | (false, _ :: _ :: _) :: _, _, (false, _) :: _ => by simp [ckChkT]
 | (false, [_]) :: _, _, (false, []) :: _ => by simp [ckChkT]
 | (false, [_]) :: _, _, (false, _ :: _ :: _) :: _ => by simp [ckChkT]
theorem resChk_wk {k : Nat → Option Loop} {f : Nat → X} {j : Nat} {r : Rs} {s : SV} : resChk (ρ.wk k) hp f j r s = resChk ρ hp f j r s := by
 unfold resChk
 split
 ·exact ckChk_wk
 ·exact ckChkL_wk
 ·exact ckChkT_wk
 ·rfl
theorem chk_ok {f : Nat → X} {j : Nat} {r : Rs} : ∀ {F : Fm}, F.chk ρ f j r = true → F.holds (fun ρ => LeafOk ρ B w0 fun e w' => ∃ v, e = .returned v ∧ resOk f j r v ∧ Below w0.heap.size w0 w') ρ
 | .tru, _ => trivial
 | .fls, h => by cases h
 | .and a b, h => by
  simp only [Fm.chk, Bool.and_eq_true] at h
  exact ⟨chk_ok h.1, chk_ok h.2⟩
 | .imp g a, h => fun hg => by
  have hg' := (evP_iff ρ g).1 hg
  simp only [Fm.chk, hg', cond_true] at h
  exact chk_ok h
 | .tst e, h => (evP_iff ρ e).2 h
 | .pre _ _, h => by cases h
 | .leaf v hp, h => fun k ls w' val hh hr => ⟨val, rfl, resChk_ok (by rw [resChk_wk]; exact h) hh hr, by have := hh.below; rw [hh.base] at this; exact this⟩
 | .all _ _, h => by cases h
 | .impP _ _ _, h => by cases h
 | .rowH _ _ _ _ _, h => by cases h
theorem ctr_walk {c : Ctr} {fn : Func} {code : Code} (hc : CfgOk P ρ cf) (hf : P.funcs[c.f]? = some fn) (hb : fn.body = some code) (n : Nat) {ds : List X} {w : World} (hg : GlobOk ρ.g w.heap.size w) (x : Nat → X) {vs : List SV} (hv : All2 (RV { ρ with x := x } []) vs (argV c.args ds))
 (h : (go P cf c.f fn n (.code code) [] (begin0 fn vs) [] none).chk { ρ with x := x } (fun j => ρ.f j ds) c.fs c.res = true) :
 Calls P c.f (argV c.args ds).toArray w fun e w' => ∃ v, e = .returned v ∧ resOk (fun j => ρ.f j ds) c.fs c.res v ∧ Below w.heap.size w w' :=
 call_ok (ρ := { ρ with x := x }) (hc.withX x) hf hb n hg hv (chk_ok h)
end
end Vc
end Go.Proofs.YtelbilnnmmbmdaaDoor
namespace Go.Proofs.YtelbilnnmmbmdaaDoor
namespace Vc
open Go Go.RowKit
set_option linter.unusedVariables false
def flatFs (P : Program) (F : TypeId → Option (List Kd)) : Nat → List Field → Option (List Kd)
 | _, [] => some []
 | off, f :: fs => if f.offset = off ∧ f.name ≠ "_" then (match F f.type, szOf P f.type with
  | some ks, some n => if n = ks.length then (match flatFs P F (off + n) fs with | some r => some (ks ++ r) | none => none) else none
  | _, _ => none) else none
def repL (ks : List Kd) : Nat → List Kd
 | 0 => []
 | n + 1 => ks ++ repL ks n
def flatT (P : Program) : Nat → TypeId → Option (List Kd)
 | 0, _ => none
 | d + 1, t => match P.underlying t with
  | some .bool => some [.bool]
  | some (.int k) => some [.int k]
  | some .string => some [.str]
  | some (.struct fs) => if P.stoodInHeld t then none else flatFs P (flatT P d) 0 fs.toList
  | some (.array n e) => (match flatT P d e, P.info? e with
   | some ks, some i => if i.size = ks.length then some (repL ks n) else none
   | _, _ => none)
  | _ => none
def IsV (P : Program) (t : TypeId) (xs : List Value) (u : Value) : Prop := (aggOf P t = some true ∧ u = .agg xs.toArray) ∨ (aggOf P t = some false ∧ xs = [u])
theorem IsV.agg {P : Program} {t : TypeId} {xs : List Value} {u : Value} (h : IsV P t xs u) (ha : aggOf P t = some true) : u = .agg xs.toArray := by
 rcases h with ⟨_, h⟩ | ⟨e, _⟩
 ·exact h
 ·rw [ha] at e; cases e
def EqF (P : Program) (dd : Nat) (t : TypeId) (ks : List Kd) : Prop :=
 ∀ (w : World) (xs ys : List Value) (u v : Value), All2 KdV ks xs → All2 KdV ks ys → IsV P t xs u → IsV P t ys v → (Op.equalIn dd t u v).run P w = .ok (eqVs xs ys) w
theorem eqVs_append : ∀ {a c b d : List Value}, a.length = c.length → eqVs (a ++ b) (c ++ d) = (eqVs a c && eqVs b d)
 | [], [], _, _, _ => rfl
 | x :: a, y :: c, b, d, h => by
  simp only [List.cons_append, eqVs]
  rw [eqVs_append (by simpa using h), Bool.and_assoc]
 | [], _ :: _, _, _, h => by cases h
 | _ :: _, [], _, _, h => by cases h
theorem All2.split {α β : Type} {R : α → β → Prop} : ∀ {a b : List α} {c : List β}, All2 R (a ++ b) c → All2 R a (c.take a.length) ∧ All2 R b (c.drop a.length)
 | [], b, c, h => ⟨by simp [All2], by simpa using h⟩
 | x :: a, b, [], h => h.elim
 | x :: a, b, y :: c, h => by
  obtain ⟨h1, h2⟩ := All2.split h.2
  exact ⟨⟨h.1, h1⟩, h2⟩
section
variable {P : Program}
theorem agg_of_flatT {d : Nat} {t : TypeId} {ks : List Kd} (h : flatT P d t = some ks) : aggOf P t = some true ∨ (aggOf P t = some false ∧ ks.length = 1) := by
 cases d with
 | zero => cases h
 | succ d =>
  simp only [flatT] at h
  unfold aggOf
  split at h
  ·rename_i e; rw [e]; cases h; exact .inr ⟨rfl, rfl⟩
  ·rename_i e; rw [e]; cases h; exact .inr ⟨rfl, rfl⟩
  ·rename_i e; rw [e]; cases h; exact .inr ⟨rfl, rfl⟩
  ·rename_i e; rw [e]; exact .inl rfl
  ·rename_i e; rw [e]; exact .inl rfl
  ·cases h
theorem part_flat {d : Nat} {t : TypeId} {ks : List Kd} (h : flatT P d t = some ks) (hs : szOf P t = some ks.length) {xs : List Value} {off : Nat} (hl : All2 KdV ks ((xs.drop off).take ks.length)) (w : World) :
 ∃ u, (part t xs.toArray off).run P w = .ok u w ∧ IsV P t ((xs.drop off).take ks.length) u := by
 rcases agg_of_flatT h with ha | ⟨ha, h1⟩
 ·refine ⟨.agg ((xs.drop off).take ks.length).toArray, ?_, .inl ⟨ha, rfl⟩⟩
  simp [part, run_isAgg ha, run_sizeOf hs]
 ·have hlen := hl.len
  rw [h1] at hlen ⊢
  have hlt : off < xs.length := by
   rcases Nat.lt_or_ge off xs.length with h' | h'
   ·exact h'
   ·rw [List.drop_of_length_le h'] at hlen; simp at hlen
  have e1 : (xs.drop off).take 1 = [xs[off]] := by rw [List.drop_eq_getElem_cons hlt]; rfl
  refine ⟨xs[off], ?_, .inr ⟨ha, e1⟩⟩
  simp [part, run_isAgg ha, hlt]
theorem fields_flat {dd : Nat} {F : TypeId → Option (List Kd)} {d : Nat} (hF : F = flatT P d) (IH : ∀ t ks, flatT P d t = some ks → EqF P dd t ks) : ∀ {fs : List Field} {off : Nat} {ks : List Kd} {xs ys : List Value} (w : World),
 flatFs P F off fs = some ks → All2 KdV ks (xs.drop off) → All2 KdV ks (ys.drop off) → (Op.eqFields dd xs.toArray ys.toArray fs).run P w = .ok (eqVs (xs.drop off) (ys.drop off)) w
 | [], off, ks, xs, ys, w, h, hx, hy => by
  cases h
  have e1 : xs.drop off = [] := List.eq_nil_of_length_eq_zero hx.len.symm
  have e2 : ys.drop off = [] := List.eq_nil_of_length_eq_zero hy.len.symm
  rw [e1, e2]; rfl
 | f :: fs, off, ks, xs, ys, w, h, hx, hy => by
  simp only [flatFs] at h
  split at h
  ·rename_i hf
   obtain ⟨rfl, hn⟩ := hf
   split at h
   ·rename_i k n hk hs
    split at h
    ·rename_i hnk
     subst hnk
     split at h
     ·rename_i r hr
      cases h
      rw [hF] at hk
      obtain ⟨x1, x2⟩ := All2.split hx
      obtain ⟨y1, y2⟩ := All2.split hy
      obtain ⟨u, hu, iu⟩ := part_flat hk hs x1 w
      obtain ⟨v, hv, iv⟩ := part_flat hk hs y1 w
      have he := IH _ _ hk w _ _ u v x1 y1 iu iv
      rw [List.drop_drop] at x2 y2
      have hrest := fields_flat hF IH (xs := xs) (ys := ys) w hr x2 y2
      have hlx : ((xs.drop f.offset).take k.length).length = ((ys.drop f.offset).take k.length).length := by rw [← x1.len, ← y1.len]
      have e1 : xs.drop f.offset = (xs.drop f.offset).take k.length ++ xs.drop (f.offset + k.length) := by rw [← List.drop_drop, List.take_append_drop]
      have e2 : ys.drop f.offset = (ys.drop f.offset).take k.length ++ ys.drop (f.offset + k.length) := by rw [← List.drop_drop, List.take_append_drop]
      have hgoal : eqVs (xs.drop f.offset) (ys.drop f.offset) = (eqVs ((xs.drop f.offset).take k.length) ((ys.drop f.offset).take k.length) && eqVs (xs.drop (f.offset + k.length)) (ys.drop (f.offset + k.length))) := by
       conv => lhs; rw [e1, e2]
       exact eqVs_append hlx
      rw [hgoal]
      simp only [Op.eqFields, hn, ne_eq, not_false_eq_true, if_true, Sem.run_bind, hu, hv, he, Result.andThen_ok]
      cases eqVs ((xs.drop f.offset).take k.length) ((ys.drop f.offset).take k.length)
      ·simp
      ·simpa using hrest
     ·cases h
    ·cases h
   ·cases h
  ·cases h
theorem items_flat {dd : Nat} {d : Nat} {e : TypeId} {ks : List Kd} (hk : flatT P d e = some ks) (hs : szOf P e = some ks.length) (IH : EqF P dd e ks) : ∀ {n j : Nat} {xs ys : List Value} (w : World),
 All2 KdV (repL ks n) (xs.drop (j * ks.length)) → All2 KdV (repL ks n) (ys.drop (j * ks.length)) → (Op.eqItems dd e ks.length xs.toArray ys.toArray (List.range' j n)).run P w = .ok (eqVs (xs.drop (j * ks.length)) (ys.drop (j * ks.length))) w
 | 0, j, xs, ys, w, hx, hy => by
  have e1 : xs.drop (j * ks.length) = [] := List.eq_nil_of_length_eq_zero hx.len.symm
  have e2 : ys.drop (j * ks.length) = [] := List.eq_nil_of_length_eq_zero hy.len.symm
  rw [e1, e2]; rfl
 | n + 1, j, xs, ys, w, hx, hy => by
  obtain ⟨x1, x2⟩ := All2.split (a := ks) hx
  obtain ⟨y1, y2⟩ := All2.split (a := ks) hy
  obtain ⟨u, hu, iu⟩ := part_flat hk hs x1 w
  obtain ⟨v, hv, iv⟩ := part_flat hk hs y1 w
  have he := IH w _ _ u v x1 y1 iu iv
  have ej : j * ks.length + ks.length = (j + 1) * ks.length := by rw [Nat.add_mul]; omega
  rw [List.drop_drop, ej] at x2 y2
  have hrest := items_flat hk hs IH (xs := xs) (ys := ys) w x2 y2
  have hlx : ((xs.drop (j * ks.length)).take ks.length).length = ((ys.drop (j * ks.length)).take ks.length).length := by rw [← x1.len, ← y1.len]
  have e1 : xs.drop (j * ks.length) = (xs.drop (j * ks.length)).take ks.length ++ xs.drop ((j + 1) * ks.length) := by rw [← ej, ← List.drop_drop, List.take_append_drop]
  have e2 : ys.drop (j * ks.length) = (ys.drop (j * ks.length)).take ks.length ++ ys.drop ((j + 1) * ks.length) := by rw [← ej, ← List.drop_drop, List.take_append_drop]
  have hgoal : eqVs (xs.drop (j * ks.length)) (ys.drop (j * ks.length)) = (eqVs ((xs.drop (j * ks.length)).take ks.length) ((ys.drop (j * ks.length)).take ks.length) && eqVs (xs.drop ((j + 1) * ks.length)) (ys.drop ((j + 1) * ks.length))) := by
   conv => lhs; rw [e1, e2]
   exact eqVs_append hlx
  rw [hgoal]
  simp only [List.range'_succ, Op.eqItems, Sem.run_bind, hu, hv, he, Result.andThen_ok]
  cases eqVs ((xs.drop (j * ks.length)).take ks.length) ((ys.drop (j * ks.length)).take ks.length)
  ·simp
  ·simpa using hrest
theorem flatT_ok : ∀ (d dd : Nat) (t : TypeId) (ks : List Kd), d ≤ dd → flatT P d t = some ks → EqF P dd t ks
 | 0, _, _, _, _, h => by cases h
 | d + 1, 0, _, _, hd, _ => by omega
 | d + 1, dd + 1, t, ks, hd, h => by
  intro w xs ys u v hx hy iu iv
  simp only [flatT] at h
  split at h
  ·rename_i ht
   cases h
   have ha : aggOf P t = some false := by unfold aggOf; rw [ht]
   rcases iu with ⟨e, _⟩ | ⟨_, rfl⟩
   ·rw [ha] at e; cases e
   rcases iv with ⟨e, _⟩ | ⟨_, rfl⟩
   ·rw [ha] at e; cases e
   obtain ⟨a, rfl⟩ := hx.1
   obtain ⟨b, rfl⟩ := hy.1
   rw [run_equalIn_bool' w dd t a b ht]
   simp [eqVs, eqV1]
  ·rename_i k ht
   cases h
   have ha : aggOf P t = some false := by unfold aggOf; rw [ht]
   rcases iu with ⟨e, _⟩ | ⟨_, rfl⟩
   ·rw [ha] at e; cases e
   rcases iv with ⟨e, _⟩ | ⟨_, rfl⟩
   ·rw [ha] at e; cases e
   obtain ⟨a, rfl⟩ := hx.1
   obtain ⟨b, rfl⟩ := hy.1
   rw [run_equalIn_int w dd t k k a b ht]
   simp [eqVs, eqV1]
  ·rename_i ht
   cases h
   have ha : aggOf P t = some false := by unfold aggOf; rw [ht]
   rcases iu with ⟨e, _⟩ | ⟨_, rfl⟩
   ·rw [ha] at e; cases e
   rcases iv with ⟨e, _⟩ | ⟨_, rfl⟩
   ·rw [ha] at e; cases e
   obtain ⟨a, rfl⟩ := hx.1
   obtain ⟨b, rfl⟩ := hy.1
   rw [run_equalIn_string w dd t a b ht]
   simp [eqVs, eqV1]
  ·rename_i fs ht
   split at h
   ·cases h
   ·rename_i hst
    have ha : aggOf P t = some true := by unfold aggOf; rw [ht]
    obtain rfl := iu.agg ha
    obtain rfl := iv.agg ha
    have hfs : P.fieldsOf t = fs := by simp [Program.fieldsOf, ht]
    rw [run_equalIn_struct w dd t _ _ (by rw [hfs]; exact ht) (by simpa using hst), hfs]
    exact fields_flat rfl (fun t' ks' h' => flatT_ok d dd t' ks' (by omega) h') (xs := xs) (ys := ys) w h hx hy
  ·rename_i n e ht
   split at h
   ·rename_i ks' i hk hi
    split at h
    ·rename_i hsz
     cases h
     have ha : aggOf P t = some true := by unfold aggOf; rw [ht]
     obtain rfl := iu.agg ha
     obtain rfl := iv.agg ha
     have hs : szOf P e = some ks'.length := by simp [szOf, hi, hsz]
     have hc : P.cellsOf e = ks'.length := by simp [Program.cellsOf, hi, hsz]
     rw [run_equalIn_array w dd _ _ ht hi, hc, List.range_eq_range']
     have := items_flat hk hs (flatT_ok d dd e ks' (by omega) hk) (n := n) (j := 0) (xs := xs) (ys := ys) w (by simpa using hx) (by simpa using hy)
     simpa using this
    ·cases h
   ·cases h
  ·cases h
theorem FlatEq.of {t : TypeId} {ks : List Kd} (h : flatT P 9 t = some ks) (ha : aggOf P t = some true) (hg : P.eqGuardType P.depth t = false) : FlatEq P t ks where
 guard := hg
 eq := fun xs ys w hx hy => flatT_ok 9 10000 t ks (by decide) h w xs ys _ _ hx hy (.inl ⟨ha, rfl⟩) (.inl ⟨ha, rfl⟩)
def eqTOk (P : Program) : List (TypeId × List Kd) → Bool
 | [] => true
 | (t, ks) :: r => decide (flatT P 9 t = some ks) && (match aggOf P t with | some true => true | _ => false) && !P.eqGuardType P.depth t && eqTOk P r
theorem eqTOk_ok : ∀ {l : List (TypeId × List Kd)}, eqTOk P l = true → ∀ t ks, lookEq l t = some ks → FlatEq P t ks
 | [], _, _, _, h => by cases h
 | (u, k) :: r, h, t, ks, hl => by
  simp only [eqTOk, Bool.and_eq_true, decide_eq_true_eq, Bool.not_eq_true'] at h
  obtain ⟨⟨⟨h1, h2⟩, h3⟩, h4⟩ := h
  simp only [lookEq] at hl
  split at hl
  ·rename_i he
   cases hl
   have : u = t := by simpa using he
   subst this
   refine FlatEq.of h1 ?_ h3
   split at h2
   ·assumption
   ·cases h2
  ·exact eqTOk_ok h4 t ks hl
def FnsOk (P : Program) : List (FuncId × Func) → Prop
 | [] => True
 | (f, fn) :: r => (P.funcs[f]? = some fn ∧ (fn.name == "runtime.NumGoroutine") = false) ∧ FnsOk P r
theorem FnsOk.look : ∀ {l : List (FuncId × Func)}, FnsOk P l → ∀ f fn, lookFn l f = some fn → P.funcs[f]? = some fn ∧ (fn.name == "runtime.NumGoroutine") = false
 | [], _, _, _, h => by cases h
 | (g, fn') :: r, h, f, fn, hl => by
  simp only [lookFn] at hl
  split at hl
  ·rename_i he
   cases hl
   have : g = f := by simpa using he
   subst this
   exact h.1
  ·exact FnsOk.look h.2 f fn hl
end
end Vc
end Go.Proofs.YtelbilnnmmbmdaaDoor
namespace Go.Proofs.YtelbilnnmmbmdaaDoor
namespace Vc
open Go Go.RowKit
set_option linter.unusedVariables false
def E.over (ps : List E) : E → Bool
 | .ic _ | .bc _ | .cv _ | .cs _ | .nil => true
 | .var k => memE (.var k) ps
 | .add a b => memE (.add a b) ps || (a.over ps && b.over ps)
 | .sub a b => memE (.sub a b) ps || (a.over ps && b.over ps)
 | .mul a b => memE (.mul a b) ps || (a.over ps && b.over ps)
 | .tdiv a b => memE (.tdiv a b) ps || (a.over ps && b.over ps)
 | .tmod a b => memE (.tmod a b) ps || (a.over ps && b.over ps)
 | .div a b => memE (.div a b) ps || (a.over ps && b.over ps)
 | .mod a b => memE (.mod a b) ps || (a.over ps && b.over ps)
 | .shl a b => a.over ps && b.over ps
 | .shr a b => a.over ps && b.over ps
 | .bit _ _ a b => a.over ps && b.over ps
 | .wrap k a => memE (.wrap k a) ps || a.over ps
 | .mx a b => a.over ps && b.over ps
 | .mn a b => a.over ps && b.over ps
 | .eq a b => memE (.eq a b) ps || (a.over ps && b.over ps)
 | .lt a b => memE (.lt a b) ps || (a.over ps && b.over ps)
 | .le a b => memE (.le a b) ps || (a.over ps && b.over ps)
 | .iff a b => a.over ps && b.over ps
 | .veq a b => a.over ps && b.over ps
 | .not a => a.over ps
 | .and a b => a.over ps && b.over ps
 | .or a b => a.over ps && b.over ps
 | .ite c a b => c.over ps && a.over ps && b.over ps
 | .app f a => memE (.app f a) ps || a.over ps
 | .cons a b => a.over ps && b.over ps
 | .sel r i o => r.over ps && i.over ps && o.over ps
 | .rset r i o e => r.over ps && i.over ps && o.over ps && e.over ps
 | .rtab _ es => es.over ps
 | .rrep es => es.over ps
 | .rcat r n s => r.over ps && n.over ps && s.over ps
 | .rsh r lo => r.over ps && lo.over ps
 | .rcpy a b c d e => a.over ps && b.over ps && c.over ps && d.over ps && e.over ps
 | .mkr a b => a.over ps && b.over ps
 | .can a => a.over ps
 | .canb a => a.over ps
 | .byt a b => a.over ps && b.over ps
 | .dcr a b => a.over ps && b.over ps
 | .dcw a b => a.over ps && b.over ps
 | .mem r n s => r.over ps && n.over ps && s.over ps
theorem over_ev {ρ ρ' : Env} {ps : List E} (hf : ρ'.f = ρ.f) (hp : ∀ p ∈ ps, ev ρ' p = ev ρ p) {e : E} (h : e.over ps = true) : ev ρ' e = ev ρ e := by
 induction e <;> simp only [E.over, Bool.or_eq_true, Bool.and_eq_true] at h <;> first
  | rfl
  | (exact hp _ (memE_ok h))
  | (rcases h with h | h
     ·exact hp _ (memE_ok h)
     ·simp_all only [ev])
  | (simp_all only [ev])
def SC.over (ps : List E) : SC → Bool
 | .int _ e _ _ => e.over ps
 | .bool e => e.over ps
 | _ => false
def SV.over (ps : List E) : SV → Bool
 | .c s => s.over ps
 | .agg l => l.all (SC.over ps)
 | .tup l => l.all fun x => x.2.all (SC.over ps)
def Fm.over (ps : List E) : Fm → Bool
 | .tru | .fls => true
 | .and a b => a.over ps && b.over ps
 | .imp g a => g.over ps && a.over ps
 | .tst e => e.over ps
 | .pre _ _ => true
 | .leaf v _ => v.over ps
 | _ => true
section
variable {ρ ρ' : Env} {ps : List E}
theorem over_ck (hf : ρ'.f = ρ.f) (hp : ∀ p ∈ ps, ev ρ' p = ev ρ p) {hp' : SH} {x : X} {r : Ck} {s : SC} (h : s.over ps = true) : ckChk ρ' hp' x r s = ckChk ρ hp' x r s := by
 cases s <;> simp only [SC.over] at h <;> try (cases h; done)
 ·have e := over_ev hf hp h
  cases r <;> simp only [ckChk, slen, evI, e]
  rename_i v
  cases v <;> simp only [e]
 ·have e := over_ev hf hp h
  cases r <;> simp only [ckChk, slen, evB, e]
  rename_i v
  cases v <;> simp only [e]
theorem over_ckL (hf : ρ'.f = ρ.f) (hp : ∀ p ∈ ps, ev ρ' p = ev ρ p) {hp' : SH} {f : Nat → X} : ∀ {rs : List Ck} {j : Nat} {ss : List SC}, ss.all (SC.over ps) = true → ckChkL ρ' hp' f j rs ss = ckChkL ρ hp' f j rs ss
 | [], _, [], _ => rfl
 | r :: rs, j, s :: ss, h => by
  simp only [List.all_cons, Bool.and_eq_true] at h
  simp only [ckChkL]
  rw [over_ck hf hp h.1, over_ckL hf hp h.2]
 | [], _, _ :: _, _ => rfl
 | _ :: _, _, [], _ => rfl
theorem over_ckT (hf : ρ'.f = ρ.f) (hp : ∀ p ∈ ps, ev ρ' p = ev ρ p) {hp' : SH} {f : Nat → X} : ∀ {l : List (Bool × List Ck)} {j : Nat} {m : List (Bool × List SC)}, (m.all fun x => x.2.all (SC.over ps)) = true → ckChkT ρ' hp' f j l m = ckChkT ρ hp' f j l m
 | [], _, [], _ => rfl
 | (true, rs) :: l, j, (true, ss) :: m, h => by
  simp only [List.all_cons, Bool.and_eq_true] at h
  simp only [ckChkT]
  rw [over_ckL hf hp h.1, over_ckT hf hp h.2]
 | (false, [r]) :: l, j, (false, [s]) :: m, h => by
  simp only [List.all_cons, List.all_nil, Bool.and_true, Bool.and_eq_true] at h
  simp only [ckChkT]
  rw [over_ck hf hp h.1, over_ckT hf hp h.2]
 | [], _, _ :: _, _ => rfl
 | _ :: _, _, [], _ => by simp [ckChkT]
 | (true, _) :: _, _, (false, _) :: _, _ => by simp [ckChkT]
 | (false, _) :: _, _, (true, _) :: _, _ => by simp [ckChkT]
 | (false, []) :: _, _, (false, _) :: _, _ => by simp [ckChkT]
 | (false, _ :: _ :: _) :: _, _, (false, _) :: _, _ => by simp [ckChkT]
 | (false, [_]) :: _, _, (false, []) :: _, _ => by simp [ckChkT]
 | (false, [_]) :: _, _, (false, _ :: _ :: _) :: _, _ => by simp [ckChkT]
theorem over_chk (hf : ρ'.f = ρ.f) (hp : ∀ p ∈ ps, ev ρ' p = ev ρ p) {f : Nat → X} {j : Nat} {r : Rs} : ∀ {F : Fm}, F.over ps = true → F.chk ρ' f j r = F.chk ρ f j r
 | .tru, _ => rfl
 | .fls, _ => rfl
 | .and a b, h => by
  simp only [Fm.over, Bool.and_eq_true] at h
  simp only [Fm.chk]
  rw [over_chk hf hp h.1, over_chk hf hp h.2]
 | .imp g a, h => by
  simp only [Fm.over, Bool.and_eq_true] at h
  simp only [Fm.chk, evB]
  rw [over_ev hf hp h.1, over_chk hf hp h.2]
 | .tst e, h => by simp only [Fm.chk, evB]; rw [over_ev hf hp h]
 | .pre _ _, _ => rfl
 | .all _ _, _ => rfl
 | .impP _ _ _, _ => rfl
 | .rowH _ _ _ _ _, _ => rfl
 | .leaf v hp', h => by
  simp only [Fm.over] at h
  simp only [Fm.chk]
  cases v with
  | c s => cases r <;> simp only [resChk]; exact over_ck hf hp h
  | agg l => cases r <;> simp only [resChk]; exact over_ckL hf hp h
  | tup l => cases r <;> simp only [resChk]; exact over_ckT hf hp h
end
end Vc
end Go.Proofs.YtelbilnnmmbmdaaDoor
