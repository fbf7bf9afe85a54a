/- Contracts out of walks whose ends are told in plain terms. -/
import Derived.Test.YtfpecoddgdcaaaaDoorVcV
namespace Go.Proofs.YtfpecoddgdcaaaaDoor
namespace Vc
open Go Go.RowKit

def ckEq (ρ : Env) (x : X) : Ck → SC → Prop
  | .int k lo hi, .int k' e _ _ => if k = k' then ((ev ρ e).x.i = x.i ∧ lo ≤ x.i ∧ x.i ≤ hi) else False
  | .bool, .bool e => (evP ρ e ↔ x.b = true)
  | .str hi, .cst (.string s) => x = xS s ∧ (s.size : Int) ≤ hi
  | _, _ => False
def ckEqL (ρ : Env) (f : Nat → X) : Nat → List Ck → List SC → Prop
  | _, [], [] => True
  | j, [r], [s] => ckEq ρ (f j) r s
  | j, r :: rs, s :: ss => ckEq ρ (f j) r s ∧ ckEqL ρ f (j + 1) rs ss
  | _, _, _ => False
def ckEqT (ρ : Env) (f : Nat → X) : Nat → List (Bool × List Ck) → List (Bool × List SC) → Prop
  | _, [], [] => True
  | j, (true, rs) :: l, (true, ss) :: m => ckEqL ρ f j rs ss ∧ ckEqT ρ f (j + rs.length) l m
  | j, (false, [r]) :: l, (false, [s]) :: m => ckEq ρ (f j) r s ∧ ckEqT ρ f (j + 1) l m
  | _, _, _ => False
def resEq (ρ : Env) (f : Nat → X) (j : Nat) : Rs → SV → Prop
  | .one r, .c s => ckEq ρ (f j) r s
  | .agg rs, .agg ss => ckEqL ρ f j rs ss
  | .tup l, .tup m => ckEqT ρ f j l m
  | _, _ => False
theorem ckEq_ok {ρ : Env} {ls : Ls} {x : X} {r : Ck} {s : SC} {v : Value} (h : ckEq ρ x r s) (hr : RS ρ ls s v) : ckOk x r v := by
  unfold ckEq at h
  split at h
  · split at h
    · rename_i hk
      subst hk
      obtain ⟨h1, h2, h3⟩ := h
      exact ⟨by rw [hr.1, ← h1], h2, h3⟩
    · exact h.elim
  · rename_i e
    have hr' : v = .bool (evB ρ e) := hr
    show v = .bool x.b
    rw [hr']
    congr 1
    have h' := (evP_iff ρ e).symm.trans h
    show (ev ρ e).x.b = x.b
    cases h1 : (ev ρ e).x.b <;> cases h2 : x.b
    · rfl
    · rw [h1, h2] at h'; exact absurd (h'.2 rfl) (by simp)
    · rw [h1, h2] at h'; exact absurd (h'.1 rfl) (by simp)
    · rfl
  · rename_i hi s
    obtain ⟨h1, h2⟩ := h
    have hr' : v = .string s := hr
    exact ⟨s, hr', by rw [h1]; rfl, by rw [h1]; rfl, h2⟩
  · exact h.elim
theorem ckEqL_ok {ρ : Env} {ls : Ls} {f : Nat → X} : ∀ {rs : List Ck} {j : Nat} {ss : List SC} {vs : List Value}, ckEqL ρ f j rs ss → All2 (RS ρ ls) ss vs → ckL f j rs vs
  | [], _, [], [], _, _ => trivial
  | [r], _, [s], [v], h, hr => ⟨ckEq_ok h hr.1, trivial⟩
  | r :: r' :: rs, j, s :: s' :: ss, v :: vs, h, hr => ⟨ckEq_ok h.1 hr.1, ckEqL_ok (rs := r' :: rs) (ss := s' :: ss) h.2 hr.2⟩
  | [], _, [], _ :: _, _, hr => hr.elim
  | [], _, _ :: _, _, h, _ => h.elim
  | [_], _, [], _, h, _ => h.elim
  | _ :: _ :: _, _, [], _, h, _ => h.elim
  | [_], _, [_], [], _, hr => hr.elim
  | [_], _, [_], _ :: _ :: _, _, hr => hr.2.elim
  | [_], j, _ :: s' :: ss, _, h, _ => by simp [ckEqL] at h
  | _ :: _ :: _, _, [_], _, h, _ => by simp [ckEqL] at h
  | _ :: _ :: _, _, _ :: _ :: _, [], _, hr => hr.elim
theorem ckEqT_ok {ρ : Env} {ls : Ls} {f : Nat → X} : ∀ {l : List (Bool × List Ck)} {j : Nat} {m : List (Bool × List SC)} {vs : List Value}, ckEqT ρ f j l m → All2 (RE ρ ls) m vs → ckT f j l vs
  | [], _, [], [], _, _ => trivial
  | (true, rs) :: l, j, (true, ss) :: m, v :: vs, h, hr => by
    obtain ⟨⟨us, rfl, h1⟩, h2⟩ := hr
    exact ⟨⟨us, rfl, ckEqL_ok h.1 h1⟩, ckEqT_ok h.2 h2⟩
  | (false, [r]) :: l, j, (false, [s]) :: m, v :: vs, h, hr => ⟨ckEq_ok h.1 hr.1, ckEqT_ok h.2 hr.2⟩
  | [], _, [], _ :: _, _, hr => hr.elim
  | [], _, _ :: _, _, h, _ => h.elim
  | _ :: _, _, [], _, h, _ => by simp [ckEqT] at h
  | (true, _) :: _, _, (false, _) :: _, _, h, _ => by simp [ckEqT] at h
  | (false, _) :: _, _, (true, _) :: _, _, h, _ => by simp [ckEqT] at h
  | (true, _) :: _, _, (true, _) :: _, [], _, hr => hr.elim
  | (false, [_]) :: _, _, (false, [_]) :: _, [], _, hr => hr.elim
  | (false, []) :: _, _, (false, _) :: _, _, h, _ => by simp [ckEqT] at h
  | (false, _ :: _ :: _) :: _, _, (false, _) :: _, _, h, _ => by simp [ckEqT] at h
  | (false, [_]) :: _, _, (false, []) :: _, _, h, _ => by simp [ckEqT] at h
  | (false, [_]) :: _, _, (false, _ :: _ :: _) :: _, _, h, _ => by simp [ckEqT] at h
theorem resEq_ok {ρ : Env} {ls : Ls} {f : Nat → X} {j : Nat} {r : Rs} {s : SV} {v : Value} (h : resEq ρ f j r s) (hr : RV ρ ls s v) : resOk f j r v := by
  unfold resEq at h
  split at h
  · exact ckEq_ok h hr
  · obtain ⟨us, rfl, h1⟩ := hr; exact ⟨us, rfl, ckEqL_ok h h1⟩
  · obtain ⟨us, rfl, h1⟩ := hr; exact ⟨us, rfl, ckEqT_ok h h1⟩
  · exact h.elim
/-- What is left of a contract. -/
def Fm.ctr (ρ : Env) (f : Nat → X) (j : Nat) (r : Rs) : Fm → Prop
  | .tru => True
  | .fls => False
  | .and a b => a.ctr ρ f j r ∧ b.ctr ρ f j r
  | .imp g a => evP ρ g → a.ctr ρ f j r
  | .tst e => evP ρ e
  | .pre k A => ρ.p k (ev ρ A).l
  | .leaf v _ => resEq ρ f j r v
theorem ctr_holds {ρ : Env} {f : Nat → X} {j : Nat} {r : Rs} {B : Nat} {w0 : World} : ∀ {F : Fm}, F.ctr ρ f j r → F.holds ρ (LeafOk ρ B w0 fun e w' => ∃ v, e = .returned v ∧ resOk f j r v ∧ Below w0.heap.size w0 w')
  | .tru, _ => trivial
  | .fls, h => h
  | .and _ _, h => ⟨ctr_holds h.1, ctr_holds h.2⟩
  | .imp g a, h => fun hg => ctr_holds (F := a) (h hg)
  | .tst _, h => h
  | .pre _ _, h => h
  | .leaf v hp, h => fun ls w' val hh hr => ⟨val, rfl, resEq_ok h hr, by have := hh.below; rwa [hh.base] at this⟩

/-! ### Symbolic arguments of a contract -/
def ckV (j : Nat) : Ck → SC
  | .int k lo hi => .int k (if lo = hi then .ic lo else .var j) lo hi
  | .bool => .bool (.var j)
  | .ln hi => .ln (.var j) hi
  | .cst v => .cst v
  | .str hi => .str (.var j) hi
def ckVs : List Ck → Nat → List SC
  | [], _ => []
  | c :: r, j => ckV j c :: ckVs r (j + 1)
def shS : List Sh → Nat → List SV
  | [], _ => []
  | .one k :: sh, j => .c (ckV j k) :: shS sh (j + 1)
  | .agg ks :: sh, j => .agg (ckVs ks j) :: shS sh (j + ks.length)
theorem ckI_ev {ρ : Env} {j : Nat} {lo hi : Int} {d : X} (e : ρ.x j = d) (h2 : lo ≤ d.i) (h3 : d.i ≤ hi) : evI ρ (if lo = hi then .ic lo else .var j) = d.i := by
  split
  · show lo = d.i; omega
  · show (ρ.x j).i = d.i; rw [e]
theorem ckVs_ok {ρ : Env} {ls : Ls} : ∀ {ks : List Ck} {ds : Ds} {j : Nat}, kdR ks ds → (∀ i x, ds[i]? = some x → ρ.x (j + i) = x) → All2 (RS ρ ls) (ckVs ks j) (kdV ks ds)
  | [], _, _, _, _ => trivial
  | .int k lo hi :: ks, d :: ds, j, h, hx => by
    obtain ⟨⟨_, h2, h3⟩, h4⟩ := h
    have e : ρ.x j = d := hx 0 d rfl
    refine ⟨⟨?_, ?_, ?_⟩, ckVs_ok h4 fun i x hi => by have := hx (i + 1) x (by simpa using hi); rwa [show j + (i + 1) = j + 1 + i by omega] at this⟩
    · show Value.int k d.i = .int k (evI ρ (if lo = hi then .ic lo else .var j)); rw [ckI_ev e h2 h3]
    · show lo ≤ evI ρ (if lo = hi then .ic lo else .var j); rw [ckI_ev e h2 h3]; exact h2
    · show evI ρ (if lo = hi then .ic lo else .var j) ≤ hi; rw [ckI_ev e h2 h3]; exact h3
  | .bool :: ks, d :: ds, j, h, hx => by
    have e : ρ.x j = d := hx 0 d rfl
    refine ⟨?_, ckVs_ok h.2 fun i x hi => by have := hx (i + 1) x (by simpa using hi); rwa [show j + (i + 1) = j + 1 + i by omega] at this⟩
    show Value.bool d.b = .bool (ρ.x j).b; rw [e]
  | .int .. :: _, [], _, h, _ => h.elim
  | .bool :: _, [], _, h, _ => h.elim
  | .ln _ :: _, [], _, h, _ => h.elim
  | .ln _ :: _, _ :: _, _, h, _ => h.elim
  | .cst _ :: _, [], _, h, _ => h.elim
  | .cst _ :: _, _ :: _, _, h, _ => h.elim
  | .str _ :: _, [], _, h, _ => h.elim
  | .str _ :: _, _ :: _, _, h, _ => h.elim
theorem kdV_len : ∀ {ks : List Ck} {ds : Ds}, kdR ks ds → (kdV ks ds).length = ks.length
  | [], _, _ => rfl
  | .int .. :: ks, _ :: _, h => by simp [kdV, kdV_len h.2]
  | .bool :: ks, _ :: _, h => by simp [kdV, kdV_len h.2]
  | .int .. :: _, [], h => h.elim
  | .bool :: _, [], h => h.elim
  | .ln _ :: _, [], h => h.elim
  | .ln _ :: _, _ :: _, h => h.elim
  | .cst _ :: _, [], h => h.elim
  | .cst _ :: _, _ :: _, h => h.elim
  | .str _ :: _, [], h => h.elim
  | .str _ :: _, _ :: _, h => h.elim
theorem shS_ok {ρ : Env} {ls : Ls} : ∀ {sh : List Sh} {ds : Ds} {j : Nat}, argR sh ds → (∀ i x, ds[i]? = some x → ρ.x (j + i) = x) → All2 (RV ρ ls) (shS sh j) (argV sh ds)
  | [], _, _, _, _ => trivial
  | .one k :: sh, ds, j, h, hx => by
    obtain ⟨h1, h2⟩ := h
    have a1 := ckVs_ok (ρ := ρ) (ls := ls) h1 hx
    have hl := kdV_len h1
    have a2 := shS_ok (ρ := ρ) (ls := ls) (j := j + 1) h2 fun i x hi => by
      rw [List.getElem?_drop] at hi
      have := hx (1 + i) x hi
      rwa [show j + (1 + i) = j + 1 + i by omega] at this
    show All2 (RV ρ ls) (.c (ckV j k) :: shS sh (j + 1)) (kdV [k] ds ++ argV sh (ds.drop 1))
    match hk : kdV [k] ds, hl with
    | [v], _ =>
      rw [hk] at a1
      exact ⟨a1.1, a2⟩
  | .agg ks :: sh, ds, j, h, hx => by
    obtain ⟨h1, h2⟩ := h
    exact ⟨⟨_, rfl, ckVs_ok h1 hx⟩, shS_ok h2 fun i x hi => by
      rw [List.getElem?_drop] at hi
      have := hx (ks.length + i) x hi
      rwa [show j + (ks.length + i) = j + ks.length + i by omega] at this⟩
/-- A contract out of a walk at symbolic arguments. -/
theorem ctr_of {P : Program} {ρ : Env} {cf : Cfg} {c : Ctr} (hc : CfgOk P ρ cf) {fn : Func} (hf : P.funcs[c.f]? = some fn) (hb : fn.body = some (bodyC fn)) (n : Nat)
    (h : ∀ ds, argR c.args ds → (walkF P cf fn n (shS c.args 0)).ctr { ρ with x := fun j => ds.getD j (xI 0) } (fun j => ρ.f j ds) c.fs c.res) : CtrOk P ρ c := by
  intro ds w hg hr _
  refine call_ok (ρ := { ρ with x := fun j => ds.getD j (xI 0) }) (hc.withX _) hf hb n hg (shS_ok hr fun i x hi => ?_) (ctr_holds (h ds hr))
  show ds.getD (0 + i) (xI 0) = x
  rw [Nat.zero_add, List.getD_eq_getElem?_getD, hi]; rfl
/-- A contract by cases of its arguments. -/
theorem ctr_split {P : Program} {ρ : Env} {c : Ctr} (h : ∀ ds, argR c.args ds → ∃ as, argR as ds ∧ argV as ds = argV c.args ds ∧ CtrOk P ρ { c with args := as }) : CtrOk P ρ c := by
  intro ds w hg hr hp
  obtain ⟨as, h1, h2, h3⟩ := h ds hr
  have := h3 ds w hg h1 hp
  rw [h2] at this
  exact this
end Vc
end Go.Proofs.YtfpecoddgdcaaaaDoor
