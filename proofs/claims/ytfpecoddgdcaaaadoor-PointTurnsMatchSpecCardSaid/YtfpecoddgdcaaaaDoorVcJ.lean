/- A contract out of a walk: what is left at the end of each path is reckoned. -/
import Derived.Test.YtfpecoddgdcaaaaDoorVcI
namespace Go.Proofs.YtfpecoddgdcaaaaDoor
namespace Vc
open Go Go.RowKit

def ckChk (ρ : Env) (hp : SH) (x : X) : Ck → SC → Bool
  | .int k lo hi, .int k' e _ _ => decide (k = k') && (x.i == evI ρ e) && decide (lo ≤ x.i) && decide (x.i ≤ hi)
  | .bool, .bool e => x.b == evB ρ e
  | .ln hi, s => (match slen hp (.c s) with | some (.int .i64 e _ _) => (x.i == evI ρ e) && decide (0 ≤ x.i) && decide (x.i ≤ hi) | _ => false)
  | .cst (.bool b), .bool e => b == evB ρ e
  | .cst (.int k n), .int k' e _ _ => decide (k = k') && (n == evI ρ e)
  | _, _ => false
def ckChkL (ρ : Env) (hp : SH) (f : Nat → X) : Nat → List Ck → List SC → Bool
  | _, [], [] => true
  | j, r :: rs, s :: ss => ckChk ρ hp (f j) r s && ckChkL ρ hp f (j + 1) rs ss
  | _, _, _ => false
def ckChkT (ρ : Env) (hp : SH) (f : Nat → X) : Nat → List (Bool × List Ck) → List (Bool × List SC) → Bool
  | _, [], [] => true
  | j, (true, rs) :: l, (true, ss) :: m => ckChkL ρ hp f j rs ss && ckChkT ρ hp f (j + rs.length) l m
  | j, (false, [r]) :: l, (false, [s]) :: m => ckChk ρ hp (f j) r s && ckChkT ρ hp f (j + 1) l m
  | _, _, _ => false
def resChk (ρ : Env) (hp : SH) (f : Nat → X) (j : Nat) : Rs → SV → Bool
  | .one r, .c s => ckChk ρ hp (f j) r s
  | .agg rs, .agg ss => ckChkL ρ hp f j rs ss
  | .tup l, .tup m => ckChkT ρ hp f j l m
  | _, _ => false

/-! ### A result's parts are told by the indices that it has -/
def resCnt : Rs → Nat
  | .one _ => 1
  | .agg rs => rs.length
  | .tup l => (l.map fun x => x.2.length).sum
theorem ckL_congr {f g : Nat → X} : ∀ {rs : List Ck} {j : Nat} {vs : List Value}, (∀ k, k < rs.length → f (j + k) = g (j + k)) → ckL f j rs vs → ckL g j rs vs
  | [], _, [], _, _ => trivial
  | r :: rs, j, v :: vs, h, hh => by
    refine ⟨?_, ckL_congr (j := j + 1) (fun k hk => by have := h (k + 1) (by simpa using hk); rwa [show j + (k + 1) = j + 1 + k by omega] at this) hh.2⟩
    have := h 0 (by simp)
    rw [Nat.add_zero] at this
    rw [← this]; exact hh.1
  | [], _, _ :: _, _, hh => hh.elim
  | _ :: _, _, [], _, hh => hh.elim
theorem ckT_congr {f g : Nat → X} : ∀ {l : List (Bool × List Ck)} {j : Nat} {vs : List Value}, (∀ k, k < (l.map fun x => x.2.length).sum → f (j + k) = g (j + k)) → ckT f j l vs → ckT g j l vs
  | [], _, [], _, _ => trivial
  | (true, rs) :: l, j, v :: vs, h, hh => by
    simp only [List.map_cons, List.sum_cons] at h
    obtain ⟨⟨us, e, h1⟩, h2⟩ := hh
    refine ⟨⟨us, e, ckL_congr (fun k hk => h k (by omega)) h1⟩, ckT_congr (j := j + rs.length) (fun k hk => ?_) h2⟩
    have := h (rs.length + k) (by omega)
    rwa [show j + (rs.length + k) = j + rs.length + k by omega] at this
  | (false, [r]) :: l, j, v :: vs, h, hh => by
    simp only [List.map_cons, List.sum_cons, List.length_singleton] at h
    refine ⟨?_, ckT_congr (j := j + 1) (fun k hk => ?_) hh.2⟩
    · have := h 0 (by omega)
      rw [Nat.add_zero] at this
      rw [← this]; exact hh.1
    · have := h (1 + k) (by omega)
      rwa [show j + (1 + k) = j + 1 + k by omega] at this
  | [], _, _ :: _, _, hh => hh.elim
  | (false, []) :: _, _, _ :: _, _, hh => hh.elim
  | (false, _ :: _ :: _) :: _, _, _ :: _, _, hh => hh.elim
  | (_, _) :: _, _, [], _, hh => by simp [ckT] at hh
theorem resOk_congr {f g : Nat → X} {j : Nat} {r : Rs} {v : Value} (h : ∀ k, k < resCnt r → f (j + k) = g (j + k)) (hh : resOk f j r v) : resOk g j r v := by
  cases r with
  | one r =>
    have := h 0 (by simp [resCnt])
    rw [Nat.add_zero] at this
    show ckOk (g j) r v
    rw [← this]; exact hh
  | agg rs => obtain ⟨us, e, h1⟩ := hh; exact ⟨us, e, ckL_congr h h1⟩
  | tup l => obtain ⟨us, e, h1⟩ := hh; exact ⟨us, e, ckT_congr h h1⟩

def Fm.chk (ρ : Env) (f : Nat → X) (j : Nat) (r : Rs) : Fm → Bool
  | .tru => true
  | .fls => false
  | .and a b => a.chk ρ f j r && b.chk ρ f j r
  | .imp g a => bif evB ρ g then a.chk ρ f j r else true
  | .tst e => evB ρ e
  | .pre _ _ => false
  | .leaf v hp => resChk ρ hp f j r v

section
variable {P : Program} {ρ : Env} {B : Nat} {w0 w : World} {ls : Ls} {hp : SH} {cf : Cfg}
theorem ckChk_ok {x : X} {r : Ck} {s : SC} {v : Value} (h : ckChk ρ hp x r s = true) (hh : HOk ρ B w0 ls hp w) (hr : RS ρ ls s v) : ckOk x r v := by
  unfold ckChk at h
  split at h
  · simp only [Bool.and_eq_true, decide_eq_true_eq, beq_iff_eq] at h
    obtain ⟨⟨⟨rfl, h2⟩, h3⟩, h4⟩ := h
    exact ⟨by rw [hr.1, h2], h3, h4⟩
  · have hr' : v = _ := hr
    simp only [beq_iff_eq] at h
    show v = .bool x.b
    rw [hr', h]
  · split at h
    · rename_i e l u hs
      simp only [Bool.and_eq_true, decide_eq_true_eq, beq_iff_eq] at h
      obtain ⟨⟨h2, h3⟩, h4⟩ := h
      obtain ⟨A, n, c, rfl, g1, _, _⟩ := slen_ok (x := .c s) hs hh hr
      injection g1 with _ g1
      exact ⟨A, c, by rw [h2, ← g1]; rfl, h3, h4⟩
    · cases h
  · have hr' : v = _ := hr
    simp only [beq_iff_eq] at h
    show v = .bool _
    rw [hr', h]
  · simp only [Bool.and_eq_true, decide_eq_true_eq, beq_iff_eq] at h
    obtain ⟨rfl, h2⟩ := h
    show v = .int _ _
    rw [hr.1, h2]
  · cases h
theorem ckChkL_ok {f : Nat → X} (hh : HOk ρ B w0 ls hp w) : ∀ {rs : List Ck} {j : Nat} {ss : List SC} {vs : List Value}, ckChkL ρ hp f j rs ss = true → All2 (RS ρ ls) ss vs → ckL f j rs vs
  | [], _, [], [], _, _ => trivial
  | _ :: _, _, _ :: _, _ :: _, h, hr => by
    simp only [ckChkL, Bool.and_eq_true] at h
    exact ⟨ckChk_ok h.1 hh hr.1, ckChkL_ok hh h.2 hr.2⟩
  | [], _, [], _ :: _, _, hr => hr.elim
  | [], _, _ :: _, _, h, _ => by cases h
  | _ :: _, _, [], _, h, _ => by cases h
  | _ :: _, _, _ :: _, [], _, hr => hr.elim
theorem ckChkT_ok {f : Nat → X} (hh : HOk ρ B w0 ls hp w) : ∀ {l : List (Bool × List Ck)} {j : Nat} {m : List (Bool × List SC)} {vs : List Value}, ckChkT ρ hp f j l m = true → All2 (RE ρ ls) m vs → ckT f j l vs
  | [], _, [], [], _, _ => trivial
  | (true, rs) :: l, j, (true, ss) :: m, v :: vs, h, hr => by
    simp only [ckChkT, Bool.and_eq_true] at h
    obtain ⟨⟨us, rfl, h1⟩, h2⟩ := hr
    exact ⟨⟨us, rfl, ckChkL_ok hh h.1 h1⟩, ckChkT_ok hh h.2 h2⟩
  | (false, [r]) :: l, j, (false, [s]) :: m, v :: vs, h, hr => by
    simp only [ckChkT, Bool.and_eq_true] at h
    exact ⟨ckChk_ok h.1 hh hr.1, ckChkT_ok hh h.2 hr.2⟩
  | [], _, [], _ :: _, _, hr => hr.elim
  | [], _, _ :: _, _, h, _ => by cases h
  | _ :: _, _, [], _, h, _ => by simp [ckChkT] at h
  | (true, _) :: _, _, (false, _) :: _, _, h, _ => by simp [ckChkT] at h
  | (false, _) :: _, _, (true, _) :: _, _, h, _ => by simp [ckChkT] at h
  | (true, _) :: _, _, (true, _) :: _, [], _, hr => hr.elim
  | (false, [_]) :: _, _, (false, [_]) :: _, [], _, hr => hr.elim
  | (false, []) :: _, _, (false, _) :: _, _, h, _ => by simp [ckChkT] at h
  | (false, _ :: _ :: _) :: _, _, (false, _) :: _, _, h, _ => by simp [ckChkT] at h
  | (false, [_]) :: _, _, (false, []) :: _, _, h, _ => by simp [ckChkT] at h
  | (false, [_]) :: _, _, (false, _ :: _ :: _) :: _, _, h, _ => by simp [ckChkT] at h
theorem resChk_ok {f : Nat → X} {j : Nat} {r : Rs} {s : SV} {v : Value} (h : resChk ρ hp f j r s = true) (hh : HOk ρ B w0 ls hp w) (hr : RV ρ ls s v) : resOk f j r v := by
  unfold resChk at h
  split at h
  · exact ckChk_ok h hh hr
  · obtain ⟨us, rfl, h1⟩ := hr; exact ⟨us, rfl, ckChkL_ok hh h h1⟩
  · obtain ⟨us, rfl, h1⟩ := hr; exact ⟨us, rfl, ckChkT_ok hh h h1⟩
  · cases h
theorem chk_ok {f : Nat → X} {j : Nat} {r : Rs} : ∀ {F : Fm}, F.chk ρ f j r = true → F.holds ρ (LeafOk ρ B w0 fun e w' => ∃ v, e = .returned v ∧ resOk f j r v ∧ Below w0.heap.size w0 w')
  | .tru, _ => trivial
  | .fls, h => by cases h
  | .and a b, h => by
    simp only [Fm.chk, Bool.and_eq_true] at h
    exact ⟨chk_ok h.1, chk_ok h.2⟩
  | .imp g a, h => fun hg => by
    have hg' := (evP_iff ρ g).1 hg
    simp only [Fm.chk, hg', cond_true] at h
    exact chk_ok h
  | .tst e, h => (evP_iff ρ e).2 h
  | .pre _ _, h => by cases h
  | .leaf v hp, h => fun ls w' val hh hr => ⟨val, rfl, resChk_ok h hh hr, by have := hh.below; rw [hh.base] at this; exact this⟩

/-- The walk of a function at arguments of a kind, and the reckoning at its ends: the call keeps its contract there. -/
theorem ctr_walk {c : Ctr} {fn : Func} {code : Code} (hc : CfgOk P ρ cf) (hf : P.funcs[c.f]? = some fn) (hb : fn.body = some code) (n : Nat) {ds : List X} {w : World} (hg : GlobOk ρ.g w.heap.size w) (x : Nat → X) {vs : List SV} (hv : All2 (RV { ρ with x := x } []) vs (argV c.args ds))
    (h : (go P cf fn n (.code code) [] (begin0 fn vs)).chk { ρ with x := x } (fun j => ρ.f j ds) c.fs c.res = true) :
    Calls P c.f (argV c.args ds).toArray w fun e w' => ∃ v, e = .returned v ∧ resOk (fun j => ρ.f j ds) c.fs c.res v ∧ Below w.heap.size w w' :=
  call_ok (ρ := { ρ with x := x }) (hc.withX x) hf hb n hg hv (chk_ok h)
end
end Vc
end Go.Proofs.YtfpecoddgdcaaaaDoor
