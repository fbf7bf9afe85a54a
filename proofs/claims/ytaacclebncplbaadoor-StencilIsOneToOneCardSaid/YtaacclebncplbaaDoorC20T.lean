/- Layer 20: the examples of the documentation hold. -/
import Derived.Test.YtaacclebncplbaaDoorC20B
import Derived.Test.YtaacclebncplbaaDoorC07I
import Derived.Test.YtaacclebncplbaaDoorC07P
namespace Go.Proofs.YtaacclebncplbaaDoor
namespace Vc
open Go Go.RowKit
set_option linter.unusedVariables false
def nIb (m n : Int) : Bool := decide (-m ≤ n) && decide (n ≤ m)
def nPb (m : Int) (p : Pt) : Bool := nIb m p.1 && nIb m p.2.1 && nIb m p.2.2
def nBb (m : Int) (b : Bx) : Bool := (nIb m b.a && nIb m b.b && nIb m b.c) && nIb m b.d && nIb m b.e && nIb m b.f
theorem nI_of {m n : Int} (h : nIb m n = true) : nI m n := by
  unfold nIb at h
  rw [Bool.and_eq_true] at h
  exact ⟨of_decide_eq_true h.1, of_decide_eq_true h.2⟩
theorem nP_of {m : Int} {p : Pt} (h : nPb m p = true) : nP m p := by
  unfold nPb at h
  simp only [Bool.and_eq_true] at h
  exact ⟨nI_of h.1.1, nI_of h.1.2, nI_of h.2⟩
theorem nB_of {m : Int} {b : Bx} (h : nBb m b = true) : nB m b := by
  unfold nBb at h
  simp only [Bool.and_eq_true] at h
  exact ⟨⟨nI_of h.1.1.1.1.1, nI_of h.1.1.1.1.2, nI_of h.1.1.1.2⟩, nI_of h.1.1.2, nI_of h.1.2, nI_of h.2⟩
def chgD (c : Ch) : Bool := decide (-1048576 ≤ c.1.1) && decide (c.1.1 ≤ 1048576) && decide (-1048576 ≤ c.1.2.1) && decide (c.1.2.1 ≤ 1048576) && decide (-1048576 ≤ c.1.2.2) && decide (c.1.2.2 ≤ 1048576) && matB c.2.2
def Pbx : Nat → List X → Bool
  | 710, a :: b :: c :: d :: e :: f :: l :: _ => validG (grX a b c d e f l)
  | 711, [a, b, c, d, e, f, l, a', b', c', d', e', f', l'] => validG (grX a b c d e f l) && validG (grX a' b' c' d' e' f' l')
  | 917, [a, b, c, d, e, f, l, w] => validG (grX a b c d e f l) && (lstX deC w).all chgD
  | 947, s :: a :: b :: c :: d :: e :: f :: l :: _ => validG (grX a b c d e f l)
  | 1080, [a, b, c, d, e, f, k, x, y, z] => nBb 10000 (bxX a b c d e f) && nPb 10000 (x.i, y.i, z.i)
  | 1081, [a, b, c, d, e, f, k, x, y, z, u, v, w] => nBb 100000 (bxX a b c d e f) && nPb 100000 (x.i, y.i, z.i)
  | 1082, [a, b, c, d, e, f, k, x, y, z, u, v, w] => nBb 10000 (bxX a b c d e f) && nPb 10000 (x.i, y.i, z.i)
  | 1083, [a, b, c, d, e, f, l, a', b', c', d', e', f', k, x, y, z] => validG (grX a b c d e f l) && (nBb 10000 (bxX a' b' c' d' e' f') && nPb 10000 (x.i, y.i, z.i))
  | 1084, [a, b, c, d, e, f, l, a', b', c', d', e', f', l', k, x, y, z] => validG (grX a b c d e f l) && (validG (grX a' b' c' d' e' f' l') && (nBb 10000 (bxX a' b' c' d' e' f') && nPb 10000 (x.i, y.i, z.i)))
  | 1085, [a, b, c, d, e, f, l, a', b', c', d', e', f', l', a2, b2, c2, d2, e2, f2] => validG (grX a b c d e f l) && (validG (grX a' b' c' d' e' f' l') && (nBb 10000 (bxX a' b' c' d' e' f') && nBb 10000 (bxX a2 b2 c2 d2 e2 f2)))
  | _, _ => false
theorem pbx_ok : ∀ k ds, Pbx k ds = true → ρ0.p k ds := fun k ds h => by
  unfold Pbx at h
  split at h
  · exact h
  · exact (Bool.and_eq_true ..).mp h
  · rename_i a b c d e f l w
    rw [Bool.and_eq_true] at h
    refine ⟨h.1, fun k hk => ?_⟩
    have h2 := List.all_eq_true.1 h.2 _ (lx_mem (dec := deC) (l := w) (k := k) (by omega) hk)
    unfold chgD at h2
    simp only [Bool.and_eq_true, decide_eq_true_eq] at h2
    exact ⟨⟨h2.1.1.1.1.1.1, h2.1.1.1.1.1.2⟩, ⟨h2.1.1.1.1.2, h2.1.1.1.2⟩, ⟨h2.1.1.2, h2.1.2⟩, h2.2⟩
  · exact h
  · rw [Bool.and_eq_true] at h
    exact ⟨nB_of h.1, nP_of h.2⟩
  · rw [Bool.and_eq_true] at h
    exact ⟨nB_of h.1, nP_of h.2⟩
  · rw [Bool.and_eq_true] at h
    exact ⟨nB_of h.1, nP_of h.2⟩
  · rw [Bool.and_eq_true, Bool.and_eq_true] at h
    exact ⟨h.1, nB_of h.2.1, nP_of h.2.2⟩
  · rw [Bool.and_eq_true, Bool.and_eq_true, Bool.and_eq_true] at h
    exact ⟨h.1, h.2.1, nB_of h.2.2.1, nP_of h.2.2.2⟩
  · rw [Bool.and_eq_true, Bool.and_eq_true, Bool.and_eq_true] at h
    exact ⟨h.1, h.2.1, nB_of h.2.2.1, nB_of h.2.2.2⟩
  · cases h
noncomputable def cfB (cs : List Ctr) (rs : List RCtr) (sm : List FuncId) : Cfg := { cfP fnL (some Ff) cs rs [] sm with Pb := Pbx }
theorem cfB_ok {cs : List Ctr} {rs : List RCtr} {sm : List FuncId} (h : KeepL cs) (hr : KeepR rs) : CfgOk Tryd.prog ρ0 (cfB cs rs sm) :=
  have k := cfG_ok (F := some Ff) (ls := []) (sm := sm) h hr someF
  { eq := k.eq, globs := k.globs, F := k.F, mixed := k.mixed, fns := k.fns, ctr := k.ctr, fn := k.fn, rctr := k.rctr, pb := pbx_ok }
def rS : List RCtr := [cNewR, cSetR, cCropR, cTurGR, cSmC, cCpy, cStm, cRep, cPlc, cSrc, cTgt, cTns, cLik, cCan]
theorem keepRS : KeepR rS := (((((((((((((keepR0.cons kCan nCan).cons kLik nLik).cons kTns nTns).cons kTgt nTgt).cons kSrc nSrc).cons kPlc nPlc).cons kRep nRep).cons kStm nStm).cons kCpy nCpy).cons kSmC nSmC).cons kTurGR nTurGR).cons kCropR nCropR).cons kSetR nSetR).cons kNewR nNewR
theorem sane_law : (walkF Tryd.prog (cfB [] rS sumC) Tryd.f8 2000 []).isT1 = true := by kernel_rfl
def cSane : Ctr := ⟨8, [], .one (.cst (.bool true)), none, 0⟩
theorem kSane : CtrOk Tryd.prog ρ0 cSane := ctr_true (cfB_ok keep0 keepRS) Tryd.func8 rfl 2000 0 sane_law
theorem nSane : ∃ fn, Tryd.prog.funcs[cSane.f]? = some fn ∧ fn.body.isSome = true ∧ (fn.name == "runtime.NumGoroutine") = false := ⟨_, Tryd.func8, by kernel_rfl, by kernel_rfl⟩
end Vc
end Go.Proofs.YtaacclebncplbaaDoor
namespace Go.Proofs.YtaacclebncplbaaDoor
namespace Vc
open Go Go.RowKit
set_option linter.unusedVariables false
def L20 : List Ctr := [cSane, cVolR, cAtR, cInR]
def R20 : List RCtr := [cTgt, cTgtR, cPlc, cPlcR, cSrc, cSrcR, cCpy, cGetR, cWrR, cValidR]
def lpOne : List LSpec := [⟨[0, 0], 20, [(.tmp 10, 0, 2097152)], [], [], 1078, 1078⟩]
def lpMov : List LSpec := [⟨[0, 0], 20, [(.tmp 13, 0, 2097152)], [], [], 1078, 1078⟩, ⟨[2, 0], 30, [(.tmp 15, 0, 2097152)], [], [], 1078, 1078⟩]
theorem keepL20 : KeepL L20 := (((keep0.cons kInR nInR).cons kAtR nAtR).cons kVolR nVolR).cons kSane nSane
theorem keepR20 : KeepR R20 := (((((((((keepR0.cons kValidR nValidR).cons kWrR nWrR).cons kGetR nGetR).cons kCpy nCpy).cons kSrcR nSrcR).cons kSrc nSrc).cons kPlcR nPlcR).cons kPlc nPlc).cons kTgtR nTgtR).cons kTgt nTgt
theorem L20_ok {ls : List LSpec} : CfgOk Tryd.prog ρ0 (cfG none L20 R20 ls sumC) := cfG_ok keepL20 keepR20 noF
end Vc
end Go.Proofs.YtaacclebncplbaaDoor
