/- Layer 7: the examples of the documentation hold. -/
import Derived.Test.YtleapeclbkclaaaDoorC07U
namespace Go.Proofs.YtleapeclbkclaaaDoor
namespace Vc
open Go Go.RowKit
set_option linter.unusedVariables false

def chgD (c : Ch) : Bool := decide (-1048576 ≤ c.1.1) && decide (c.1.1 ≤ 1048576) && decide (-1048576 ≤ c.1.2.1) && decide (c.1.2.1 ≤ 1048576) && decide (-1048576 ≤ c.1.2.2) && decide (c.1.2.2 ≤ 1048576) && matB c.2.2
def Pbx : Nat → List X → Bool
  | 710, a :: b :: c :: d :: e :: f :: l :: _ => validG (grX a b c d e f l)
  | 711, [a, b, c, d, e, f, l, a', b', c', d', e', f', l'] => validG (grX a b c d e f l) && validG (grX a' b' c' d' e' f' l')
  | 917, [a, b, c, d, e, f, l, w] => validG (grX a b c d e f l) && (lstX deC w).all chgD
  | 947, s :: a :: b :: c :: d :: e :: f :: l :: _ => validG (grX a b c d e f l)
  | _, _ => false
theorem pbx_ok : ∀ k ds, Pbx k ds = true → ρ0.p k ds := fun k ds h => by
  unfold Pbx at h
  split at h
  · exact h
  · exact (Bool.and_eq_true ..).mp h
  · rename_i a b c d e f l w
    rw [Bool.and_eq_true] at h
    refine ⟨h.1, fun k hk => ?_⟩
    have h2 := List.all_eq_true.1 h.2 _ (lx_mem (dec := deC) (l := w) (k := k) (by omega) hk)
    unfold chgD at h2
    simp only [Bool.and_eq_true, decide_eq_true_eq] at h2
    exact ⟨⟨h2.1.1.1.1.1.1, h2.1.1.1.1.1.2⟩, ⟨h2.1.1.1.1.2, h2.1.1.1.2⟩, ⟨h2.1.1.2, h2.1.2⟩, h2.2⟩
  · exact h
  · cases h
noncomputable def cfB (cs : List Ctr) (rs : List RCtr) (sm : List FuncId) : Cfg := { cfP fnL (some Ff) cs rs [] sm with Pb := Pbx }
theorem cfB_ok {cs : List Ctr} {rs : List RCtr} {sm : List FuncId} (h : KeepL cs) (hr : KeepR rs) : CfgOk Tryd.prog ρ0 (cfB cs rs sm) :=
  have k := cfG_ok (F := some Ff) (ls := []) (sm := sm) h hr someF
  { eq := k.eq, globs := k.globs, F := k.F, mixed := k.mixed, fns := k.fns, ctr := k.ctr, fn := k.fn, rctr := k.rctr, pb := pbx_ok }
def rS : List RCtr := [cNew, cSet, cGet, cCrop, cTur, cCnt, cEq, cValid, cPaste, cShf]
def lS : List Ctr := [cVol, cEmpty, cIndex, cInter]
theorem keepS : KeepL lS := (((keep0.cons kInter nInter).cons kIndex nIndex).cons kEmpty nEmpty).cons kVol nVol
theorem keepRS : KeepR rS := (((((((((keepR0.cons kShf nShf).cons kPaste nPaste).cons kValid nValid).cons kEq nEq).cons kCnt nCnt).cons kTur nTur).cons kCrop nCrop).cons kGet nGet).cons kSet nSet).cons kNew nNew
theorem sane_law : (walkF Tryd.prog (cfB lS rS sumC) Tryd.f11 2000 []).isT1 = true := by kernel_rfl
def cSane : Ctr := ⟨11, [], .one (.cst (.bool true)), none, 0⟩
theorem kSane : CtrOk Tryd.prog ρ0 cSane := ctr_true (cfB_ok keepS keepRS) Tryd.func11 rfl 2000 0 sane_law
theorem nSane : ∃ fn, Tryd.prog.funcs[cSane.f]? = some fn ∧ fn.body.isSome = true ∧ (fn.name == "runtime.NumGoroutine") = false := ⟨_, Tryd.func11, by kernel_rfl, by kernel_rfl⟩
end Vc
end Go.Proofs.YtleapeclbkclaaaDoor
