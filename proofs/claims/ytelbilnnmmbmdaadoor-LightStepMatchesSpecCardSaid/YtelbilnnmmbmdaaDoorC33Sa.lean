/- Layer 33: the examples of the documentation hold. -/
import Derived.Test.YtelbilnnmmbmdaaDoorC33Z
namespace Go.Proofs.YtelbilnnmmbmdaaDoor
namespace Vc
open Go Go.RowKit
set_option linter.unusedVariables false
def Pbx : Nat → List X → Bool
 | 1230, [a, b, c, d, e, f, l, t, k, o] => okC (grX a b c d e f l) t k && decide (o.i = l.i)
 | 1231, [a, b, c, d, e, f, l, o, x, y, z] => validG (grX a b c d e f l) && decide (o.i = l.i)
 | _, _ => false
theorem pbx_ok : ∀ k ds, Pbx k ds = true → ρ0.p k ds := fun k ds h => by
 unfold Pbx at h
 split at h
 ·rw [Bool.and_eq_true, decide_eq_true_eq] at h
  exact h
 ·rw [Bool.and_eq_true, decide_eq_true_eq] at h
  exact h
 ·cases h
noncomputable def cfB (cs : List Ctr) (rs : List RCtr) (sm : List FuncId) : Cfg := { cfP fnL (some Ff) cs rs [] sm with Pb := Pbx }
theorem cfB_ok {cs : List Ctr} {rs : List RCtr} {sm : List FuncId} (h : KeepL cs) (hr : KeepR rs) : CfgOk Tryd.prog ρ0 (cfB cs rs sm) :=
 have k := cfG_ok (F := some Ff) (ls := []) (sm := sm) h hr someF
 { eq := k.eq, globs := k.globs, F := k.F, mixed := k.mixed, fns := k.fns, ctr := k.ctr, fn := k.fn, rctr := k.rctr, pb := pbx_ok }
def rS : List RCtr := [cFul, cFixP, cAtP, cSmeR, cSmeP, cBrP, cChL]
theorem keepRS : KeepR rS := ((((((keepR0.cons kChL nChL).cons kBrP nBrP).cons kSmeP nSmeP).cons kSmeR nSmeR).cons kAtP nAtP).cons kFixP nFixP).cons kFul nFul
theorem sane_law : (walkF Tryd.prog (cfB [] rS sumL) Tryd.f9 600 []).isT1 = true := by kernel_rfl
def cSane : Ctr := ⟨9, [], .one (.cst (.bool true)), none, 0⟩
theorem kSane : CtrOk Tryd.prog ρ0 cSane := ctr_true (cfB_ok keep0 keepRS) Tryd.func9 rfl 600 0 sane_law
theorem nSane : ∃ fn, Tryd.prog.funcs[cSane.f]? = some fn ∧ fn.body.isSome = true ∧ (fn.name == "runtime.NumGoroutine") = false := ⟨_, Tryd.func9, by kernel_rfl, by kernel_rfl⟩
end Vc
end Go.Proofs.YtelbilnnmmbmdaaDoor
