/- Layer 30: the examples of the documentation hold. -/
import Derived.Test.YtgbaelpcbhgdjaaDoorC30E
import Derived.Test.YtgbaelpcbhgdjaaDoorC07R
namespace Go.Proofs.YtgbaelpcbhgdjaaDoor
namespace Vc
open Go Go.RowKit
set_option linter.unusedVariables false

def Pbx : Nat → List X → Bool
  | 710, a :: b :: c :: d :: e :: f :: l :: _ => validG (grX a b c d e f l)
  | 711, [a, b, c, d, e, f, l, a', b', c', d', e', f', l'] => validG (grX a b c d e f l) && validG (grX a' b' c' d' e' f' l')
  | _, _ => false
theorem pbx_ok : ∀ k ds, Pbx k ds = true → ρ0.p k ds := fun k ds h => by
  unfold Pbx at h
  split at h
  · exact h
  · exact (Bool.and_eq_true ..).mp h
  · cases h
noncomputable def cfB (cs : List Ctr) (rs : List RCtr) (sm : List FuncId) : Cfg := { cfP fnL (some Ff) cs rs [] sm with Pb := Pbx }
theorem cfB_ok {cs : List Ctr} {rs : List RCtr} {sm : List FuncId} (h : KeepL cs) (hr : KeepR rs) : CfgOk Tryd.prog ρ0 (cfB cs rs sm) :=
  have k := cfG_ok (F := some Ff) (ls := []) (sm := sm) h hr someF
  { eq := k.eq, globs := k.globs, F := k.F, mixed := k.mixed, fns := k.fns, ctr := k.ctr, fn := k.fn, rctr := k.rctr, pb := pbx_ok }
def rS : List RCtr := [cPaste, cRnd, cStl, cPot, cEqR, cTgt, cFr]
theorem keepRS : KeepR rS := ((((((keepR0.cons kFr nFr).cons kTgt nTgt).cons kEqR nEqR).cons kPot nPot).cons kStl nStl).cons kRnd nRnd).cons kPaste nPaste
theorem sane_law : (walkF Tryd.prog (cfB [] rS sumL) Tryd.f9 600 []).isT1 = true := by kernel_rfl
def cSane : Ctr := ⟨9, [], .one (.cst (.bool true)), none, 0⟩
theorem kSane : CtrOk Tryd.prog ρ0 cSane := ctr_true (cfB_ok keep0 keepRS) Tryd.func9 rfl 600 0 sane_law
theorem nSane : ∃ fn, Tryd.prog.funcs[cSane.f]? = some fn ∧ fn.body.isSome = true ∧ (fn.name == "runtime.NumGoroutine") = false := ⟨_, Tryd.func9, by kernel_rfl, by kernel_rfl⟩
end Vc
end Go.Proofs.YtgbaelpcbhgdjaaDoor
