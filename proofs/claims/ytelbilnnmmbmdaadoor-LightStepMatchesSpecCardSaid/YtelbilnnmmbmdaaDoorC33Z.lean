/- Layer 33: the whole light, whatever the arguments; what the laws assume. -/
import Derived.Test.YtelbilnnmmbmdaaDoorC33Y
import Derived.Test.YtelbilnnmmbmdaaDoorC33J
namespace Go.Proofs.YtelbilnnmmbmdaaDoor
namespace Vc
open Go Go.RowKit
set_option linter.unusedVariables false
theorem rctr_cases {P : Program} {ρ : Env} {f : FuncId} {args : List RSh} {res : RRs} {fs p q : Nat} (ha : RCtrOk P ρ ⟨f, args, res, some p, fs⟩) (hb : RCtrOk P ρ ⟨f, args, res, some q, fs⟩) (h : ∀ ds vs w, argRel w args ds vs → ρ.p p ds ∨ ρ.p q ds) : RCtrOk P ρ ⟨f, args, res, none, fs⟩ := fun ds vs w hg hr _ => by
 rcases h ds vs w hr with h | h
 ·exact ha ds vs w hg hr h
 ·exact hb ds vs w hg hr h
theorem ok_cases (ds : Ds) (vs : List Value) (w : World) (h : argRel w [RGw, RMt, RKn] ds vs) : Px 1238 ds ∨ Px 1239 ds := by
 obtain ⟨_, b1, _⟩ := rsh_ok (ρ := { ρ0 with x := fun j => ds.getD j (xI 0) }) (j := 0) h fun i x hi => by
  show ds.getD (0 + i) (xI 0) = x
  rw [Nat.zero_add, List.getD_eq_getElem?_getD, hi]; rfl
 have h := rshX_flat b1
 match ds, h with
 | [a, b, c, d, e, f, l, t, k], _ =>
  cases hc : okC (grX a b c d e f l) t k
  ·exact .inr hc
  ·exact .inl hc
theorem kFul : RCtrOk Tryd.prog ρ0 cFul := rctr_cases kFulA kFulB ok_cases
theorem nFul : ∃ fn, Tryd.prog.funcs[cFul.f]? = some fn ∧ fn.body.isSome = true ∧ (fn.name == "runtime.NumGoroutine") = false := nFulA
end Vc
end Go.Proofs.YtelbilnnmmbmdaaDoor
