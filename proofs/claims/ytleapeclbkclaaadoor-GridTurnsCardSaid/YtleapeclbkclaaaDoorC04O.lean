/- Layer 4: Turn of small points; the number of three axes with signs. -/
import Derived.Test.YtleapeclbkclaaaDoorC04M
namespace Go.Proofs.YtleapeclbkclaaaDoor
namespace Vc
open Go Go.RowKit
set_option linter.unusedVariables false

theorem ctr_narrow {P : Program} {ρ : Env} {c : Ctr} {aa : List Sh} {r : Rs} (h : CtrOk P ρ c) (hp : c.pre = none) (ha : ∀ ds, argR aa ds → argR c.args ds ∧ argV c.args ds = argV aa ds)
    (hr : ∀ ds v, argR aa ds → resOk (fun j => ρ.f j ds) c.fs c.res v → resOk (fun j => ρ.f j ds) c.fs r v) : CtrOk P ρ { c with args := aa, res := r } := by
  intro ds w hg h1 _
  obtain ⟨a1, a2⟩ := ha ds h1
  have := h ds w hg a1 (by rw [hp]; trivial)
  rw [a2] at this
  exact this.mono fun e w' ⟨v, q1, q2, q3⟩ => ⟨v, q1, hr ds v h1 q2, q3⟩
/-- Three integers, in a narrower range. -/
theorem res_narrow {f : Nat → X} {j : Nat} {l u l' u' : Int} {v : Value} (h : resOk f j (.agg [IR l u, IR l u, IR l u]) v) (hk : ∀ k, k < 3 → l' ≤ (f (j + k)).i ∧ (f (j + k)).i ≤ u') : resOk f j (.agg [IR l' u', IR l' u', IR l' u']) v := by
  obtain ⟨us, rfl, h⟩ := h
  match us, h with
  | [a, b, c], h =>
    obtain ⟨⟨a1, _⟩, ⟨b1, _⟩, ⟨c1, _⟩, _⟩ := h
    exact ⟨_, rfl, ⟨a1, hk 0 (by omega)⟩, ⟨b1, hk 1 (by omega)⟩, ⟨c1, hk 2 (by omega)⟩, trivial⟩
theorem turn3 {f : FuncId} (h : CtrOk Tryd.prog ρ0 ⟨f, [.one I64, .agg [CW, CW, CW]], .agg [CW, CW, CW], none, 290⟩) : CtrOk Tryd.prog ρ0 ⟨f, [.one I64, .agg T3], .agg T3, none, 290⟩ := by
  refine ctr_narrow h rfl (fun ds hr => ?_) (fun ds v hr hv => ?_)
  · match ds, hr with
    | [d0, d1, d2, d3], hr =>
      obtain ⟨a, ⟨⟨e1, l1, u1⟩, ⟨e2, l2, u2⟩, ⟨e3, l3, u3⟩, _⟩, _⟩ := hr
      have l1 : -3 ≤ d1.i := l1; have u1 : d1.i ≤ 3 := u1; have l2 : -3 ≤ d2.i := l2; have u2 : d2.i ≤ 3 := u2; have l3 : -3 ≤ d3.i := l3; have u3 : d3.i ≤ 3 := u3
      exact ⟨⟨a, ⟨⟨e1, show -1048576 ≤ d1.i by omega, show d1.i ≤ 1048576 by omega⟩, ⟨e2, show -1048576 ≤ d2.i by omega, show d2.i ≤ 1048576 by omega⟩, ⟨e3, show -1048576 ≤ d3.i by omega, show d3.i ≤ 1048576 by omega⟩, trivial⟩, rfl⟩, rfl⟩
  · match ds, hr with
    | [d0, d1, d2, d3], hr =>
      obtain ⟨a, ⟨⟨e1, l1, u1⟩, ⟨e2, l2, u2⟩, ⟨e3, l3, u3⟩, _⟩, _⟩ := hr
      exact res_narrow hv fun k hk => by
        show _ ≤ (Ff (290 + k) [d0, d1, d2, d3]).i ∧ (Ff (290 + k) [d0, d1, d2, d3]).i ≤ _
        rw [FT k _ _ _ _ hk, xI_i]
        exact tn_rng d0.i k rfl ⟨l1, u1⟩ ⟨l2, u2⟩ ⟨l3, u3⟩
theorem kTurn3 : CtrOk Tryd.prog ρ0 cTurn3 := turn3 kTurn
theorem kTurn3R : CtrOk Tryd.prog ρ0 cTurn3R := turn3 kTurnR
theorem nTurn3 : ∃ fn, Tryd.prog.funcs[cTurn3.f]? = some fn ∧ fn.body.isSome = true ∧ (fn.name == "runtime.NumGoroutine") = false := nTurn
theorem nTurn3R : ∃ fn, Tryd.prog.funcs[cTurn3R.f]? = some fn ∧ fn.body.isSome = true ∧ (fn.name == "runtime.NumGoroutine") = false := nTurnR

end Vc
end Go.Proofs.YtleapeclbkclaaaDoor
