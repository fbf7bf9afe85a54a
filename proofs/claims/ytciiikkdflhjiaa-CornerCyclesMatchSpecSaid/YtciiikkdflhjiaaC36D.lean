/- Layer 36: the examples of the documentation, which every statement plays first, hold. -/
import Derived.Test.YtciiikkdflhjiaaC36C
namespace Go.Proofs.Ytciiikkdflhjiaa
namespace Vc
open Go Go.RowKit
set_option linter.unusedVariables false

theorem baseKeep : AllKeep [cSol, cOct, cOctR, cPres, cPresR, cUp, cUpR, cEdge, cEdgeR, cEnds, cEndsR, cAr, cArR] :=
  ⟨⟨kSol, nSol⟩, ⟨kOct, nOct⟩, ⟨kOctR, nOctR⟩, ⟨kPres, nPres⟩, ⟨kPresR, nPresR⟩, ⟨kUp, nUp⟩, ⟨kUpR, nUpR⟩, ⟨kEdge, nEdge⟩, ⟨kEdgeR, nEdgeR⟩, ⟨kEnds, nEnds⟩, ⟨kEndsR, nEndsR⟩, ⟨kAr, nAr⟩, ⟨kArR, nArR⟩, trivial⟩
def base : List Ctr := [cSol, cOct, cOctR, cPres, cPresR, cUp, cUpR, cEdge, cEdgeR, cEnds, cEndsR, cAr, cArR]
theorem cf4_ok : CfgOk Try.prog ρ0 (mk base []) := mk_ok (by simpa [base] using baseKeep)
def cCycAt (n : Int) : Ctr := { cCyc with args := [.one (IR n n)] }
theorem kCycOf (n : Int) (h : (walk (mk base []) Try.f23 12000 [ci n]).chk ρ0 (fun j => Ff j [xI n]) 190 (.one (.ln 12)) = true) : Keeps (cCycAt n) := by
  intro ds w hg hr _
  match ds, hr with
  | [d0], hr =>
    obtain ⟨⟨⟨e0, h1, h2⟩, _⟩, _⟩ := hr
    generalize d0.i = f at *
    subst e0
    have : f = n := by omega
    subst this
    exact goal_of (c := cCycAt f) (ds := [xI f]) cf4_ok Try.func23 rfl 12000 (fun _ => xI 0) (vs := [ci f]) ⟨⟨rfl, Int.le_refl _, Int.le_refl _⟩, trivial⟩ h (fun v hv => hv) w hg
theorem nCycAt (n : Int) : NamesOk (cCycAt n) := nCyc
theorem kCyc0 : Keeps (cCycAt 0) := kCycOf 0 (by kernel_rfl)
theorem kCyc255 : Keeps (cCycAt 255) := kCycOf 255 (by kernel_rfl)
theorem kCyc129 : Keeps (cCycAt 129) := kCycOf 129 (by kernel_rfl)
theorem kCyc3 : Keeps (cCycAt 3) := kCycOf 3 (by kernel_rfl)
def cyc4 : List Ctr := [cCycAt 0, cCycAt 255, cCycAt 129, cCycAt 3]
theorem cf5_ok : CfgOk Try.prog ρ0 (mk base cyc4) := mk_ok (by
  have h := baseKeep
  exact ⟨h.1, h.2.1, h.2.2.1, h.2.2.2.1, h.2.2.2.2.1, h.2.2.2.2.2.1, h.2.2.2.2.2.2.1, h.2.2.2.2.2.2.2.1, h.2.2.2.2.2.2.2.2.1, h.2.2.2.2.2.2.2.2.2.1, h.2.2.2.2.2.2.2.2.2.2.1, h.2.2.2.2.2.2.2.2.2.2.2.1, h.2.2.2.2.2.2.2.2.2.2.2.2.1,
    ⟨kCyc0, nCycAt 0⟩, ⟨kCyc255, nCycAt 255⟩, ⟨kCyc129, nCycAt 129⟩, ⟨kCyc3, nCycAt 3⟩, trivial⟩)
def cSane : Ctr := ⟨9, [], .one (.cst (.bool true)), none, 0⟩
theorem sane_walk : (walk (mk base cyc4) Try.f9 15000 []).chk ρ0 (fun _ => xI 0) 0 (.one (.cst (.bool true))) = true := by kernel_rfl
theorem kSane : Keeps cSane := by
  intro ds w hg hr _
  have : ds = [] := hr
  subst this
  exact goal_of (c := cSane) (ds := []) cf5_ok Try.func9 rfl 15000 (fun _ => xI 0) (vs := []) trivial sane_walk (fun v hv => hv) w hg
theorem nSane : NamesOk cSane := n_of Try.func9 (by kernel_rfl) (by kernel_rfl)

/-- A law's walk ends in 'true'. -/
theorem law_of {cf : Cfg} (hc : CfgOk Try.prog ρ0 cf) {f : FuncId} {fn : Func} (hf : Try.prog.funcs[f]? = some fn) (hb : fn.body = some (bodyOf fn)) (n : Nat) (x : Nat → X) {vs : List SV} {us : List Value} (hv : All2 (RV { ρ0 with x := x } []) vs us) (w : World)
    (h : (walk cf fn n vs).chk { ρ0 with x := x } (fun _ => xI 0) 0 (.one (.cst (.bool true))) = true) : Calls Try.prog f us.toArray w fun e w' => e = .returned (.bool true) ∧ Below w.heap.size w w' :=
  (call_ok (ρ := { ρ0 with x := x }) (hc.withX x) hf hb n (fun x hx => by cases hx) hv (chk_ok h)).mono fun e w' ⟨v, h1, h2, h3⟩ => by
    have h2' : v = .bool true := h2
    subst h2'
    exact ⟨h1, h3⟩
end Vc
end Go.Proofs.Ytciiikkdflhjiaa
