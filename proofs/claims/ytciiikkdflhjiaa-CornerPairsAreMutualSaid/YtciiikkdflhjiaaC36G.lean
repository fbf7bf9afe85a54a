/- Layer 36: Next keeps its contract. -/
import Derived.Test.YtciiikkdflhjiaaC36F
namespace Go.Proofs.Ytciiikkdflhjiaa
namespace Vc
open Go Go.RowKit
set_option linter.unusedVariables false

theorem pairKeep : AllKeep (cPair :: cPairR :: base) := ⟨⟨kPair, nPair⟩, ⟨kPairR, nPairR⟩, by simpa [base] using baseKeep⟩
theorem cf6_ok : CfgOk Try.prog ρ0 (mk (cPair :: cPairR :: base) []) := mk_ok (by simpa using pairKeep)
theorem kNext : Keeps cNext := k2 cf1_ok cf6_ok cNext Try.func27 rfl rfl (xI (-1)) ⟨fun p q => by kernel_rfl, fun p q => by kernel_rfl, fun p q => by kernel_rfl, fun p q => by kernel_rfl⟩ (by kernel_rfl) (fun p q h k hk => next_neg h k hk)
theorem kNextR : Keeps cNextR := k2 cf1_ok cf6_ok cNextR Try.func28 rfl rfl (xI (-1)) ⟨fun p q => by kernel_rfl, fun p q => by kernel_rfl, fun p q => by kernel_rfl, fun p q => by kernel_rfl⟩ (by kernel_rfl) (fun p q h k hk => next_neg h k hk)
/-! ### What the laws use -/
def lawL : List Ctr := cSane :: cNext :: cNextR :: cPair :: cPairR :: base
theorem lawL_ok : CfgOk Try.prog ρ0 (mk lawL []) := mk_ok ⟨⟨kSane, nSane⟩, ⟨kNext, nNext⟩, ⟨kNextR, nNextR⟩, ⟨kPair, nPair⟩, ⟨kPairR, nPairR⟩, by simpa [base] using baseKeep⟩
def Fm.isTrue : Fm → Bool
  | .leaf v _ => (match v with | .c (.bool (.bc b)) => b | _ => false)
  | _ => false
theorem isTrue_chk {ρ : Env} {f : Nat → X} {j : Nat} {F : Fm} (h : F.isTrue = true) : F.chk ρ f j (.one (.cst (.bool true))) = true := by
  cases F <;> try (cases h; done)
  rename_i v hp
  simp only [Fm.isTrue] at h
  split at h
  · subst h; rfl
  · cases h
def u8v (k : Nat) : SV := .c (.int .u8 (.var k) 0 255)
theorem rngU {a : Int} (h : (Lit.int .u8 a).wf = true) : 0 ≤ a ∧ a ≤ 255 := by
  simp only [Lit.wf, Bool.and_eq_true, decide_eq_true_eq] at h
  have e1 : IntKind.u8.min = 0 := by decide
  have e2 : IntKind.u8.max = 255 := by decide
  omega
theorem rngI {a : Int} (h : (Lit.int .i64 a).wf = true) : -9223372036854775808 ≤ a ∧ a ≤ 9223372036854775807 := by
  simp only [Lit.wf, Bool.and_eq_true, decide_eq_true_eq] at h
  have e1 : IntKind.i64.min = -9223372036854775808 := by decide
  have e2 : IntKind.i64.max = 9223372036854775807 := by decide
  omega
end Vc
end Go.Proofs.Ytciiikkdflhjiaa
