/- Layer 36: Pair and Next keep their contracts. -/
import Derived.Test.YtciiikkdflhjiaaC36E
namespace Go.Proofs.Ytciiikkdflhjiaa
namespace Vc
open Go Go.RowKit
set_option linter.unusedVariables false

theorem pE0 : pairE (mk base []) cPair Try.f25 0 = true := by kernel_rfl
theorem pE1 : pairE (mk base []) cPair Try.f25 1 = true := by kernel_rfl
theorem pE2 : pairE (mk base []) cPair Try.f25 2 = true := by kernel_rfl
theorem pE3 : pairE (mk base []) cPair Try.f25 3 = true := by kernel_rfl
theorem pE4 : pairE (mk base []) cPair Try.f25 4 = true := by kernel_rfl
theorem pE5 : pairE (mk base []) cPair Try.f25 5 = true := by kernel_rfl
theorem kPair : Keeps cPair := k3 cf1_ok cf4_ok cPair Try.func25 rfl rfl rfl rfl
  ⟨fun p q r => by kernel_rfl, fun p q r => by kernel_rfl, fun p q r => by kernel_rfl, fun p q r => by kernel_rfl, fun p q r => by kernel_rfl, fun p q r => by kernel_rfl⟩ (pairA_of pE0 pE1 pE2 pE3 pE4 pE5)
theorem pR0 : pairE (mk base []) cPairR Try.f26 0 = true := by kernel_rfl
theorem pR1 : pairE (mk base []) cPairR Try.f26 1 = true := by kernel_rfl
theorem pR2 : pairE (mk base []) cPairR Try.f26 2 = true := by kernel_rfl
theorem pR3 : pairE (mk base []) cPairR Try.f26 3 = true := by kernel_rfl
theorem pR4 : pairE (mk base []) cPairR Try.f26 4 = true := by kernel_rfl
theorem pR5 : pairE (mk base []) cPairR Try.f26 5 = true := by kernel_rfl
theorem kPairR : Keeps cPairR := k3 cf1_ok cf4_ok cPairR Try.func26 rfl rfl rfl rfl
  ⟨fun p q r => by kernel_rfl, fun p q r => by kernel_rfl, fun p q r => by kernel_rfl, fun p q r => by kernel_rfl, fun p q r => by kernel_rfl, fun p q r => by kernel_rfl⟩ (pairA_of pR0 pR1 pR2 pR3 pR4 pR5)
end Vc
end Go.Proofs.Ytciiikkdflhjiaa
