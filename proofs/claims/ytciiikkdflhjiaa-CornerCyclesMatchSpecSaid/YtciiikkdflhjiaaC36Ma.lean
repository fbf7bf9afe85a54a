/- Layer 36: walks at known configurations. -/
import Derived.Test.YtciiikkdflhjiaaC36R
namespace Go.Proofs.Ytciiikkdflhjiaa
namespace Vc
open Go Go.RowKit
set_option linter.unusedVariables false

theorem cyc0 : cycAt 0 = true := by kernel_rfl
theorem cyc1 : cycAt 1 = true := by kernel_rfl
theorem cyc2 : cycAt 2 = true := by kernel_rfl
theorem cyc3 : cycAt 3 = true := by kernel_rfl
end Vc
end Go.Proofs.Ytciiikkdflhjiaa
