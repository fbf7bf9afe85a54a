/- Layer 36: walks at known configurations. -/
import Derived.Test.YtciiikkdflhjiaaC36R
namespace Go.Proofs.Ytciiikkdflhjiaa
namespace Vc
open Go Go.RowKit
set_option linter.unusedVariables false

theorem cyc12 : cycAt 12 = true := by kernel_rfl
theorem cyc13 : cycAt 13 = true := by kernel_rfl
theorem cyc14 : cycAt 14 = true := by kernel_rfl
theorem cyc15 : cycAt 15 = true := by kernel_rfl
end Vc
end Go.Proofs.Ytciiikkdflhjiaa
