/- Layer 36: walks at known configurations. -/
import Derived.Test.YtciiikkdflhjiaaC36R
namespace Go.Proofs.Ytciiikkdflhjiaa
namespace Vc
open Go Go.RowKit
set_option linter.unusedVariables false

theorem cyc8 : cycAt 8 = true := by kernel_rfl
theorem cyc9 : cycAt 9 = true := by kernel_rfl
theorem cyc10 : cycAt 10 = true := by kernel_rfl
theorem cyc11 : cycAt 11 = true := by kernel_rfl
end Vc
end Go.Proofs.Ytciiikkdflhjiaa
