/- Layer 36: walks at known configurations. -/
import Derived.Test.YtciiikkdflhjiaaC36R
namespace Go.Proofs.Ytciiikkdflhjiaa
namespace Vc
open Go Go.RowKit
set_option linter.unusedVariables false

theorem cycW4 : cycAt 4 = true := by kernel_rfl
theorem cycW5 : cycAt 5 = true := by kernel_rfl
theorem cycW6 : cycAt 6 = true := by kernel_rfl
theorem cycW7 : cycAt 7 = true := by kernel_rfl
end Vc
end Go.Proofs.Ytciiikkdflhjiaa
