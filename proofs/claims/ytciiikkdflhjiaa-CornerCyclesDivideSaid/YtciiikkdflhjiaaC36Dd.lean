/- Layer 36: walks at known configurations. -/
import Derived.Test.YtciiikkdflhjiaaC36R
namespace Go.Proofs.Ytciiikkdflhjiaa
namespace Vc
open Go Go.RowKit
set_option linter.unusedVariables false

theorem div12 : divAt 12 = true := by kernel_rfl
theorem div13 : divAt 13 = true := by kernel_rfl
theorem div14 : divAt 14 = true := by kernel_rfl
theorem div15 : divAt 15 = true := by kernel_rfl
end Vc
end Go.Proofs.Ytciiikkdflhjiaa
