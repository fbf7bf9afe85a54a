/- Layer 36: walks at known configurations. -/
import Derived.Test.YtciiikkdflhjiaaC36R
namespace Go.Proofs.Ytciiikkdflhjiaa
namespace Vc
open Go Go.RowKit
set_option linter.unusedVariables false

theorem div0 : divAt 0 = true := by kernel_rfl
theorem div1 : divAt 1 = true := by kernel_rfl
theorem div2 : divAt 2 = true := by kernel_rfl
theorem div3 : divAt 3 = true := by kernel_rfl
end Vc
end Go.Proofs.Ytciiikkdflhjiaa
