/- Layer 36: walks at known configurations. -/
import Derived.Test.YtciiikkdflhjiaaC36R
namespace Go.Proofs.Ytciiikkdflhjiaa
namespace Vc
open Go Go.RowKit
set_option linter.unusedVariables false

theorem div4 : divAt 4 = true := by kernel_rfl
theorem div5 : divAt 5 = true := by kernel_rfl
theorem div6 : divAt 6 = true := by kernel_rfl
theorem div7 : divAt 7 = true := by kernel_rfl
end Vc
end Go.Proofs.Ytciiikkdflhjiaa
