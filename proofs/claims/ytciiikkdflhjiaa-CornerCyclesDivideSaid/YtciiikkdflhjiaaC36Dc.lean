/- Layer 36: walks at known configurations. -/
import Derived.Test.YtciiikkdflhjiaaC36R
namespace Go.Proofs.Ytciiikkdflhjiaa
namespace Vc
open Go Go.RowKit
set_option linter.unusedVariables false

theorem div8 : divAt 8 = true := by kernel_rfl
theorem div9 : divAt 9 = true := by kernel_rfl
theorem div10 : divAt 10 = true := by kernel_rfl
theorem div11 : divAt 11 = true := by kernel_rfl
end Vc
end Go.Proofs.Ytciiikkdflhjiaa
