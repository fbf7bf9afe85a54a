/- Contracts of functions, each out of one walk. -/
import Derived.Test.YtaacclebncplbaaDoorC04Q
namespace Go.Proofs.YtaacclebncplbaaDoor
namespace Vc
open Go Go.RowKit
set_option linter.unusedVariables false
end Vc
end Go.Proofs.YtaacclebncplbaaDoor
