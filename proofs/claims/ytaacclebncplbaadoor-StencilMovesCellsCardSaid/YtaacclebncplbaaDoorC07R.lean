/- Contracts of functions, each out of one walk. -/
import Derived.Test.YtaacclebncplbaaDoorC07Q
import Derived.Test.YtaacclebncplbaaDoorC07N
import Derived.Test.YtaacclebncplbaaDoorC04D
import Derived.Test.YtaacclebncplbaaDoorC04E
namespace Go.Proofs.YtaacclebncplbaaDoor
namespace Vc
open Go Go.RowKit
set_option linter.unusedVariables false
end Vc
end Go.Proofs.YtaacclebncplbaaDoor
