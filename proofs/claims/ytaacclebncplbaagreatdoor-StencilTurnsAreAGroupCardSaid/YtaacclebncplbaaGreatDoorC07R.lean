/- Contracts of functions, each out of one walk. -/
import Derived.Test.YtaacclebncplbaaGreatDoorC07Q
import Derived.Test.YtaacclebncplbaaGreatDoorC07N
import Derived.Test.YtaacclebncplbaaGreatDoorC04D
import Derived.Test.YtaacclebncplbaaGreatDoorC04E
namespace Go.Proofs.YtaacclebncplbaaGreatDoor
namespace Vc
open Go Go.RowKit
set_option linter.unusedVariables false
end Vc
end Go.Proofs.YtaacclebncplbaaGreatDoor
