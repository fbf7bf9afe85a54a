/- Layer 7's own laws in plain terms: the tables. -/
import Derived.Test.YtleapeclbkclaaaDoorC07G
namespace Go.Proofs.YtleapeclbkclaaaDoor
namespace Vc
open Go Go.RowKit
set_option linter.unusedVariables false

def Fx : Nat → List X → X
  | n, l => Fx9 n l
def Px : Nat → List X → Prop
  | n, l => Px9 n l
def eqsX : List (TypeId × List Kd) := [(74, List.replicate 5 (.int .i64))]
end Vc
end Go.Proofs.YtleapeclbkclaaaDoor
