/- Layer 36: walks at known configurations. -/
import Derived.Test.YtciiikkdflhjiaaC36G
namespace Go.Proofs.Ytciiikkdflhjiaa
namespace Vc
open Go Go.RowKit
set_option linter.unusedVariables false

def cu8 (n : Nat) : SV := .c (.int .u8 (.ic n) n n)
noncomputable def divAt (j : Nat) : Bool := (List.range 16).all fun k => (walk (mk lawL []) Try.f7 9000 [cu8 (16 * j + k)]).isTrue
noncomputable def cycAt (j : Nat) : Bool := (List.range 16).all fun k => (walk (mk lawL []) Try.f4 20000 [ci (16 * j + k : Nat), fullI 1, fullI 2]).isTrue
end Vc
end Go.Proofs.Ytciiikkdflhjiaa
