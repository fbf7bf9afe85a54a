/- The law: what its walk takes. -/
import Derived.Test.YtpmfkelglmgddaaGreatDoorTcBO
import Derived.Test.YtpmfkelglmgddaaGreatDoorTcBP
import Derived.Test.YtpmfkelglmgddaaGreatDoorTcBH
import Derived.Test.YtpmfkelglmgddaaGreatDoorTcBD
import Derived.Test.YtpmfkelglmgddaaGreatDoorTcAC
import Derived.Test.YtpmfkelglmgddaaGreatDoorTcBK
namespace Go.Proofs.YtpmfkelglmgddaaGreatDoor
namespace Vc
open Go Go.RowKit
set_option linter.unusedVariables false
def Oz : List br := [sV, BU, jV, nQ, sU, pU, lP]
theorem JQ : lV Oz := ((((((bw.cons I' Ja).cons M8 M9).cons MX MY).cons Jb Jc).cons Hm Hn).cons Pk Pl).cons Nb Nd
end Vc
end Go.Proofs.YtpmfkelglmgddaaGreatDoor
