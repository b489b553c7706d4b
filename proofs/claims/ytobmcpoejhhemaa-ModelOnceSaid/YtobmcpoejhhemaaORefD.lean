import Derived.Test.YtobmcpoejhhemaaORefB
import Derived.Test.YtobmcpoejhhemaaOKeep
import Derived.Test.YtobmcpoejhhemaaOTabD
import Derived.Test.YtobmcpoejhhemaaOEngH
import Derived.Test.YtobmcpoejhhemaaOSortK
import Derived.Test.YtobmcpoejhhemaaONone2
import Derived.Test.YtobmcpoejhhemaaOKeeps
namespace Go.Proofs.Ytobmcpoejhhemaa
open Go.E

def p2 (e : Nat) : Nat := 2 ^ e
end Go.Proofs.Ytobmcpoejhhemaa
