import Derived.Test.YtobmcpoejhhemaaVRefB
import Derived.Test.YtobmcpoejhhemaaVKeep
import Derived.Test.YtobmcpoejhhemaaVTabD
import Derived.Test.YtobmcpoejhhemaaVEngH
import Derived.Test.YtobmcpoejhhemaaVCmpW
import Derived.Test.YtobmcpoejhhemaaVKeeps
namespace Go.Proofs.Ytobmcpoejhhemaa
open Go.E

def p2 (e : Nat) : Nat := 2 ^ e
end Go.Proofs.Ytobmcpoejhhemaa
