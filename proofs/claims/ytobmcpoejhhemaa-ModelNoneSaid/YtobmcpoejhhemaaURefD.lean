import Derived.Test.YtobmcpoejhhemaaUBytes
import Derived.Test.YtobmcpoejhhemaaUEngH
import Derived.Lib.BytesEntry
import Derived.Laws.BytesString
import Derived.Sort.Statements
import Derived.Sort.Walk0
import Derived.Laws.Externs
import Derived.Test.YtobmcpoejhhemaaUKeep
import Derived.Test.YtobmcpoejhhemaaUTabD
import Derived.Test.YtobmcpoejhhemaaUEngS
import Derived.Test.YtobmcpoejhhemaaProg
import Derived.Test.YtobmcpoejhhemaaUKeeps
namespace Go.Proofs.Ytobmcpoejhhemaa
open Go.E

def p2 (e : Nat) : Nat := 2 ^ e
end Go.Proofs.Ytobmcpoejhhemaa
