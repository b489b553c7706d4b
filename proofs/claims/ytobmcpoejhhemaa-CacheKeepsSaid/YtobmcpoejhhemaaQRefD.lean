import Derived.Test.YtobmcpoejhhemaaQRefB
import Derived.Test.YtobmcpoejhhemaaQKeep
import Derived.Test.YtobmcpoejhhemaaQNone
import Derived.Test.YtobmcpoejhhemaaQEngH
import Derived.Test.YtobmcpoejhhemaaQCmpW
import Derived.Test.YtobmcpoejhhemaaQTabD
import Derived.Test.YtobmcpoejhhemaaQNone2
import Derived.Test.YtobmcpoejhhemaaQKeeps
namespace Go.Proofs.Ytobmcpoejhhemaa
open Go.E

def p2 (e : Nat) : Nat := 2 ^ e
theorem ok_pow : ∀ e : Fin 17, okSize (p2 e.val : Int) = true := by decide +kernel
end Go.Proofs.Ytobmcpoejhhemaa
