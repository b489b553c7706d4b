import Derived.Test.YtobmcpoejhhemaaTRefB
import Derived.Test.YtobmcpoejhhemaaTKeep
import Derived.Test.YtobmcpoejhhemaaTNone
import Derived.Test.YtobmcpoejhhemaaTEngH
import Derived.Test.YtobmcpoejhhemaaTCmpW
import Derived.Test.YtobmcpoejhhemaaTTabD
import Derived.Test.YtobmcpoejhhemaaTNone2
import Derived.Test.YtobmcpoejhhemaaTKeeps
namespace Go.Proofs.Ytobmcpoejhhemaa
open Go.E

def p2 (e : Nat) : Nat := 2 ^ e
theorem ok_pow : ∀ e : Fin 17, okSize (p2 e.val : Int) = true := by decide +kernel
end Go.Proofs.Ytobmcpoejhhemaa
