import Derived.Test.YtobmcpoejhhemaaGreatYRefB
import Derived.Test.YtobmcpoejhhemaaGreatYKeep
import Derived.Test.YtobmcpoejhhemaaGreatYNone
import Derived.Test.YtobmcpoejhhemaaGreatYEngH
import Derived.Test.YtobmcpoejhhemaaGreatYCmpW
import Derived.Test.YtobmcpoejhhemaaGreatYTabD
import Derived.Test.YtobmcpoejhhemaaGreatYNone2
import Derived.Test.YtobmcpoejhhemaaGreatYKeeps
namespace Go.Proofs.YtobmcpoejhhemaaGreat
open Go.E

def p2 (e : Nat) : Nat := 2 ^ e
theorem ok_pow : ∀ e : Fin 17, okSize (p2 e.val : Int) = true := by decide +kernel
end Go.Proofs.YtobmcpoejhhemaaGreat
