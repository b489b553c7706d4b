import Derived.Test.YtobmcpoejhhemaaGreatKRefB
import Derived.Test.YtobmcpoejhhemaaGreatKKeep
import Derived.Test.YtobmcpoejhhemaaGreatKNone
import Derived.Test.YtobmcpoejhhemaaGreatKEngH
import Derived.Test.YtobmcpoejhhemaaGreatKCmpW
import Derived.Test.YtobmcpoejhhemaaGreatKTabD
import Derived.Test.YtobmcpoejhhemaaGreatKNone2
import Derived.Test.YtobmcpoejhhemaaGreatKKeeps
namespace Go.Proofs.YtobmcpoejhhemaaGreat
open Go.E

def p2 (e : Nat) : Nat := 2 ^ e
theorem ok_pow : ∀ e : Fin 17, okSize (p2 e.val : Int) = true := by decide +kernel
end Go.Proofs.YtobmcpoejhhemaaGreat
