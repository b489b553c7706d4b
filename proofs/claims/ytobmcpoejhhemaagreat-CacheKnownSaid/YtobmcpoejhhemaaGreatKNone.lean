import Derived.Test.YtobmcpoejhhemaaGreatKTabD
namespace Go.Proofs.YtobmcpoejhhemaaGreat
open Go.E

theorem ink17 : InK .u8 17 := ⟨by decide, by decide⟩
theorem ink53 : InK .u16 53 := ⟨by decide, by decide⟩
end Go.Proofs.YtobmcpoejhhemaaGreat
