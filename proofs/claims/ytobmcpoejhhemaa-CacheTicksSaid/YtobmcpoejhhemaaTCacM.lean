import Derived.Test.YtobmcpoejhhemaaTCacK
namespace Go.Proofs.Ytobmcpoejhhemaa
open Go.E

/-- All flows, in the order of their keys. -/
def AllR (fl out : List Rec) : Prop := out.Perm fl ∧ out.Pairwise fun x y => ¬ ltK y.key x.key
end Go.Proofs.Ytobmcpoejhhemaa
