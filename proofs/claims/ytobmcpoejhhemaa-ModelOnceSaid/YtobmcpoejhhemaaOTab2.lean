import Derived.Test.YtobmcpoejhhemaaOTab
namespace Go.Proofs.Ytobmcpoejhhemaa
open Go.E

/-- The key's place. -/
def hasI (L : List Slot) (k : Key) : Option Nat := match findI L k with
  | some i => match L[place L.length k i]? with
    | some s => if s.used then some (place L.length k i) else none
    | none => none
  | none => none
/-- What Get answers. -/
def getV (L : List Slot) (k : Key) : Value := match hasI L k with
  | some j => match L[j]? with
    | some s => .tuple #[.int .u64 s.n, .bool true]
    | none => .tuple #[.int .u64 0, .bool false]
  | none => .tuple #[.int .u64 0, .bool false]
/-- What Put does: its answer, the places, how many are used. -/
def putR (L : List Slot) (k : Key) (n many : Int) : Int × List Slot × Int :=
  if k.right then match findI L k with
    | none => (230, L, many)
    | some i => (0, L.set (place L.length k i) ⟨true, k, n⟩, match L[place L.length k i]? with
      | some s => if s.used then many else many + 1
      | none => many)
  else (2, L, many)
end Go.Proofs.Ytobmcpoejhhemaa
