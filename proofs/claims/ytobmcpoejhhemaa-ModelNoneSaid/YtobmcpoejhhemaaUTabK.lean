import Derived.Test.YtobmcpoejhhemaaURefD
namespace Go.Proofs.Ytobmcpoejhhemaa
open Go.E

theorem E_flat_own {α : Type} {E : Enc α} {e : TypeId} {b cap : Nat} {cur : Array Value} {l l' : List α} (hlen : l'.length = l.length) (h1 : l.length ≤ cap) (h2 : cap ≤ maxLen) (h3 : cur.size = cap * E.n) (h : Holds E cur 0 l') : OwnL E e (some ⟨b, 0, none⟩) cap l' [(b, .cells cur e (0, 0))] :=
  ⟨E.flat_length _, .inr ⟨b, cap, cur, rfl, rfl, by omega, h2, h3, by unfold Holds at h; rwa [List.drop_zero] at h⟩⟩
end Go.Proofs.Ytobmcpoejhhemaa
