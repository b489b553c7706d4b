import Derived.Test.YtobmcpoejhhemaaOBytes
import Derived.Test.YtobmcpoejhhemaaOEngG
namespace Go.Proofs.Ytobmcpoejhhemaa
open Go.E

/-- The i-th place that is looked at. -/
def place (n : Nat) (k : Key) (i : Nat) : Nat := (IntKind.u64.wrap (hashK k + i) % n).toNat
theorem place_lt {n : Nat} (hn : 0 < n) (k : Key) (i : Nat) : place n k i < n := by
  unfold place
  have h1 := Int.emod_lt_of_pos (IntKind.u64.wrap (hashK k + i)) (show (0 : Int) < n by omega)
  have h2 := Int.emod_nonneg (IntKind.u64.wrap (hashK k + i)) (show (n : Int) ≠ 0 by omega)
  omega
/-- Is the search over at the i-th place? -/
def stop (L : List Slot) (k : Key) (i : Nat) : Bool := match L[place L.length k i]? with
  | some s => !s.used || decide (s.key = k)
  | none => false
theorem stop_of {L : List Slot} {k : Key} {i : Nat} {s : Slot} (h : L[place L.length k i]? = some s) : stop L k i = (!s.used || decide (s.key = k)) := by unfold stop; rw [h]

/-- What find answers. -/
def findI (L : List Slot) (k : Key) : Option Nat := (List.range L.length).find? (stop L k)
theorem findI_some {L : List Slot} {k : Key} {i : Nat} (hi : i < L.length) (h0 : ∀ j, j < i → stop L k j = false) (h1 : stop L k i = true) : findI L k = some i := by
  unfold findI
  rw [List.find?_range_eq_some]
  exact ⟨h1, by simpa using hi, fun j hj => by simp [h0 j hj]⟩
end Go.Proofs.Ytobmcpoejhhemaa
