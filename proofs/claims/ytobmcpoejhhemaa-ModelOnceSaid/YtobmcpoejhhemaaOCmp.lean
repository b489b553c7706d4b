import Derived.Test.YtobmcpoejhhemaaOBytes
import Derived.Test.YtobmcpoejhhemaaOEngH
import Derived.Lib.BytesEntry
import Derived.Laws.BytesString
import Derived.Sort.Statements
import Derived.Sort.Walk0
namespace Go.Proofs.Ytobmcpoejhhemaa
open Go.E

theorem cb_self : ∀ a : List UInt8, Lib.compareBytes a a = 0
  | [] => rfl
  | x :: a => by simp only [Lib.compareBytes, UInt8.lt_irrefl, if_false]; exact cb_self a
theorem cb_zero : ∀ a b : List UInt8, Lib.compareBytes a b = 0 → a = b
  | [], [], _ => rfl
  | [], _ :: _, h => by simp [Lib.compareBytes] at h
  | _ :: _, [], h => by simp [Lib.compareBytes] at h
  | x :: a, y :: b, h => by
    simp only [Lib.compareBytes] at h
    split at h
    · cases h
    · rename_i h1
      split at h
      · cases h
      · rename_i h2
        have hxy : x = y := UInt8.le_antisymm (UInt8.not_lt.1 h2) (UInt8.not_lt.1 h1)
        rw [hxy, cb_zero a b h]
theorem cb_flip : ∀ a b : List UInt8, Lib.compareBytes b a = - Lib.compareBytes a b
  | [], [] => rfl
  | [], _ :: _ => rfl
  | _ :: _, [] => rfl
  | x :: a, y :: b => by
    simp only [Lib.compareBytes]
    by_cases h1 : x < y
    · have h2 : ¬ y < x := UInt8.lt_asymm h1
      simp [h1, h2]
    · by_cases h2 : y < x
      · simp [h1, h2]
      · simp only [h1, h2, if_false]; exact cb_flip a b
theorem cb_trans : ∀ a b c : List UInt8, Lib.compareBytes a b < 0 → Lib.compareBytes b c < 0 → Lib.compareBytes a c < 0
  | [], [], _, h, _ => by simp [Lib.compareBytes] at h
  | [], _ :: _, [], _, h => by simp [Lib.compareBytes] at h
  | [], _ :: _, _ :: _, _, _ => by simp [Lib.compareBytes]
  | _ :: _, [], _, h, _ => by simp [Lib.compareBytes] at h
  | _ :: _, _ :: _, [], _, h => by simp [Lib.compareBytes] at h
  | x :: a, y :: b, z :: c, h1, h2 => by
    simp only [Lib.compareBytes] at h1 h2 ⊢
    have hx : x < y ∨ (x = y ∧ Lib.compareBytes a b < 0) := by
      split at h1
      · exact .inl ‹_›
      · split at h1
        · omega
        · exact .inr ⟨UInt8.le_antisymm (UInt8.not_lt.1 ‹_›) (UInt8.not_lt.1 ‹_›), h1⟩
    have hy : y < z ∨ (y = z ∧ Lib.compareBytes b c < 0) := by
      split at h2
      · exact .inl ‹_›
      · split at h2
        · omega
        · exact .inr ⟨UInt8.le_antisymm (UInt8.not_lt.1 ‹_›) (UInt8.not_lt.1 ‹_›), h2⟩
    rcases hx with hx | ⟨rfl, hx⟩ <;> rcases hy with hy | ⟨rfl, hy⟩
    · rw [if_pos (UInt8.lt_trans hx hy)]; decide
    · rw [if_pos hx]; decide
    · rw [if_pos hy]; decide
    · rw [if_neg (UInt8.lt_irrefl x), if_neg (UInt8.lt_irrefl x)]; exact cb_trans a b c hx hy
def kb (k : Key) : List UInt8 := Lib.bytesOf (keyBytes k)
def cmpK (a b : Key) : Int := Lib.compareBytes (kb a) (kb b)
theorem swo_cb {α : Type} (f : α → List UInt8) : Go.Sort.SWO (fun x y : α => decide (Lib.compareBytes (f x) (f y) < 0)) where
  irrefl x := by simp [cb_self]
  trans x y z h1 h2 := by
    simp only [decide_eq_true_eq] at *
    exact cb_trans _ _ _ h1 h2
  ntrans x y z h1 h2 := by
    simp only [decide_eq_false_iff_not, Int.not_lt] at *
    have f1 := cb_flip (f x) (f y)
    have f2 := cb_flip (f y) (f z)
    have f3 := cb_flip (f x) (f z)
    rcases Int.lt_or_le (Lib.compareBytes (f x) (f z)) 0 with h | h
    · exfalso
      rcases Int.lt_or_eq_of_le h1 with h1 | h1
      · have := cb_trans (f y) (f x) (f z) (by omega) h
        omega
      · have := cb_zero _ _ h1.symm
        rw [this] at h
        omega
    · exact h
end Go.Proofs.Ytobmcpoejhhemaa
