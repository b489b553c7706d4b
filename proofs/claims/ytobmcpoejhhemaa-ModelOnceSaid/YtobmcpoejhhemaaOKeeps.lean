import Derived.Test.YtobmcpoejhhemaaOKeep
import Derived.Test.YtobmcpoejhhemaaOTabD
import Derived.Test.YtobmcpoejhhemaaOEngH
namespace Go.Proofs.Ytobmcpoejhhemaa
open Go.E

/-- Where the key was seen last, of the first j. -/
def AtI (ks : List Key) (k : Key) (j : Nat) (z : Int) : Prop := (z = -1 ∧ ∀ m, m < j → ks[m]? ≠ some k) ∨ ∃ m, m < j ∧ ks[m]? = some k ∧ z = (m : Int)
theorem AtI.no {ks : List Key} {k x : Key} {j : Nat} {z : Int} (ha : AtI ks k j z) (hk : ks[j]? = some x) (h : ¬ x = k) : AtI ks k (j + 1) z := by
  rcases ha with ⟨h1, h2⟩ | ⟨m, h1, h2, h3⟩
  · refine .inl ⟨h1, fun m hm => ?_⟩
    by_cases e : m = j
    · subst e; rw [hk]; exact fun e => h (Option.some.inj e)
    · exact h2 m (by omega)
  · exact .inr ⟨m, by omega, h2, h3⟩
theorem AtI.some_ {ks : List Key} {k : Key} {z : Int} (h : AtI ks k ks.length z) (h0 : 0 ≤ z) : ∃ zn : Nat, z = (zn : Int) ∧ ks[zn]? = some k := by
  rcases h with ⟨h1, _⟩ | ⟨m, _, h2, h3⟩
  · omega
  · exact ⟨m, h3, h2⟩
theorem AtI.none_ {ks : List Key} {k : Key} {z : Int} (h : AtI ks k ks.length z) (h0 : z < 0) : k ∉ ks := by
  rcases h with ⟨_, h2⟩ | ⟨m, _, h2, h3⟩
  · intro hk
    obtain ⟨q, hq, he⟩ := List.getElem_of_mem hk
    exact h2 q hq (by rw [List.getElem?_eq_getElem hq, he])
  · omega
def mayB (n : Nat) (ks : List Key) (k : Key) (z : Int) : Bool := k.right && (decide (0 ≤ z) || decide ((ks.length : Int) < (n : Int)))
/-- What a Put does to the lists. -/
def PutRel (n : Nat) (L : List Slot) (ks : List Key) (ns : List Int) (k : Key) (v z : Int) (L1 : List Slot) (many1 : Int) : Prop :=
  (mayB n ks k z = true ∧ 0 ≤ z ∧ Kp n L1 ks (ns.set z.toNat v) ∧ many1 = (ks.length : Int)) ∨ (mayB n ks k z = true ∧ z < 0 ∧ Kp n L1 (ks ++ [k]) (ns ++ [v]) ∧ many1 = ((ks ++ [k]).length : Int)) ∨ (mayB n ks k z = false ∧ L1 = L ∧ many1 = (ks.length : Int))
section
variable {n : Nat} {L : List Slot} {ks : List Key} {ns : List Int} {k : Key} {z : Int}
theorem Kp.put (hn : Pow n) (h : Kp n L ks ns) (hkw : k.Wf) (hz : AtI ks k ks.length z) (v : Int) :
    ((putR L k v ks.length).1 == 0) = mayB n ks k z ∧ PutRel n L ks ns k v z (putR L k v ks.length).2.1 (putR L k v ks.length).2.2 := by
  unfold PutRel
  cases hr : k.right with
  | false =>
    have hm : mayB n ks k z = false := by unfold mayB; rw [hr]; rfl
    rw [hm, putR_bad hr]
    exact ⟨rfl, .inr (.inr ⟨rfl, rfl, rfl⟩)⟩
  | true =>
    by_cases h0 : 0 ≤ z
    · obtain ⟨zn, rfl, hzk⟩ := hz.some_ h0
      have hm : mayB n ks k zn = true := by unfold mayB; rw [hr]; simp
      obtain ⟨L', he, hK⟩ := h.putOld hn hzk hr v ks.length
      rw [hm, he]
      exact ⟨rfl, .inl ⟨rfl, h0, hK, rfl⟩⟩
    · have hk := hz.none_ (by omega)
      by_cases hl : ks.length < n
      · have hm : mayB n ks k z = true := by unfold mayB; rw [hr, decide_eq_true (show (ks.length : Int) < n by omega)]; simp
        obtain ⟨L', he, hK⟩ := h.putNew hn hkw hk hl hr v ks.length
        rw [hm, he]
        exact ⟨rfl, .inr (.inl ⟨rfl, by omega, hK, by simp⟩)⟩
      · have hm : mayB n ks k z = false := by unfold mayB; rw [decide_eq_false h0, decide_eq_false (show ¬ (ks.length : Int) < n by omega)]; simp
        rw [hm, putR_full hn h hk hl hr]
        exact ⟨rfl, .inr (.inr ⟨rfl, rfl, rfl⟩)⟩
/-- What a Delete does to the lists. -/
def DelRel (n : Nat) (L : List Slot) (ks : List Key) (ns : List Int) (z : Int) (L1 : List Slot) (many1 : Int) : Prop :=
  (∃ zn : Nat, z = (zn : Int) ∧ zn < ks.length ∧ Kp n L1 (swapOut ks zn) (swapOut ns zn) ∧ many1 = ((swapOut ks zn).length : Int) ∧ ∀ (q : Nat) (k' : Key), q ≠ zn → ks[q]? = some k' → probesV L1 k' ≤ probesV L k') ∨ (z < 0 ∧ L1 = L ∧ many1 = (ks.length : Int))
end
theorem PutRel.l {n : Nat} {L : List Slot} {ks : List Key} {ns : List Int} {k : Key} {v z : Int} {L1 : List Slot} {many1 : Int} (h : PutRel n L ks ns k v z L1 many1) : True := trivial
theorem DelRel.len {n : Nat} {L : List Slot} {ks : List Key} {ns : List Int} {z : Int} {L1 : List Slot} {many1 : Int} (h : DelRel n L ks ns z L1 many1) (hK : Kp n L ks ns) : L1.length = n := by
  rcases h with ⟨_, _, _, h, _⟩ | ⟨_, h, _⟩
  · exact h.L_len
  · rw [h]; exact hK.L_len
theorem DelRel.some_ {n : Nat} {L : List Slot} {ks : List Key} {ns : List Int} {z : Int} {L1 : List Slot} {many1 : Int} (h : DelRel n L ks ns z L1 many1) (h0 : 0 ≤ z) : ∃ zn : Nat, z = (zn : Int) ∧ zn < ks.length ∧ Kp n L1 (swapOut ks zn) (swapOut ns zn) ∧ many1 = ((swapOut ks zn).length : Int) := by
  rcases h with ⟨zn, h1, h2, h3, h4, _⟩ | ⟨h, _⟩
  · exact ⟨zn, h1, h2, h3, h4⟩
  · omega
theorem DelRel.none_ {n : Nat} {L : List Slot} {ks : List Key} {ns : List Int} {z : Int} {L1 : List Slot} {many1 : Int} (h : DelRel n L ks ns z L1 many1) (hK : Kp n L ks ns) (h0 : ¬ 0 ≤ z) : Kp n L1 ks ns ∧ many1 = (ks.length : Int) := by
  rcases h with ⟨zn, h1, _⟩ | ⟨_, h1, h2⟩
  · omega
  · subst h1; exact ⟨hK, h2⟩
end Go.Proofs.Ytobmcpoejhhemaa
