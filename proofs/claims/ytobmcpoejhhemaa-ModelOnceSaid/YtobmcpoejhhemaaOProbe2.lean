import Derived.Test.YtobmcpoejhhemaaOProbe
namespace Go.Proofs.Ytobmcpoejhhemaa
open Go.E

section
variable {n : Nat} {rank : Key → Nat} {L : List Slot} {k : Key}
theorem find_there (hn : Pow n) (hI : Inv n rank L) {p : Nat} (hp : p < n) (hu : (sl L p).used = true) : findI L (sl L p).key = some (dist n (home n (sl L p).key) p) :=
  find_of hn hI.len hp (.inr rfl) fun r hr hw => by
    obtain ⟨h1, _⟩ := hI.path p hp hu r hr hw
    refine ⟨h1, fun e => ?_⟩
    have := hI.inj r p hr hp h1 hu e
    subst this
    exact absurd hw (Nat.lt_irrefl _)
theorem place_dist (hn : Pow n) {p : Nat} (hp : p < n) (k : Key) : place n k (dist n (home n k) p) = p := by
  rw [place_eq hn]; exact add_dist (home_lt hn k) hp
theorem has_there (hn : Pow n) (hI : Inv n rank L) {p : Nat} (hp : p < n) (hu : (sl L p).used = true) : hasI L (sl L p).key = some p := by
  unfold hasI
  rw [find_there hn hI hp hu]
  simp only [hI.len, place_dist hn hp, get_sl (show p < L.length by rw [hI.len]; exact hp), hu, if_true]
/-- A number is put to a key that is there. -/
theorem Inv.over (hn : Pow n) (hI : Inv n rank L) {p : Nat} (hp : p < n) (hu : (sl L p).used = true) (v : Int) : Inv n rank (L.set p ⟨true, (sl L p).key, v⟩) := by
  have hl := hI.len
  have hs : ∀ r, (sl (L.set p ⟨true, (sl L p).key, v⟩) r).used = (sl L r).used ∧ (sl (L.set p ⟨true, (sl L p).key, v⟩) r).key = (sl L r).key := fun r => by
    rw [sl_set (by omega)]
    by_cases e : r = p
    · rw [if_pos e, e]; exact ⟨hu.symm, rfl⟩
    · rw [if_neg e]; exact ⟨rfl, rfl⟩
  refine ⟨by simp [hl], fun a ha h1 r hr hw => ?_, fun a b ha hb h1 h2 h3 => ?_⟩
  · rw [(hs a).1] at h1
    rw [(hs a).2] at hw ⊢
    rw [(hs r).1, (hs r).2]
    exact hI.path a ha h1 r hr hw
  · rw [(hs a).1] at h1
    rw [(hs b).1] at h2
    rw [(hs a).2, (hs b).2] at h3
    exact hI.inj a b ha hb h1 h2 h3
theorem exists_bound (f : Nat → Nat) : ∀ m, ∃ b, ∀ i, i < m → f i < b
  | 0 => ⟨0, fun i hi => absurd hi (by omega)⟩
  | m + 1 => by
    obtain ⟨b, hb⟩ := exists_bound f m
    refine ⟨max b (f m + 1), fun i hi => ?_⟩
    by_cases e : i = m
    · subst e; omega
    · have := hb i (by omega); omega
/-- A new key is put. -/
theorem Inv.add (hn : Pow n) (hI : Inv n rank L) {m : Nat} (hf : findI L k = some m) (hk : ∀ p, p < n → (sl L p).used = true → (sl L p).key ≠ k) (v : Int) :
    (sl L (place n k m)).used = false ∧ ∃ rank', Inv n rank' (L.set (place n k m) ⟨true, k, v⟩) := by
  have hl := hI.len
  obtain ⟨_, hq, h2, h3, h4⟩ := find_some hn hl hf
  have hqu : (sl L (place n k m)).used = false := by
    rcases h2 with h2 | h2
    · exact h2
    · cases hc : (sl L (place n k m)).used with
      | false => rfl
      | true => exact absurd h2 (hk _ hq hc)
  refine ⟨hqu, ?_⟩
  obtain ⟨b, hb⟩ := exists_bound (fun p => rank (sl L p).key) n
  generalize hqe : place n k m = q at *
  have hs : ∀ r, sl (L.set q ⟨true, k, v⟩) r = if r = q then ⟨true, k, v⟩ else sl L r := fun r => sl_set (by omega)
  refine ⟨fun k' => if k' = k then b else rank k', by simp [hl], fun a ha h1 r hr hw => ?_, fun a c ha hc h1 h2 h3 => ?_⟩
  · by_cases e : a = q
    · subst e
      have ea := hs a
      rw [if_pos rfl] at ea
      rw [ea] at hw ⊢
      have hw' : dist n (home n k) r < m := by rw [← h3]; exact hw
      obtain ⟨h5, h6⟩ := h4 r hr hw'
      have hra : r ≠ a := fun e => by subst e; exact absurd hw (Nat.lt_irrefl _)
      rw [hs, if_neg hra]
      refine ⟨h5, ?_⟩
      simp only [if_true, if_neg h6]
      exact hb r hr
    · have ea := hs a
      rw [if_neg e] at ea
      rw [ea] at h1 hw ⊢
      obtain ⟨h5, h6⟩ := hI.path a ha h1 r hr hw
      have hrq : r ≠ q := fun e => by rw [e, hqu] at h5; cases h5
      rw [hs, if_neg hrq]
      refine ⟨h5, ?_⟩
      simp only [if_neg (hk a ha h1), if_neg (hk r hr h5)]
      exact h6
  · by_cases e : a = q <;> by_cases e2 : c = q
    · rw [e, e2]
    · rw [hs, if_neg e2] at h2
      rw [hs, hs, if_pos e, if_neg e2] at h3
      exact absurd h3.symm (hk c hc h2)
    · rw [hs, if_neg e] at h1
      rw [hs, hs, if_neg e, if_pos e2] at h3
      exact absurd h3 (hk a ha h1)
    · rw [hs, if_neg e] at h1
      rw [hs, if_neg e2] at h2
      rw [hs, hs, if_neg e, if_neg e2] at h3
      exact hI.inj a c ha hc h1 h2 h3
/-- No answer: no place is free. -/
theorem find_no (hn : Pow n) (hl : L.length = n) (hf : findI L k = none) : cnt L = n := by
  have h : ∀ p, p < n → (sl L p).used = true := fun p hp => by
    cases hc : (sl L p).used with
    | true => rfl
    | false =>
      obtain ⟨m, hm⟩ := find_ex (k := k) hn hl hp hc
      rw [hf] at hm; cases hm
  have hall : ∀ s ∈ L, s.used = true := fun s hs => by
    obtain ⟨p, hp, rfl⟩ := List.getElem_of_mem hs
    have := h p (by omega)
    unfold sl at this
    rw [List.getElem?_eq_getElem hp] at this
    exact this
  unfold cnt
  rw [List.countP_eq_length.2 hall, hl]
end
end Go.Proofs.Ytobmcpoejhhemaa
