import Derived.Test.YtobmcpoejhhemaaOProbe2
namespace Go.Proofs.Ytobmcpoejhhemaa
open Go.E

/-- What is held of a table: its keys and their numbers. -/
structure Kp (n : Nat) (L : List Slot) (ks : List Key) (ns : List Int) : Prop where
  inv : ∃ rank, Inv n rank L
  wf : AllWf L
  kwf : ∀ k ∈ ks, k.Wf
  len : ns.length = ks.length
  used : cnt L = ks.length
  inj : ∀ (i j : Nat) (k : Key), ks[i]? = some k → ks[j]? = some k → i = j
  to : ∀ (i : Nat) (k : Key) (v : Int), ks[i]? = some k → ns[i]? = some v → ∃ p, p < n ∧ sl L p = ⟨true, k, v⟩
  back : ∀ p, p < n → (sl L p).used = true → (sl L p).key ∈ ks

theorem Kp.L_len {n : Nat} {L : List Slot} {ks : List Key} {ns : List Int} (h : Kp n L ks ns) : L.length = n := by
  obtain ⟨_, hI⟩ := h.inv
  exact hI.len
theorem sl_rep (n p : Nat) : sl (List.replicate n zeroS) p = zeroS := by
  unfold sl
  rw [List.getElem?_replicate]
  split <;> rfl
theorem Kp.new (n : Nat) : Kp n (List.replicate n zeroS) [] [] := by
  have hu : ∀ p, (sl (List.replicate n zeroS) p).used = false := fun p => by rw [sl_rep]; rfl
  refine ⟨⟨fun _ => 0, by simp, ?_, ?_⟩, ?_, by simp, rfl, ?_, by simp, by simp, ?_⟩
  · intro p _ h; rw [hu] at h; cases h
  · intro p q _ _ h; rw [hu] at h; cases h
  · intro s hs
    obtain ⟨_, rfl⟩ := List.mem_replicate.1 hs
    exact zeroS_wf
  · unfold cnt
    rw [List.countP_replicate]
    simp [zeroS]
  · intro p _ h; rw [hu] at h; cases h

section
variable {n : Nat} {L : List Slot} {ks : List Key} {ns : List Int} {k : Key}
/-- Where a key of the list stands. -/
theorem Kp.at_ (h : Kp n L ks ns) {i : Nat} (hi : ks[i]? = some k) : ∃ p v, p < n ∧ ns[i]? = some v ∧ sl L p = ⟨true, k, v⟩ := by
  have hl := (List.getElem?_eq_some_iff.1 hi).1
  have hn : ns[i]? = some (ns[i]'(by rw [h.len]; exact hl)) := List.getElem?_eq_getElem _
  obtain ⟨p, hp, hs⟩ := h.to i k _ hi hn
  exact ⟨p, _, hp, hn, hs⟩
theorem Kp.absent (h : Kp n L ks ns) (hk : k ∉ ks) : ∀ p, p < n → (sl L p).used = true → (sl L p).key ≠ k := fun p hp hu e => hk (e ▸ h.back p hp hu)
/-- What find tells of a key of the list. -/
theorem Kp.find (hn : Pow n) (h : Kp n L ks ns) {i : Nat} (hi : ks[i]? = some k) : ∃ p v, p < n ∧ ns[i]? = some v ∧ sl L p = ⟨true, k, v⟩ ∧ findI L k = some (dist n (home n k) p) ∧ place n k (dist n (home n k) p) = p ∧ hasI L k = some p := by
  obtain ⟨rank, hI⟩ := h.inv
  obtain ⟨p, v, hp, hv, hs⟩ := h.at_ hi
  have h1 := find_there hn hI hp (by rw [hs])
  have h2 := has_there hn hI hp (by rw [hs])
  rw [hs] at h1 h2
  exact ⟨p, v, hp, hv, hs, h1, place_dist hn hp k, h2⟩
theorem Kp.get (hn : Pow n) (h : Kp n L ks ns) {i : Nat} {v : Int} (hi : ks[i]? = some k) (hv : ns[i]? = some v) : getV L k = .tuple #[.int .u64 v, .bool true] := by
  obtain ⟨p, v', hp, hv', hs, _, _, h2⟩ := h.find hn hi
  rw [hv] at hv'; cases hv'
  unfold getV
  rw [h2]
  dsimp only
  rw [get_sl (by rw [h.L_len]; exact hp), hs]
/-- Not full: find answers. -/
theorem Kp.findFree (hn : Pow n) (h : Kp n L ks ns) (hk : k ∉ ks) (hl : ks.length < n) : ∃ m, findI L k = some m := by
  cases hf : findI L k with
  | some m => exact ⟨m, rfl⟩
  | none =>
    have := find_no hn h.L_len hf
    rw [h.used] at this
    omega
theorem cnt_full : ∀ (L : List Slot), cnt L = L.length → ∀ s ∈ L, s.used = true := fun L h => by
  unfold cnt at h
  exact List.countP_eq_length.1 h
theorem Kp.findFull (hn : Pow n) (h : Kp n L ks ns) (hk : k ∉ ks) (hl : ¬ ks.length < n) : findI L k = none := by
  have hln := h.L_len
  have hle : cnt L ≤ L.length := by unfold cnt; exact List.countP_le_length
  have hall := cnt_full L (by have := h.used; omega)
  cases hf : findI L k with
  | none => rfl
  | some m =>
    exfalso
    obtain ⟨_, hq, h2, _, _⟩ := find_some hn hln hf
    have hu : (sl L (place n k m)).used = true := hall _ (by unfold sl; rw [List.getElem?_eq_getElem (by omega)]; exact List.getElem_mem _)
    rcases h2 with h2 | h2
    · rw [hu] at h2; cases h2
    · exact h.absent hk _ hq hu h2
theorem Kp.le (h : Kp n L ks ns) : ks.length ≤ n := by
  have hle : cnt L ≤ L.length := by unfold cnt; exact List.countP_le_length
  have := h.used; have := h.L_len; omega

/-- A number is put to a key that is there. -/
theorem Kp.putOld (hn : Pow n) (h : Kp n L ks ns) {i : Nat} (hi : ks[i]? = some k) (hr : k.right = true) (v : Int) (many : Int) :
    ∃ L', putR L k v many = (0, L', many) ∧ Kp n L' ks (ns.set i v) := by
  obtain ⟨p, v0, hp, hv0, hs, hf, hpl, _⟩ := h.find hn hi
  have hln := h.L_len
  have hkw : k.Wf := h.kwf k (List.mem_of_getElem? hi)
  refine ⟨L.set p ⟨true, k, v⟩, ?_, ?_⟩
  · unfold putR
    rw [if_pos hr, hf]
    dsimp only
    rw [hln, hpl, get_sl (by rw [hln]; exact hp), hs]
    rfl
  · have hsl : ∀ r, sl (L.set p ⟨true, k, v⟩) r = if r = p then ⟨true, k, v⟩ else sl L r := fun r => sl_set (by omega)
    obtain ⟨rank, hI⟩ := h.inv
    refine ⟨⟨rank, ?_⟩, h.wf.set hkw p, h.kwf, by simp [h.len], ?_, h.inj, ?_, ?_⟩
    · have := hI.over hn hp (by rw [hs]) v
      rw [hs] at this
      exact this
    · have := cnt_set L p ⟨true, k, v⟩ (by omega)
      rw [hs] at this
      simp only [if_true] at this
      have := h.used
      omega
    · intro j k' v' hj hv'
      by_cases e : j = i
      · subst e
        rw [hi] at hj; cases hj
        rw [List.getElem?_set_self (List.getElem?_eq_some_iff.1 hv0).1] at hv'
        cases hv'
        exact ⟨p, hp, by rw [hsl, if_pos rfl]⟩
      · rw [List.getElem?_set_ne (Ne.symm e)] at hv'
        obtain ⟨q, hq, hqs⟩ := h.to j k' v' hj hv'
        have hqp : q ≠ p := fun e2 => by
          subst e2
          rw [hs] at hqs
          cases hqs
          exact e (h.inj _ _ _ hj hi)
        exact ⟨q, hq, by rw [hsl, if_neg hqp]; exact hqs⟩
    · intro q hq hu
      by_cases e : q = p
      · rw [hsl, if_pos e]; exact List.mem_of_getElem? hi
      · rw [hsl, if_neg e] at hu ⊢
        exact h.back q hq hu
/-- A new key is put. -/
theorem Kp.putNew (hn : Pow n) (h : Kp n L ks ns) (hkw : k.Wf) (hk : k ∉ ks) (hl : ks.length < n) (hr : k.right = true) (v : Int) (many : Int) :
    ∃ L', putR L k v many = (0, L', many + 1) ∧ Kp n L' (ks ++ [k]) (ns ++ [v]) := by
  obtain ⟨rank, hI⟩ := h.inv
  have hln := h.L_len
  obtain ⟨m, hm⟩ := h.findFree hn hk hl
  obtain ⟨_, hq, _, _, _⟩ := find_some hn hln hm
  obtain ⟨hqu, rank', hI'⟩ := hI.add hn hm (h.absent hk) v
  generalize hqe : place n k m = q at *
  have hsl : ∀ r, sl (L.set q ⟨true, k, v⟩) r = if r = q then ⟨true, k, v⟩ else sl L r := fun r => sl_set (by omega)
  refine ⟨L.set q ⟨true, k, v⟩, ?_, ?_⟩
  · unfold putR
    rw [if_pos hr, hm]
    dsimp only
    rw [hln, hqe, get_sl (by rw [hln]; exact hq)]
    dsimp only
    rw [hqu]
    rfl
  · refine ⟨⟨rank', hI'⟩, h.wf.set hkw q, ?_, by simp [h.len], ?_, ?_, ?_, ?_⟩
    · intro k' hk'
      rcases List.mem_append.1 hk' with h1 | h1
      · exact h.kwf k' h1
      · rw [List.mem_singleton.1 h1]; exact hkw
    · have := cnt_set L q ⟨true, k, v⟩ (by omega)
      rw [hqu] at this
      simp only [if_true, Bool.false_eq_true, if_false] at this
      have := h.used
      simp
      omega
    · intro i j k' h1 h2
      rw [List.getElem?_append] at h1 h2
      by_cases a : i < ks.length <;> by_cases b : j < ks.length
      · rw [if_pos a] at h1; rw [if_pos b] at h2; exact h.inj _ _ _ h1 h2
      · rw [if_pos a] at h1; rw [if_neg b] at h2
        have : k' = k := by
          have := List.mem_of_getElem? h2
          simpa using this
        subst this
        exact absurd (List.mem_of_getElem? h1) hk
      · rw [if_neg a] at h1; rw [if_pos b] at h2
        have : k' = k := by
          have := List.mem_of_getElem? h1
          simpa using this
        subst this
        exact absurd (List.mem_of_getElem? h2) hk
      · rw [if_neg a] at h1; rw [if_neg b] at h2
        have := (List.getElem?_eq_some_iff.1 h1).1
        have := (List.getElem?_eq_some_iff.1 h2).1
        simp at *
        omega
    · intro i k' v' h1 h2
      rw [List.getElem?_append] at h1 h2
      rw [h.len] at h2
      by_cases a : i < ks.length
      · rw [if_pos a] at h1 h2
        obtain ⟨r, hr', hrs⟩ := h.to i k' v' h1 h2
        have hrq : r ≠ q := fun e => by rw [e] at hrs; rw [hrs] at hqu; cases hqu
        exact ⟨r, hr', by rw [hsl, if_neg hrq]; exact hrs⟩
      · rw [if_neg a] at h1 h2
        have e1 : k' = k := by
          have := List.mem_of_getElem? h1
          simpa using this
        have e2 : v' = v := by
          have := List.mem_of_getElem? h2
          simpa using this
        subst e1; subst e2
        exact ⟨q, hq, by rw [hsl, if_pos rfl]⟩
    · intro r hr' hu
      by_cases e : r = q
      · rw [hsl, if_pos e]; simp
      · rw [hsl, if_neg e] at hu ⊢
        exact List.mem_append_left _ (h.back r hr' hu)
theorem putR_full (hn : Pow n) (h : Kp n L ks ns) (hk : k ∉ ks) (hl : ¬ ks.length < n) (hr : k.right = true) (v many : Int) : putR L k v many = (230, L, many) := by
  unfold putR
  rw [if_pos hr, h.findFull hn hk hl]
theorem putR_bad (hr : k.right = false) (v many : Int) : putR L k v many = (2, L, many) := by
  unfold putR
  rw [if_neg (by rw [hr]; decide)]

/-- One of a list is taken away: the last one takes its place. -/
def swapOut {α : Type} (l : List α) (i : Nat) : List α := match l[l.length - 1]? with
  | some x => (l.set i x).take (l.length - 1)
  | none => l
def probesV (L : List Slot) (k : Key) : Int := match findI L k with | some i => ((i + 1 : Nat) : Int) | none => L.length
end
end Go.Proofs.Ytobmcpoejhhemaa
