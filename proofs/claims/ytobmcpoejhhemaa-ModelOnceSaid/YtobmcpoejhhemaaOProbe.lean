import Derived.Test.YtobmcpoejhhemaaOTabD
namespace Go.Proofs.Ytobmcpoejhhemaa
open Go.E

/-- The way from a on to b, in a ring of n. -/
def dist (n a b : Nat) : Nat := if a ≤ b then b - a else b + n - a
theorem dist_lt {n a b : Nat} (ha : a < n) (hb : b < n) : dist n a b < n := by unfold dist; split <;> omega
theorem dist_inj {n a b c : Nat} (ha : a < n) (hb : b < n) (hc : c < n) (h : dist n a b = dist n a c) : b = c := by
  unfold dist at h; split at h <;> split at h <;> omega
theorem dist_self (n a : Nat) : dist n a a = 0 := by unfold dist; simp
theorem dist_add {n a m : Nat} (ha : a < n) (hm : m < n) : dist n a ((a + m) % n) = m := by
  by_cases h : a + m < n
  · rw [Nat.mod_eq_of_lt h]; unfold dist; rw [if_pos (by omega)]; omega
  · rw [Nat.mod_eq_sub_mod (by omega), Nat.mod_eq_of_lt (by omega)]; unfold dist; rw [if_neg (by omega)]; omega
theorem add_dist {n a b : Nat} (ha : a < n) (hb : b < n) : (a + dist n a b) % n = b := by
  unfold dist
  split
  · rw [show a + (b - a) = b by omega, Nat.mod_eq_of_lt hb]
  · rw [show a + (b + n - a) = b + n by omega, Nat.add_mod_right, Nat.mod_eq_of_lt hb]
/-- Between q and u on the ring, seen from j: what lies between lies on the way to u. -/
theorem between {n j h q i u : Nat} (hj : j < n) (hh : h < n) (hq : q < n) (hi : i < n) (hu : u < n) (h1 : dist n h q < dist n h u) (h2 : dist n j q ≤ dist n j i) (h3 : dist n j i < dist n j u) : dist n h i < dist n h u := by
  have e : ∀ a b : Nat, (a ≤ b ∧ dist n a b = b - a) ∨ (b < a ∧ dist n a b = b + n - a) := fun a b => by
    unfold dist
    split
    · exact .inl ⟨by omega, rfl⟩
    · exact .inr ⟨by omega, rfl⟩
  rcases e h q with ⟨a1, b1⟩ | ⟨a1, b1⟩ <;> rcases e h u with ⟨a2, b2⟩ | ⟨a2, b2⟩ <;> rcases e h i with ⟨a3, b3⟩ | ⟨a3, b3⟩ <;> rcases e j q with ⟨a4, b4⟩ | ⟨a4, b4⟩ <;> rcases e j i with ⟨a5, b5⟩ | ⟨a5, b5⟩ <;> rcases e j u with ⟨a6, b6⟩ | ⟨a6, b6⟩ <;> omega

/-- A number of places that divides all numbers. -/
structure Pow (n : Nat) : Prop where
  pos : 0 < n
  le : n ≤ 65536
  dvd : (n : Int) ∣ 18446744073709551616
theorem wrap64 (x : Int) : IntKind.u64.wrap x = x % 18446744073709551616 := by simp [IntKind.wrap, IntKind.bits, IntKind.signed]
theorem place_eq {n : Nat} (hn : Pow n) (k : Key) (i : Nat) : place n k i = (place n k 0 + i) % n := by
  have hp : (0 : Int) < n := by have := hn.pos; omega
  have e : ∀ x : Int, IntKind.u64.wrap x % n = x % n := fun x => by rw [wrap64, Int.emod_emod_of_dvd _ hn.dvd]
  have h0 : (place n k 0 : Int) = hashK k % n := by
    unfold place
    rw [e, Int.toNat_of_nonneg (Int.emod_nonneg _ (by omega))]
    simp
  have h1 : (place n k i : Int) = (hashK k + i) % n := by
    unfold place
    rw [e, Int.toNat_of_nonneg (Int.emod_nonneg _ (by omega))]
  have h2 : (place n k i : Int) = (((place n k 0 + i) % n : Nat) : Int) := by
    rw [h1, Int.natCast_emod, Int.natCast_add, h0, Int.emod_add_emod]
  exact_mod_cast h2

def home (n : Nat) (k : Key) : Nat := place n k 0
def sl (L : List Slot) (p : Nat) : Slot := (L[p]?).getD zeroS
theorem sl_set {L : List Slot} {i p : Nat} {s : Slot} (hi : i < L.length) : sl (L.set i s) p = if p = i then s else sl L p := by
  unfold sl
  rw [List.getElem?_set]
  by_cases h : i = p
  · subst h; simp [hi]
  · have : ¬ p = i := fun e => h e.symm
    simp [h, this]
theorem get_sl {L : List Slot} {p : Nat} (hp : p < L.length) : L[p]? = some (sl L p) := by
  unfold sl
  rw [List.getElem?_eq_getElem hp]
  rfl

section
variable {n : Nat} {L : List Slot} {k : Key}
/-- What find's answer tells. -/
theorem find_some (hn : Pow n) (hl : L.length = n) {m : Nat} (h : findI L k = some m) : m < n ∧ place n k m < n ∧ ((sl L (place n k m)).used = false ∨ (sl L (place n k m)).key = k) ∧ dist n (home n k) (place n k m) = m ∧
    ∀ r, r < n → dist n (home n k) r < m → (sl L r).used = true ∧ (sl L r).key ≠ k := by
  unfold findI at h
  rw [List.find?_range_eq_some] at h
  obtain ⟨h1, h2, h3⟩ := h
  have hm : m < n := by simpa [hl] using h2
  have hpm : place n k m < n := place_lt hn.pos k m
  have hh : home n k < n := place_lt hn.pos k 0
  have st : ∀ i, i < n → stop L k i = (!(sl L (place n k i)).used || decide ((sl L (place n k i)).key = k)) := fun i _ => by
    have hp := place_lt hn.pos k i
    exact stop_of (by rw [hl]; exact get_sl (by omega))
  have hd : dist n (home n k) (place n k m) = m := by rw [place_eq hn]; exact dist_add hh hm
  refine ⟨hm, hpm, ?_, hd, fun r hr hrm => ?_⟩
  · rw [st m hm] at h1
    simp only [Bool.or_eq_true, Bool.not_eq_true', decide_eq_true_eq] at h1
    exact h1
  · have h4 := h3 _ hrm
    rw [st _ (by omega)] at h4
    have hr' : place n k (dist n (home n k) r) = r := by rw [place_eq hn]; exact add_dist hh hr
    rw [hr'] at h4
    simpa using h4
theorem find_of (hn : Pow n) (hl : L.length = n) {p : Nat} (hp : p < n) (h1 : (sl L p).used = false ∨ (sl L p).key = k) (h2 : ∀ r, r < n → dist n (home n k) r < dist n (home n k) p → (sl L r).used = true ∧ (sl L r).key ≠ k) :
    findI L k = some (dist n (home n k) p) := by
  have hh : home n k < n := place_lt hn.pos k 0
  have st : ∀ i, i < n → stop L k i = (!(sl L (place n k i)).used || decide ((sl L (place n k i)).key = k)) := fun i _ => by
    have hp := place_lt hn.pos k i
    exact stop_of (by rw [hl]; exact get_sl (by omega))
  have hr' : place n k (dist n (home n k) p) = p := by rw [place_eq hn]; exact add_dist hh hp
  refine findI_some (by rw [hl]; exact dist_lt hh hp) (fun j hj => ?_) ?_
  · have hjn : j < n := Nat.lt_trans hj (dist_lt hh hp)
    have hdj : dist n (home n k) (place n k j) = j := by rw [place_eq hn]; exact dist_add hh hjn
    obtain ⟨h3, h4⟩ := h2 (place n k j) (place_lt hn.pos k j) (by rw [hdj]; exact hj)
    rw [st j hjn]
    simp [h3, h4]
  · rw [st _ (dist_lt hh hp), hr']
    rcases h1 with h1 | h1 <;> simp [h1]
theorem find_ex (hn : Pow n) (hl : L.length = n) {p : Nat} (hp : p < n) (hu : (sl L p).used = false) : ∃ m, findI L k = some m := by
  have hh : home n k < n := place_lt hn.pos k 0
  cases h : findI L k with
  | some m => exact ⟨m, rfl⟩
  | none =>
    exfalso
    unfold findI at h
    rw [List.find?_eq_none] at h
    have h1 := h (dist n (home n k) p) (by simpa [hl] using dist_lt hh hp)
    have hr' : place n k (dist n (home n k) p) = p := by rw [place_eq hn]; exact add_dist hh hp
    rw [stop_of (s := sl L p) (by rw [hl, hr']; exact get_sl (by omega))] at h1
    simp [hu] at h1
end

/-- On the way of the key k (from its home) to p lies r. -/
def way (n : Nat) (k : Key) (p r : Nat) : Prop := dist n (home n k) r < dist n (home n k) p
structure Inv (n : Nat) (rank : Key → Nat) (L : List Slot) : Prop where
  len : L.length = n
  path : ∀ p, p < n → (sl L p).used = true → ∀ r, r < n → way n (sl L p).key p r → (sl L r).used = true ∧ rank (sl L r).key < rank (sl L p).key
  inj : ∀ p q, p < n → q < n → (sl L p).used = true → (sl L q).used = true → (sl L p).key = (sl L q).key → p = q
structure Jnv (n : Nat) (rank : Key → Nat) (j s : Nat) (L : List Slot) : Prop where
  len : L.length = n
  inj : ∀ p q, p < n → q < n → (sl L p).used = true → (sl L q).used = true → (sl L p).key = (sl L q).key → p = q
  P : ∀ p, p < n → (sl L p).used = true → ∀ r, r < n → way n (sl L p).key p r → ((sl L r).used = true ∧ rank (sl L r).key < rank (sl L p).key) ∨ ((sl L r).used = false ∧ dist n j r ≤ s ∧ s < dist n j p)
  F : ∀ z, z < n → (sl L z).used = false → dist n j z ≤ s → ∀ u, u < n → (sl L u).used = true → s < dist n j u → way n (sl L u).key u z → ∀ p, p < n → (sl L p).used = true → dist n j p ≤ s → dist n j p < dist n j z → rank (sl L p).key < rank (sl L u).key
section
variable {n : Nat} {rank : Key → Nat} {L : List Slot} {j s : Nat}
theorem home_lt (hn : Pow n) (k : Key) : home n k < n := place_lt hn.pos k 0
theorem Jnv.start (hI : Inv n rank L) (hj : j < n) : Jnv n rank j 0 (L.set j zeroS) := by
  have hl := hI.len
  have hs : ∀ p, sl (L.set j zeroS) p = if p = j then zeroS else sl L p := fun p => sl_set (by omega)
  have hne : ∀ p, (sl (L.set j zeroS) p).used = true → p ≠ j ∧ (sl L p).used = true ∧ sl (L.set j zeroS) p = sl L p := fun p hp => by
    by_cases e : p = j
    · rw [hs, if_pos e] at hp; cases hp
    · rw [hs, if_neg e] at hp ⊢; exact ⟨e, hp, rfl⟩
  refine ⟨by simp [hl], ?_, ?_, ?_⟩
  · intro p q hp hq h1 h2 h3
    obtain ⟨_, a1, a2⟩ := hne p h1
    obtain ⟨_, b1, b2⟩ := hne q h2
    rw [a2, b2] at h3
    exact hI.inj p q hp hq a1 b1 h3
  · intro p hp h1 r hr hw
    obtain ⟨a0, a1, a2⟩ := hne p h1
    rw [a2] at hw ⊢
    by_cases e : r = j
    · right
      rw [hs, if_pos e]
      refine ⟨rfl, by rw [e, dist_self]; exact Nat.le_refl _, ?_⟩
      rcases Nat.eq_zero_or_pos (dist n j p) with h0 | h0
      · exact absurd (dist_inj hj hp hj (h0.trans (dist_self n j).symm)) a0
      · exact h0
    · left
      rw [hs, if_neg e]
      exact hI.path p hp a1 r hr hw
  · intro z hz h1 h2 u hu h3 h4 h5 p hp h6 h7 h8
    omega
theorem Jnv.free (hn : Pow n) (hJ : Jnv n rank j s L) (hj : j < n) {i : Nat} (hi : i < n) (ho : dist n j i = s + 1) (hf : (sl L i).used = false) : Inv n rank L := by
  refine ⟨hJ.len, fun p hp h1 r hr hw => ?_, hJ.inj⟩
  rcases hJ.P p hp h1 r hr hw with h | ⟨h2, h3, h4⟩
  · exact h
  · exfalso
    have hne : dist n j p ≠ s + 1 := fun e => by
      have := dist_inj hj hp hi (e.trans ho.symm)
      subst this
      rw [hf] at h1; cases h1
    have hb := between hj (home_lt hn _) hr hi hp hw (by omega) (by omega)
    rcases hJ.P p hp h1 i hi hb with ⟨h, _⟩ | ⟨_, h, _⟩
    · rw [hf] at h; cases h
    · omega
theorem Jnv.done (hJ : Jnv n rank j s L) (h : ∀ p, p < n → dist n j p ≤ s) : Inv n rank L := by
  refine ⟨hJ.len, fun p hp h1 r hr hw => ?_, hJ.inj⟩
  rcases hJ.P p hp h1 r hr hw with h2 | ⟨_, _, h4⟩
  · exact h2
  · have := h p hp; omega

/-- Where the place goes: what find tells of a key that was just taken out. -/
theorem step_find (hn : Pow n) (hJ : Jnv n rank j s L) (hj : j < n) {i m : Nat} (hi : i < n) (ho : dist n j i = s + 1) (hx : (sl L i).used = true) (hf : findI (L.set i zeroS) (sl L i).key = some m) :
    ∃ q, q = place n (sl L i).key m ∧ q < n ∧ (q = i ∨ ((sl L q).used = false ∧ way n (sl L i).key i q ∧ dist n j q ≤ s)) ∧ (∀ r, r < n → way n (sl L i).key q r → r ≠ i ∧ (sl L r).used = true) ∧ dist n (home n (sl L i).key) q ≤ dist n (home n (sl L i).key) i := by
  have hl := hJ.len
  have hs : ∀ p, sl (L.set i zeroS) p = if p = i then zeroS else sl L p := fun p => sl_set (by omega)
  obtain ⟨_, h1, h2, h3, h4⟩ := find_some hn (by simp [hl]) hf
  refine ⟨_, rfl, h1, ?_, ?_, ?_⟩
  · by_cases e : place n (sl L i).key m = i
    · exact .inl e
    · right
      rw [hs, if_neg e] at h2
      have hle : m ≤ dist n (home n (sl L i).key) i := by
        rcases Nat.lt_or_ge (dist n (home n (sl L i).key) i) m with h | h
        · have := (h4 i hi h).1
          rw [hs, if_pos rfl] at this; cases this
        · exact h
      have hlt : dist n (home n (sl L i).key) (place n (sl L i).key m) < dist n (home n (sl L i).key) i := by
        rcases Nat.lt_or_eq_of_le hle with h | h
        · rw [h3]; exact h
        · exact absurd (dist_inj (home_lt hn _) h1 hi (h3.trans h)) e
      have hu : (sl L (place n (sl L i).key m)).used = false := by
        rcases h2 with h2 | h2
        · exact h2
        · cases hc : (sl L (place n (sl L i).key m)).used with
          | false => rfl
          | true => exact absurd (hJ.inj _ _ h1 hi hc hx h2) e
      refine ⟨hu, hlt, ?_⟩
      rcases hJ.P i hi hx _ h1 hlt with ⟨h, _⟩ | ⟨_, h, _⟩
      · rw [hu] at h; cases h
      · exact h
  · intro r hr hw
    have h5 := h4 r hr (by rw [← h3]; exact hw)
    by_cases e : r = i
    · rw [hs, if_pos e] at h5; cases h5.1
    · rw [hs, if_neg e] at h5; exact ⟨e, h5.1⟩
  · rcases Nat.lt_or_ge (dist n (home n (sl L i).key) i) m with h | h
    · have := (h4 i hi h).1
      rw [hs, if_pos rfl] at this; cases this
    · rw [h3]; exact h

theorem Jnv.step (hn : Pow n) (hJ : Jnv n rank j s L) (hj : j < n) {i m : Nat} (hi : i < n) (ho : dist n j i = s + 1) (hx : (sl L i).used = true) (hf : findI (L.set i zeroS) (sl L i).key = some m) :
    Jnv n rank j (s + 1) ((L.set i zeroS).set (place n (sl L i).key m) (sl L i)) := by
  obtain ⟨q, rfl, hq, hqi, hway, _⟩ := step_find hn hJ hj hi ho hx hf
  have hl := hJ.len
  generalize hqe : place n (sl L i).key m = q at *
  have hs : ∀ p, sl ((L.set i zeroS).set q (sl L i)) p = if p = q then sl L i else if p = i then zeroS else sl L p := fun p => by
    rw [sl_set (by simp; omega), sl_set (by omega)]
  have hoi : ∀ p, p < n → p ≠ i → dist n j p ≠ s + 1 := fun p hp hne e => hne (dist_inj hj hp hi (e.trans ho.symm))
  rcases hqi with rfl | ⟨hqu, hqw, hqs⟩
  · -- it stays
    have hs2 : ∀ p, sl ((L.set q zeroS).set q (sl L q)) p = sl L p := fun p => by
      rw [hs]
      by_cases e : p = q
      · rw [if_pos e, e]
      · rw [if_neg e, if_neg e]
    refine ⟨by simp [hl], ?_, ?_, ?_⟩
    · intro p r hp hr; rw [hs2, hs2]; exact hJ.inj p r hp hr
    · intro p hp h1 r hr hw
      rw [hs2] at h1 hw ⊢
      rw [hs2]
      rcases hJ.P p hp h1 r hr hw with h | ⟨h2, h3, h4⟩
      · exact .inl h
      · right
        refine ⟨h2, by omega, ?_⟩
        by_cases e : p = q
        · subst e
          have := (hway r hr hw).2
          rw [h2] at this; cases this
        · have := hoi p hp e; omega
    · intro z hz h1 h2 u hu h3 h4 h5 p hp h6 h7 h8
      rw [hs2] at h1 h3 h5 h6 ⊢
      rw [hs2]
      have hzi : z ≠ q := fun e => by rw [e, hx] at h1; cases h1
      have h2' := hoi z hz hzi
      have hpi : p ≠ q := fun e => by rw [e] at h8; omega
      have h7' := hoi p hp hpi
      exact hJ.F z hz h1 (by omega) u hu h3 (by omega) h5 p hp h6 (by omega) h8
  · -- it moves
    have hqne : q ≠ i := fun e => by rw [e, hx] at hqu; cases hqu
    have used2 : ∀ p, (sl ((L.set i zeroS).set q (sl L i)) p).used = true → p = q ∨ (p ≠ q ∧ p ≠ i ∧ (sl L p).used = true ∧ sl ((L.set i zeroS).set q (sl L i)) p = sl L p) := fun p hp => by
      by_cases e : p = q
      · exact .inl e
      · by_cases e2 : p = i
        · rw [hs, if_neg e, if_pos e2] at hp; cases hp
        · rw [hs, if_neg e, if_neg e2] at hp ⊢; exact .inr ⟨e, e2, hp, rfl⟩
    have atq : sl ((L.set i zeroS).set q (sl L i)) q = sl L i := by rw [hs, if_pos rfl]
    have ati : (sl ((L.set i zeroS).set q (sl L i)) i).used = false := by rw [hs, if_neg (Ne.symm hqne), if_pos rfl]; rfl
    have other : ∀ r, r ≠ q → r ≠ i → sl ((L.set i zeroS).set q (sl L i)) r = sl L r := fun r h1 h2 => by rw [hs, if_neg h1, if_neg h2]
    have lower : ∀ p, p < n → p ≠ q → (sl L p).used = true → dist n j p ≤ s → rank (sl L p).key < rank (sl L i).key := fun p hp hpq hpu hps => by
      rcases Nat.lt_trichotomy (dist n j q) (dist n j p) with h | h | h
      · have hb := between hj (home_lt hn _) hq hp hi hqw (Nat.le_of_lt h) (by omega)
        rcases hJ.P i hi hx p hp hb with ⟨_, h⟩ | ⟨h, _⟩
        · exact h
        · rw [hpu] at h; cases h
      · exact absurd (dist_inj hj hq hp h).symm hpq
      · exact hJ.F q hq hqu hqs i hi hx (by omega) hqw p hp hpu hps h
    refine ⟨by simp [hl], ?_, ?_, ?_⟩
    · intro p r hp hr h1 h2 h3
      rcases used2 p h1 with rfl | ⟨_, a2, a3, a4⟩ <;> rcases used2 r h2 with rfl | ⟨_, b2, b3, b4⟩
      · rfl
      · rw [atq, b4] at h3; exact absurd (hJ.inj i r hi hr hx b3 h3).symm b2
      · rw [atq, a4] at h3; exact absurd (hJ.inj p i hp hi a3 hx h3) a2
      · rw [a4, b4] at h3; exact hJ.inj p r hp hr a3 b3 h3
    · intro p hp h1 r hr hw
      rcases used2 p h1 with rfl | ⟨a1, a2, a3, a4⟩
      · rw [atq] at hw ⊢
        obtain ⟨c1, c2⟩ := hway r hr hw
        have c3 : r ≠ p := fun e => by subst e; exact absurd hw (Nat.lt_irrefl _)
        left
        rw [other r c3 c1]
        refine ⟨c2, ?_⟩
        rcases hJ.P i hi hx r hr (Nat.lt_trans hw hqw) with ⟨_, h⟩ | ⟨h, _⟩
        · exact h
        · rw [c2] at h; cases h
      · rw [a4] at hw ⊢
        have hop := hoi p hp a2
        by_cases e1 : r = q
        · subst e1
          left
          rw [atq]
          refine ⟨hx, ?_⟩
          rcases hJ.P p hp a3 r hr hw with ⟨h, _⟩ | ⟨_, h3, h4⟩
          · rw [hqu] at h; cases h
          · have hb := between hj (home_lt hn _) hr hi hp hw (by omega) (by omega)
            rcases hJ.P p hp a3 i hi hb with ⟨_, h⟩ | ⟨h, _⟩
            · exact h
            · rw [hx] at h; cases h
        · by_cases e2 : r = i
          · subst e2
            right
            refine ⟨ati, by omega, ?_⟩
            rcases hJ.P p hp a3 r hr hw with ⟨_, h⟩ | ⟨h, _⟩
            · rcases Nat.lt_or_ge (s + 1) (dist n j p) with h5 | h5
              · exact h5
              · have := lower p hp a1 a3 (by omega); omega
            · rw [hx] at h; cases h
          · rw [other r e1 e2]
            rcases hJ.P p hp a3 r hr hw with h | ⟨h2, h3, h4⟩
            · exact .inl h
            · exact .inr ⟨h2, by omega, by omega⟩
    · intro z hz h1 h2 u hu h3 h4 h5 p hp h6 h7 h8
      have hzq : z ≠ q := fun e => by rw [e, atq, hx] at h1; cases h1
      have hu' : u ≠ q := fun e => by rw [e] at h4; omega
      rcases used2 u h3 with e | ⟨_, b2, b3, b4⟩
      · exact absurd e hu'
      rw [b4] at h5 ⊢
      have himp : ∀ (hw : way n (sl L u).key u i), rank (sl L i).key < rank (sl L u).key := fun hw => by
        rcases hJ.P u hu b3 i hi hw with ⟨_, h⟩ | ⟨h, _⟩
        · exact h
        · rw [hx] at h; cases h
      by_cases e : z = i
      · subst e
        have hr := himp h5
        rcases used2 p h6 with rfl | ⟨a1, a2, a3, a4⟩
        · rw [atq]; exact hr
        · rw [a4]
          have := lower p hp a1 a3 (by have := hoi p hp a2; omega)
          omega
      · rw [other z hzq e] at h1
        have hoz := hoi z hz e
        have hb := between hj (home_lt hn _) hz hi hu h5 (by omega) (by omega)
        rcases used2 p h6 with rfl | ⟨a1, a2, a3, a4⟩
        · rw [atq]; exact himp hb
        · rw [a4]
          have := hoi p hp a2
          exact hJ.F z hz h1 (by omega) u hu b3 (by omega) h5 p hp a3 (by omega) h8
end

/-- How many places are used. -/
def cnt (L : List Slot) : Nat := L.countP (·.used)
theorem cnt_set : ∀ (L : List Slot) (i : Nat) (a : Slot), i < L.length → cnt (L.set i a) + (if (sl L i).used then 1 else 0) = cnt L + (if a.used then 1 else 0)
  | [], i, _, h => by simp at h
  | x :: L, 0, a, _ => by
    simp only [cnt, List.set_cons_zero, List.countP_cons, sl, List.getElem?_cons_zero, Option.getD_some]
    by_cases hx : x.used = true <;> by_cases ha : a.used = true <;> simp [hx, ha]
  | x :: L, i + 1, a, h => by
    have ih := cnt_set L i a (by simpa using h)
    simp only [cnt, List.set_cons_succ, List.countP_cons, sl, List.getElem?_cons_succ] at ih ⊢
    by_cases hx : x.used = true <;> by_cases ha : a.used = true <;> by_cases hi : ((L[i]?).getD zeroS).used = true <;> simp only [hx, ha, hi, if_true, if_false] at ih ⊢ <;> omega
/-- Each one is in its place, or nearer to its home; and nothing is new. -/
structure Nearer (n : Nat) (L L' : List Slot) : Prop where
  to : ∀ p, p < n → (sl L p).used = true → ∃ p', p' < n ∧ sl L' p' = sl L p ∧ dist n (home n (sl L p).key) p' ≤ dist n (home n (sl L p).key) p
  back : ∀ p, p < n → (sl L' p).used = true → ∃ p', p' < n ∧ sl L p' = sl L' p
theorem Nearer.refl {n : Nat} {L : List Slot} : Nearer n L L := ⟨fun p hp _ => ⟨p, hp, rfl, Nat.le_refl _⟩, fun p hp _ => ⟨p, hp, rfl⟩⟩
theorem Nearer.trans {n : Nat} {L L' L'' : List Slot} (h : Nearer n L L') (h' : Nearer n L' L'') : Nearer n L L'' := by
  refine ⟨fun p hp hu => ?_, fun p hp hu => ?_⟩
  · obtain ⟨p1, a1, a2, a3⟩ := h.to p hp hu
    obtain ⟨p2, b1, b2, b3⟩ := h'.to p1 a1 (by rw [a2]; exact hu)
    rw [a2] at b2 b3
    exact ⟨p2, b1, b2, Nat.le_trans b3 a3⟩
  · obtain ⟨p1, a1, a2⟩ := h'.back p hp hu
    obtain ⟨p2, b1, b2⟩ := h.back p1 a1 (by rw [a2]; exact hu)
    exact ⟨p2, b1, b2.trans a2⟩
end Go.Proofs.Ytobmcpoejhhemaa
