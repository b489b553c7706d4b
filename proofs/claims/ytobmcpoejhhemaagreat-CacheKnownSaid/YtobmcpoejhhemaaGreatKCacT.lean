import Derived.Test.YtobmcpoejhhemaaGreatKCacO
namespace Go.Proofs.YtobmcpoejhhemaaGreat
open Go.E

section
variable {α : Type} {key : α → Key} {f : α → Int} {k : Key}
/-- The sum of a number over all that has the key. -/
def smk (key : α → Key) (f : α → Int) (l : List α) (k : Key) : Int := l.foldr (fun a n => (if key a = k then f a else 0) + n) 0
theorem smk_cons {a : α} {l : List α} : smk key f (a :: l) k = (if key a = k then f a else 0) + smk key f l k := rfl
theorem smk_nil : smk key f [] k = 0 := rfl
theorem smk_app {l l' : List α} : smk key f (l ++ l') k = smk key f l k + smk key f l' k := by
  induction l with
  | nil => rw [List.nil_append, smk_nil]; omega
  | cons a l ih => rw [List.cons_append, smk_cons, smk_cons, ih]; omega
theorem smk_perm {l l' : List α} (h : l.Perm l') : smk key f l k = smk key f l' k := by
  induction h with
  | nil => rfl
  | cons a _ ih => rw [smk_cons, smk_cons, ih]
  | swap a b l => simp only [smk_cons]; omega
  | trans _ _ h1 h2 => exact h1.trans h2
theorem smk_pos {l : List α} (h : ∀ a ∈ l, 0 ≤ f a) : 0 ≤ smk key f l k := by
  induction l with
  | nil => exact Int.le_refl 0
  | cons a l ih =>
    have h1 := h a (.head _)
    have h2 := ih fun x hx => h x (.tail _ hx)
    rw [smk_cons]
    split <;> omega
theorem smk_le {l : List α} (h : ∀ a ∈ l, 0 ≤ f a) {a : α} (ha : a ∈ l) (hk : key a = k) : f a ≤ smk key f l k := by
  obtain ⟨s, t, rfl⟩ := List.append_of_mem ha
  have h1 : 0 ≤ smk key f s k := smk_pos fun x hx => h x (List.mem_append_left _ hx)
  have h2 : 0 ≤ smk key f t k := smk_pos fun x hx => h x (List.mem_append_right _ (.tail _ hx))
  rw [smk_app, smk_cons, if_pos hk]
  omega
theorem smk_zero {l : List α} (h : ∀ a ∈ l, key a ≠ k) : smk key f l k = 0 := by
  induction l with
  | nil => rfl
  | cons a l ih => rw [smk_cons, if_neg (h a (.head _)), ih fun x hx => h x (.tail _ hx)]; rfl
theorem smk_one {l : List α} (h : (l.map key).Nodup) {a : α} (ha : a ∈ l) : smk key f l (key a) = f a := by
  obtain ⟨s, t, rfl⟩ := List.append_of_mem ha
  rw [List.map_append, List.map_cons, List.nodup_append] at h
  obtain ⟨_, h2, h3⟩ := h
  obtain ⟨h4, _⟩ := List.nodup_cons.1 h2
  rw [smk_app, smk_cons, if_pos rfl, smk_zero fun x hx => h3 _ (List.mem_map.2 ⟨x, hx, rfl⟩) _ (.head _), smk_zero fun x hx e => h4 (List.mem_map.2 ⟨x, hx, e⟩)]
  omega
theorem smk_map {l : List α} {g : α → α} (h1 : ∀ a ∈ l, key (g a) = key a) (h2 : ∀ a ∈ l, f (g a) = f a) : smk key f (l.map g) k = smk key f l k := by
  induction l with
  | nil => rfl
  | cons a l ih => rw [List.map_cons, smk_cons, smk_cons, h1 a (.head _), h2 a (.head _), ih (fun x hx => h1 x (.tail _ hx)) fun x hx => h2 x (.tail _ hx)]
theorem smk_part {l : List α} (p : α → Bool) : smk key f (l.filter p) k + smk key f (l.filter fun a => !p a) k = smk key f l k := by
  induction l with
  | nil => rfl
  | cons a l ih => cases h : p a <;> simp only [List.filter_cons, h, Bool.not_true, Bool.not_false, if_true, Bool.false_eq_true, if_false, smk_cons] <;> omega
end
/-- A number of a total that adds up. -/
structure Lin (g : Tot → Int) : Prop where
  add : ∀ a b c d : Int, g ⟨a + c, b + d⟩ = g ⟨a, b⟩ + g ⟨c, d⟩
theorem lin_p : Lin Tot.packets := ⟨fun _ _ _ _ => rfl⟩
theorem lin_b : Lin Tot.bytes := ⟨fun _ _ _ _ => rfl⟩
theorem Lin.zero {g : Tot → Int} (h : Lin g) : g ⟨0, 0⟩ = 0 := by have := h.add 0 0 0 0; simp only [Int.add_zero] at this; omega
def Rec.tot (r : Rec) : Tot := ⟨r.packets, r.bytes⟩
/-- The sums of a key: of the list of sums; of records. -/
def sS (g : Tot → Int) (S : List Sum24) (k : Key) : Int := smk Sum24.key (fun s => g s.total) S k
def sR (g : Tot → Int) (l : List Rec) (k : Key) : Int := smk Rec.key (fun r => g r.tot) l k
def tadd (t u : Tot) : Tot := ⟨t.packets + u.packets, t.bytes + u.bytes⟩
def addS : List Sum24 → Key → Tot → List Sum24
  | [], k, t => [⟨k, t⟩]
  | s :: S, k, t => if s.key = k then { s with total := tadd s.total t } :: S else s :: addS S k t
theorem addS_sum {g : Tot → Int} (hg : Lin g) (S : List Sum24) (k : Key) (t : Tot) (q : Key) : sS g (addS S k t) q = sS g S q + if k = q then g t else 0 := by
  unfold sS
  induction S with
  | nil =>
    show (if k = q then g t else 0) + 0 = 0 + _
    omega
  | cons s S ih =>
    unfold addS
    by_cases h : s.key = k
    · rw [if_pos h, smk_cons, smk_cons]
      dsimp only
      rw [h, show g (tadd s.total t) = g s.total + g t from hg.add _ _ _ _]
      split <;> omega
    · rw [if_neg h, smk_cons, smk_cons, ih]
      omega
theorem addS_keys (S : List Sum24) (k : Key) (t : Tot) : (addS S k t).map (·.key) = if k ∈ S.map (·.key) then S.map (·.key) else S.map (·.key) ++ [k] := by
  induction S with
  | nil => rfl
  | cons s S ih =>
    unfold addS
    by_cases h : s.key = k
    · rw [if_pos h, if_pos (by rw [List.map_cons, h]; exact .head _)]; rfl
    · rw [if_neg h, List.map_cons, ih]
      by_cases h2 : k ∈ S.map (·.key)
      · rw [if_pos h2, if_pos (by rw [List.map_cons]; exact .tail _ h2)]; rfl
      · rw [if_neg h2, if_neg (by rw [List.map_cons, List.mem_cons, not_or]; exact ⟨Ne.symm h, h2⟩)]; rfl
theorem addS_nodup {S : List Sum24} (h : (S.map (·.key)).Nodup) (k : Key) (t : Tot) : ((addS S k t).map (·.key)).Nodup := by
  rw [addS_keys]
  split
  · exact h
  · rename_i h2
    rw [List.nodup_append]
    exact ⟨h, by simp, fun a ha b hb e => h2 (by rw [List.mem_singleton] at hb; rw [← hb, ← e]; exact ha)⟩
theorem addS_len (S : List Sum24) (k : Key) (t : Tot) : (addS S k t).length ≤ S.length + 1 := by
  have := congrArg List.length (addS_keys S k t)
  rw [List.length_map] at this
  rw [this]
  split <;> simp
theorem addS_mem {S : List Sum24} {k : Key} {t : Tot} {s : Sum24} (h : s ∈ addS S k t) : s ∈ S ∨ (s.key = k ∧ (s.total = t ∨ ∃ u ∈ S, u.key = k ∧ s.total = tadd u.total t)) := by
  induction S with
  | nil => right; rw [show addS [] k t = [⟨k, t⟩] from rfl, List.mem_singleton] at h; subst h; exact ⟨rfl, .inl rfl⟩
  | cons u S ih =>
    unfold addS at h
    by_cases hu : u.key = k
    · rw [if_pos hu] at h
      rcases List.mem_cons.1 h with h | h
      · right; subst h; exact ⟨hu, .inr ⟨u, .head _, hu, rfl⟩⟩
      · exact .inl (.tail _ h)
    · rw [if_neg hu] at h
      rcases List.mem_cons.1 h with h | h
      · subst h; exact .inl (.head _)
      · rcases ih h with h | ⟨h1, h | ⟨v, hv, h2, h3⟩⟩
        · exact .inl (.tail _ h)
        · exact .inr ⟨h1, .inl h⟩
        · exact .inr ⟨h1, .inr ⟨v, .tail _ hv, h2, h3⟩⟩
theorem addS_at {S : List Sum24} {k : Key} {t : Tot} {i : Nat} {s : Sum24} (hs : S[i]? = some s) (hk : s.key = k) (hno : ∀ j u, j < i → S[j]? = some u → u.key ≠ k) : addS S k t = S.set i { s with total := tadd s.total t } := by
  induction S generalizing i with
  | nil => cases hs
  | cons u S ih =>
    unfold addS
    cases i with
    | zero => cases hs; rw [if_pos hk]; rfl
    | succ i => rw [if_neg (hno 0 u (by omega) rfl), ih (i := i) hs fun j v hj hv => hno (j + 1) v (by omega) hv]; rfl
theorem addS_new {S : List Sum24} {k : Key} {t : Tot} (hno : ∀ j u, j < S.length → S[j]? = some u → u.key ≠ k) : addS S k t = S ++ [⟨k, t⟩] := by
  induction S with
  | nil => rfl
  | cons u S ih =>
    unfold addS
    rw [if_neg (hno 0 u (by simp) rfl), ih fun j v hj hv => hno (j + 1) v (by simp; omega) hv]
    rfl
/-- Records are added to sums. -/
def addRs (S : List Sum24) (l : List Rec) : List Sum24 := l.foldl (fun S r => addS S r.key r.tot) S
theorem addRs_succ {S : List Sum24} {l : List Rec} {i : Nat} {r : Rec} (h : l[i]? = some r) : addRs S (l.take (i + 1)) = addS (addRs S (l.take i)) r.key r.tot := by
  unfold addRs
  rw [List.take_add_one, h, List.foldl_append]
  rfl
theorem addRs_sum {g : Tot → Int} (hg : Lin g) (l : List Rec) : ∀ (S : List Sum24) (k : Key), sS g (addRs S l) k = sS g S k + sR g l k := by
  induction l with
  | nil => intro S k; show sS g S k = sS g S k + smk _ _ [] k; rw [smk_nil]; omega
  | cons r l ih =>
    intro S k
    show sS g (addRs (addS S r.key r.tot) l) k = sS g S k + smk _ _ (r :: l) k
    rw [ih, addS_sum hg, smk_cons]
    show _ + sR g l k = _ + (_ + sR g l k)
    omega
theorem addRs_nodup (l : List Rec) : ∀ {S : List Sum24}, (S.map (·.key)).Nodup → ((addRs S l).map (·.key)).Nodup := by
  induction l with
  | nil => exact fun h => h
  | cons r l ih => exact fun h => ih (addS_nodup h r.key r.tot)
theorem addRs_len (l : List Rec) : ∀ (S : List Sum24), (addRs S l).length ≤ S.length + l.length := by
  induction l with
  | nil => exact fun S => Nat.le_refl _
  | cons r l ih =>
    intro S
    have h1 := ih (addS S r.key r.tot)
    have h2 := addS_len S r.key r.tot
    show (addRs (addS S r.key r.tot) l).length ≤ S.length + (l.length + 1)
    omega
end Go.Proofs.YtobmcpoejhhemaaGreat
