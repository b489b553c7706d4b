import Derived.Test.YtobmcpoejhhemaaOKeys
import Derived.Test.YtobmcpoejhhemaaOEngT
import Derived.Test.YtobmcpoejhhemaaORd
import Derived.Shelf.SlMaps.Clone
namespace Go.Proofs.Ytobmcpoejhhemaa
open Go.E

/-- An entry of a map of totals. -/
structure MEnt where
  key : Key
  tot : Tot
  born : Nat
def MEnt.e (x : MEnt) : MapEntry := ⟨.agg x.key.c, .agg x.tot.c, x.born⟩
/-- A map's block. -/
def mapO (b : Nat) (l : List MEnt) (clock : Nat) : Nat × Obj := (b, .map (l.map MEnt.e).toArray clock)
def getM : List MEnt → Key → Tot
  | [], _ => ⟨0, 0⟩
  | x :: l, k => if k = x.key then x.tot else getM l k
def putM : List MEnt → Nat → Key → Tot → List MEnt
  | [], c, k, t => [⟨k, t, c⟩]
  | x :: l, c, k, t => if k = x.key then { x with tot := t } :: l else x :: putM l c k t
def hasM (l : List MEnt) (k : Key) : Bool := l.any fun x => decide (k = x.key)
def clkM (l : List MEnt) (c : Nat) (k : Key) : Nat := if hasM l k = true then c else c + 1
/-- What holds of a map of totals. -/
structure MOk (l : List MEnt) (c : Nat) : Prop where
  kw : ∀ x ∈ l, x.key.Wf
  tw : ∀ x ∈ l, x.tot.Wf
  lt : ∀ x ∈ l, x.born < c
  nd : (l.map (·.born)).Nodup
theorem MOk.nil (c : Nat) : MOk [] c := ⟨fun _ h => absurd h List.not_mem_nil, fun _ h => absurd h List.not_mem_nil, fun _ h => absurd h List.not_mem_nil, List.nodup_nil⟩
theorem tot0_wf : (⟨0, 0⟩ : Tot).Wf := ⟨⟨by decide, by decide⟩, ⟨by decide, by decide⟩⟩
theorem MOk.get {l : List MEnt} {c : Nat} (h : MOk l c) (k : Key) : (getM l k).Wf := by
  have : ∀ l : List MEnt, (∀ x ∈ l, x.tot.Wf) → (getM l k).Wf := by
    intro l
    induction l with
    | nil => exact fun _ => tot0_wf
    | cons x l ih =>
      intro h
      unfold getM
      split
      · exact h x (.head _)
      · exact ih fun y hy => h y (.tail _ hy)
  exact this l h.tw
theorem putM_mem {l : List MEnt} {c : Nat} {k : Key} {t : Tot} {y : MEnt} (h : y ∈ putM l c k t) : y ∈ l ∨ (y.tot = t ∧ ((∃ x ∈ l, y.key = x.key ∧ y.born = x.born) ∨ (y.key = k ∧ y.born = c ∧ hasM l k = false))) := by
  induction l with
  | nil =>
    rw [show putM [] c k t = [⟨k, t, c⟩] from rfl, List.mem_singleton] at h
    subst h
    exact .inr ⟨rfl, .inr ⟨rfl, rfl, rfl⟩⟩
  | cons x l ih =>
    unfold putM at h
    by_cases hk : k = x.key
    · rw [if_pos hk] at h
      rcases List.mem_cons.1 h with rfl | h
      · exact .inr ⟨rfl, .inl ⟨x, .head _, rfl, rfl⟩⟩
      · exact .inl (.tail _ h)
    · rw [if_neg hk] at h
      rcases List.mem_cons.1 h with rfl | h
      · exact .inl (.head _)
      · rcases ih h with h | ⟨h1, ⟨z, hz, h2⟩ | ⟨h2, h3, h4⟩⟩
        · exact .inl (.tail _ h)
        · exact .inr ⟨h1, .inl ⟨z, .tail _ hz, h2⟩⟩
        · refine .inr ⟨h1, .inr ⟨h2, h3, ?_⟩⟩
          unfold hasM at h4 ⊢
          rw [List.any_cons, h4, decide_eq_false hk]
          rfl
theorem putM_born (l : List MEnt) (c : Nat) (k : Key) (t : Tot) : (putM l c k t).map (·.born) = if hasM l k = true then l.map (·.born) else l.map (·.born) ++ [c] := by
  induction l with
  | nil => rfl
  | cons x l ih =>
    unfold putM hasM
    by_cases hk : k = x.key
    · rw [if_pos hk, List.any_cons, decide_eq_true hk, Bool.true_or, if_pos rfl]
      rfl
    · rw [if_neg hk, List.any_cons, decide_eq_false hk, Bool.false_or, List.map_cons, ih]
      unfold hasM
      split <;> rfl
theorem clkM_ge {l : List MEnt} {c : Nat} {k : Key} : c ≤ clkM l c k := by unfold clkM; split <;> omega
theorem MOk.put {l : List MEnt} {c : Nat} (h : MOk l c) {k : Key} (hk : k.Wf) {t : Tot} (ht : t.Wf) : MOk (putM l c k t) (clkM l c k) := by
  refine ⟨fun y hy => ?_, fun y hy => ?_, fun y hy => ?_, ?_⟩
  · rcases putM_mem hy with h1 | ⟨_, ⟨x, hx, h2, _⟩ | ⟨h2, _⟩⟩
    · exact h.kw y h1
    · rw [h2]; exact h.kw x hx
    · rw [h2]; exact hk
  · rcases putM_mem hy with h1 | ⟨h1, _⟩
    · exact h.tw y h1
    · rw [h1]; exact ht
  · rcases putM_mem hy with h1 | ⟨_, ⟨x, hx, _, h2⟩ | ⟨_, h2, h3⟩⟩
    · exact Nat.lt_of_lt_of_le (h.lt y h1) clkM_ge
    · rw [h2]; exact Nat.lt_of_lt_of_le (h.lt x hx) clkM_ge
    · rw [h2]; unfold clkM; rw [if_neg (by rw [h3]; decide)]; omega
  · rw [putM_born]
    split
    · exact h.nd
    · rw [List.nodup_append]
      refine ⟨h.nd, by simp, fun a ha b hb e => ?_⟩
      rw [List.mem_singleton] at hb
      obtain ⟨x, hx, rfl⟩ := List.mem_map.1 ha
      have := h.lt x hx
      omega
def fndM : List MEnt → Key → Nat → Option (Nat × Value)
  | [], _, _ => none
  | x :: l, k, i => if k = x.key then some (i, .agg x.tot.c) else fndM l k (i + 1)
theorem run_asking (k : Key) (w : World) : ∀ (l : List MEnt) (i : Nat), (Instr.findAsking 27 (.agg k.c) (l.map MEnt.e) i).run Try.prog w = .ok (fndM l k i) w := by
  intro l
  induction l with
  | nil => intro i; rfl
  | cons x l ih =>
    intro i
    have he : (Op.equal 27 (.agg k.c) (.agg x.key.c)).run Try.prog w = .ok (decide (k = x.key)) w := eqv_27 9996 k x.key w
    rw [List.map_cons]
    unfold Instr.findAsking fndM
    simp only [MEnt.e, Sem.run_bind, he, Result.andThen]
    by_cases h : k = x.key
    · rw [decide_eq_true h, if_pos rfl, if_pos h]; rfl
    · rw [decide_eq_false h, if_neg (by decide), if_neg h]; exact ih (i + 1)
theorem run_findKey (k : Key) (l : List MEnt) (w : World) : (Instr.findKey 27 (.agg k.c) (l.map MEnt.e)).run Try.prog w = .ok (fndM l k 0) w := by
  have hu : (underlying 27).run Try.prog w = .ok (.struct (Try.prog.fieldsOf 27)) w := run_underlying (by kernel_rfl) w
  unfold Instr.findKey
  simp only [Sem.run_bind, hu, Result.andThen]
  generalize Try.prog.fieldsOf 27 = fs
  cases l with
  | nil => rfl
  | cons x l => exact run_asking k w (x :: l) 0
theorem run_checkKeyN (em : Bool) (k : Key) (w : World) (n : Nat) : (Instr.checkKey em (n + 4) 27 (.agg k.c)).run Try.prog w = .ok () w := by kernel_rfl
theorem run_checkKey (em : Bool) (k : Key) (w : World) : (Instr.checkKey em 10000 27 (.agg k.c)).run Try.prog w = .ok () w := run_checkKeyN em k w 9996
theorem fndM_get (l : List MEnt) (k : Key) : ∀ i, (match fndM l k i with | some (_, v) => v | none => .agg (⟨0, 0⟩ : Tot).c) = Value.agg (getM l k).c := by
  induction l with
  | nil => intro i; rfl
  | cons x l ih =>
    intro i
    unfold fndM getM
    by_cases h : k = x.key
    · rw [if_pos h, if_pos h]
    · rw [if_neg h, if_neg h]; exact ih (i + 1)
theorem fndM_at (l : List MEnt) (k : Key) : ∀ i, (fndM l k i = none ∧ hasM l k = false) ∨ ∃ j x, fndM l k i = some (i + j, .agg x.tot.c) ∧ l[j]? = some x ∧ k = x.key ∧ hasM l k = true ∧ (∀ c t, putM l c k t = l.set j { x with tot := t }) := by
  induction l with
  | nil => intro i; exact .inl ⟨rfl, rfl⟩
  | cons x l ih =>
    intro i
    unfold fndM hasM
    by_cases h : k = x.key
    · refine .inr ⟨0, x, by rw [if_pos h]; rfl, rfl, h, by rw [List.any_cons, decide_eq_true h]; rfl, fun c t => by unfold putM; rw [if_pos h]; rfl⟩
    · rw [if_neg h, List.any_cons, decide_eq_false h, Bool.false_or]
      rcases ih (i + 1) with ⟨h1, h2⟩ | ⟨j, y, h1, h2, h3, h4, h5⟩
      · exact .inl ⟨h1, h2⟩
      · exact .inr ⟨j + 1, y, by rw [h1]; congr 2; omega, h2, h3, h4, fun c t => by unfold putM; rw [if_neg h, h5]; rfl⟩
theorem putM_new {l : List MEnt} {k : Key} (h : hasM l k = false) (c : Nat) (t : Tot) : putM l c k t = l ++ [⟨k, t, c⟩] := by
  induction l with
  | nil => rfl
  | cons x l ih =>
    unfold hasM at h
    rw [List.any_cons, Bool.or_eq_false_iff] at h
    unfold putM
    rw [if_neg (of_decide_eq_false h.1), ih h.2]
    rfl
end Go.Proofs.Ytobmcpoejhhemaa
