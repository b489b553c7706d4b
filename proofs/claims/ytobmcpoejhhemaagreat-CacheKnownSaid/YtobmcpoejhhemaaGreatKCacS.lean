import Derived.Test.YtobmcpoejhhemaaGreatKCacN
namespace Go.Proofs.YtobmcpoejhhemaaGreat
open Go.E

theorem swapOut_set {α : Type} {l : List α} {i : Nat} (hi : i < l.length) (y : α) : swapOut (l.set i y) i = swapOut l i := by
  obtain ⟨z, hz⟩ : ∃ z, l[l.length - 1]? = some z := ⟨_, List.getElem?_eq_getElem (by omega)⟩
  rw [swapOut_eq hz]
  by_cases h : i = l.length - 1
  · rw [swapOut_eq (x := y) (by rw [List.length_set, ← h, List.getElem?_set_self hi])]
    rw [List.length_set, List.take_set_of_le (by omega), List.take_set_of_le (by omega), List.take_set_of_le (by omega)]
  · rw [swapOut_eq (x := z) (by rw [List.length_set, List.getElem?_set_ne h, hz])]
    rw [List.length_set, List.set_set]
theorem AccR.perm {bd : Bnd} {tick tick' cls : Int} {p : Pkt} {fl fl' out : List Rec} (h : AccR bd tick tick' p cls fl fl' out) :
    ∃ fl1 out1 out2 r X, AdvAny bd tick tick' fl fl1 out1 ∧ ((fl1.Perm (r :: X) ∧ r.key = p.key ∧ out2 = []) ∨ (p.key ∉ keysOf fl1 ∧ BegR bd fl1 X out2 ∧ r = startR p.key cls (tickTo tick tick'))) ∧
      ((endZ bd p (r.with_ p (tickTo tick tick')) = 0 ∧ fl'.Perm (r.with_ p (tickTo tick tick') :: X) ∧ out = out1 ++ out2) ∨
       (endZ bd p (r.with_ p (tickTo tick tick')) ≠ 0 ∧ fl'.Perm X ∧ out = out1 ++ out2 ++ [{ r.with_ p (tickTo tick tick') with reason := endZ bd p (r.with_ p (tickTo tick tick')) }])) := by
  obtain ⟨fl1, out1, fl2, out2, i, r, hA, hc, hi, hk, hz⟩ := h
  have hil := (List.getElem?_eq_some_iff.1 hi).1
  rcases hc with ⟨_, rfl, rfl⟩ | ⟨hno, flb, hB, rfl⟩
  · refine ⟨fl2, out1, [], r, swapOut fl2 i, hA, .inl ⟨swapOut_perm hi, hk, rfl⟩, ?_⟩
    rcases hz with ⟨h0, rfl, rfl⟩ | ⟨h0, rfl, rfl⟩
    · exact .inl ⟨h0, (swapOut_perm (List.getElem?_set_self hil)).trans (.of_eq (by rw [swapOut_set hil])), rfl⟩
    · exact .inr ⟨h0, .of_eq (by rw [swapOut_set hil]), rfl⟩
  · have hin : i = flb.length := by
      rcases Nat.lt_or_ge i flb.length with h | h
      · rw [List.getElem?_append_left h] at hi
        exact absurd (List.mem_map.2 ⟨r, hB.sub r (List.mem_of_getElem? hi), hk⟩) hno
      · simp only [List.length_append, List.length_singleton] at hil
        omega
    subst hin
    have hr : r = startR p.key cls (tickTo tick tick') := by simpa using hi.symm
    refine ⟨fl1, out1, out2, r, flb, hA, .inr ⟨hno, hB, hr⟩, ?_⟩
    have e : ∀ r', (flb ++ [startR p.key cls (tickTo tick tick')]).set flb.length r' = flb ++ [r'] := fun r' => by
      rw [List.set_append_right _ _ (Nat.le_refl _), Nat.sub_self]; rfl
    rw [e] at hz
    rcases hz with ⟨h0, rfl, rfl⟩ | ⟨h0, rfl, rfl⟩
    · exact .inl ⟨h0, List.perm_append_singleton _ flb, rfl⟩
    · refine .inr ⟨h0, .of_eq ?_, rfl⟩
      rw [swapOut_eq (x := r.with_ p (tickTo tick tick')) (by simp)]
      simp
theorem AdvAny.none_ {bd : Bnd} {tick tick' : Int} {fl fl1 out X : List Rec} (h : AdvAny bd tick tick' fl fl1 out) (hp : fl.Perm X) (hd : ∀ x ∈ X, ¬ dueR bd x ≤ tick') : out = [] ∧ fl1.Perm X := by
  rcases h with ⟨_, rfl, rfl⟩ | ⟨_, srt, h1, _, rfl, h3⟩
  · exact ⟨rfl, hp⟩
  · have hd' : ∀ x ∈ fl, ¬ dueR bd x ≤ tick' := fun x hx => hd x (hp.mem_iff.1 hx)
    have e1 : dueBy bd tick' fl = [] := List.filter_eq_nil_iff.2 fun x hx => by simpa using hd' x hx
    rw [e1] at h1
    rw [List.filter_eq_self.2 fun x hx => by simpa using hd' x hx] at h3
    exact ⟨by rw [h1.eq_nil]; rfl, h3.trans hp⟩
theorem keysOf_perm {a b : List Rec} (h : a.Perm b) (k : Key) : k ∈ keysOf a ↔ k ∈ keysOf b := (h.map _).mem_iff
section
variable {bd : Bnd} {tick tick' cls : Int} {p : Pkt} {fl fl' out X : List Rec} {r u : Rec}
theorem acc_new (h : AccR bd tick tick' p cls fl fl' out) (hp : fl.Perm X) (hd : ∀ x ∈ X, ¬ dueR bd x ≤ tick') (hk : p.key ∉ keysOf X) (hl : (X.length : Int) < bd.flows)
    (hz : endZ bd p ((startR p.key cls (tickTo tick tick')).with_ p (tickTo tick tick')) = 0) : out = [] ∧ fl'.Perm ((startR p.key cls (tickTo tick tick')).with_ p (tickTo tick tick') :: X) := by
  obtain ⟨fl1, out1, out2, r, Y, hA, hc, he⟩ := h.perm
  obtain ⟨rfl, hp1⟩ := hA.none_ hp hd
  rcases hc with ⟨h1, h2, _⟩ | ⟨_, hB, rfl⟩
  · exact absurd ((keysOf_perm hp1 p.key).1 (List.mem_map.2 ⟨r, h1.mem_iff.2 (.head _), h2⟩)) hk
  · rcases hB with ⟨h1, _⟩ | ⟨_, rfl, rfl⟩
    · rw [hp1.length_eq] at h1; omega
    · rcases he with ⟨_, h3, rfl⟩ | ⟨h3, _⟩
      · exact ⟨rfl, h3.trans (hp1.cons _)⟩
      · exact absurd hz h3
theorem acc_full (h : AccR bd tick tick' p cls fl fl' out) (hp : fl.Perm (u :: X)) (hd : ∀ x ∈ u :: X, ¬ dueR bd x ≤ tick') (hk : p.key ∉ keysOf (u :: X)) (hl : ((u :: X).length : Int) = bd.flows) (hm : ∀ x ∈ X, cmpLast u x < 0)
    (hz : endZ bd p ((startR p.key cls (tickTo tick tick')).with_ p (tickTo tick tick')) = 0) : out = [{ u with reason := 5 }] ∧ fl'.Perm ((startR p.key cls (tickTo tick tick')).with_ p (tickTo tick tick') :: X) := by
  obtain ⟨fl1, out1, out2, r, Y, hA, hc, he⟩ := h.perm
  obtain ⟨rfl, hp1⟩ := hA.none_ hp hd
  rcases hc with ⟨h1, h2, _⟩ | ⟨_, hB, rfl⟩
  · exact absurd ((keysOf_perm hp1 p.key).1 (List.mem_map.2 ⟨r, h1.mem_iff.2 (.head _), h2⟩)) hk
  · rcases hB with ⟨h1, v, hv, hmin, rfl, hY⟩ | ⟨h1, _⟩
    · have hvu : v = u := by
        rcases List.mem_cons.1 (hp1.mem_iff.1 hv) with h | h
        · exact h
        · exact absurd (hm v h) (hmin u (hp1.mem_iff.2 (.head _)))
      subst hvu
      have hYX : Y.Perm X := (hY.symm.trans hp1).cons_inv
      rcases he with ⟨_, h3, rfl⟩ | ⟨h3, _⟩
      · exact ⟨rfl, h3.trans (hYX.cons _)⟩
      · exact absurd hz h3
    · rw [hp1.length_eq] at h1; omega
theorem acc_old (h : AccR bd tick tick' p cls fl fl' out) (hp : fl.Perm (r :: X)) (hd : ∀ x ∈ r :: X, ¬ dueR bd x ≤ tick') (hk : r.key = p.key) (hX : p.key ∉ keysOf X) :
    (endZ bd p (r.with_ p (tickTo tick tick')) = 0 ∧ out = [] ∧ fl'.Perm (r.with_ p (tickTo tick tick') :: X)) ∨
    (endZ bd p (r.with_ p (tickTo tick tick')) ≠ 0 ∧ out = [{ r.with_ p (tickTo tick tick') with reason := endZ bd p (r.with_ p (tickTo tick tick')) }] ∧ fl'.Perm X) := by
  obtain ⟨fl1, out1, out2, q, Y, hA, hc, he⟩ := h.perm
  obtain ⟨rfl, hp1⟩ := hA.none_ hp hd
  rcases hc with ⟨h1, h2, rfl⟩ | ⟨hno, _⟩
  · have hqr : q = r := by
      rcases List.mem_cons.1 (hp1.mem_iff.1 (h1.mem_iff.2 (.head _))) with h | h
      · exact h
      · exact absurd (List.mem_map.2 ⟨q, h, h2⟩) hX
    subst hqr
    have hYX : Y.Perm X := (h1.symm.trans hp1).cons_inv
    rcases he with ⟨h3, h4, rfl⟩ | ⟨h3, h4, rfl⟩
    · exact .inl ⟨h3, rfl, h4.trans (hYX.cons _)⟩
    · exact .inr ⟨h3, rfl, h4.trans hYX⟩
  · exact absurd ((keysOf_perm hp1 p.key).2 (List.mem_map.2 ⟨r, .head _, hk⟩)) hno
theorem acc_more (h : AccR bd tick tick' p cls fl fl' out) (hp : fl.Perm (r :: X)) (hd : ∀ x ∈ r :: X, ¬ dueR bd x ≤ tick') (hk : r.key = p.key) (hX : p.key ∉ keysOf X)
    (hz : endZ bd p (r.with_ p (tickTo tick tick')) = 0) : out = [] ∧ fl'.Perm (r.with_ p (tickTo tick tick') :: X) := by
  rcases acc_old h hp hd hk hX with ⟨_, h⟩ | ⟨h, _⟩
  · exact h
  · exact absurd hz h
theorem acc_done (h : AccR bd tick tick' p cls fl fl' out) (hp : fl.Perm (r :: X)) (hd : ∀ x ∈ r :: X, ¬ dueR bd x ≤ tick') (hk : r.key = p.key) (hX : p.key ∉ keysOf X)
    (hz : endZ bd p (r.with_ p (tickTo tick tick')) ≠ 0) : out = [{ r.with_ p (tickTo tick tick') with reason := endZ bd p (r.with_ p (tickTo tick tick')) }] ∧ fl'.Perm X := by
  rcases acc_old h hp hd hk hX with ⟨h, _⟩ | ⟨_, h⟩
  · exact absurd h hz
  · exact h
theorem adv_one (h : AdvAny bd tick tick' fl fl' out) (ht : tick ≤ tick') (hp : fl.Perm [r]) (hd : dueR bd r ≤ tick') : out = [{ r with reason := reasonR bd r }] ∧ fl' = [] := by
  rcases h with ⟨h, _⟩ | ⟨_, srt, h1, _, rfl, h3⟩
  · omega
  · have e := List.perm_singleton.1 hp
    subst e
    have e1 : dueBy bd tick' [r] = [r] := by simp [dueBy, hd]
    rw [e1] at h1
    have e2 : ([r].filter fun r => !decide (dueR bd r ≤ tick')) = [] := by simp [hd]
    rw [e2] at h3
    exact ⟨by rw [List.perm_singleton.1 h1]; rfl, h3.eq_nil⟩
end
end Go.Proofs.YtobmcpoejhhemaaGreat
