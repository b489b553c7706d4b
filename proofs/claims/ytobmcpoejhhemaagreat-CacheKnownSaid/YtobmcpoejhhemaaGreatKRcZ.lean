import Derived.Test.YtobmcpoejhhemaaGreatKCacZ
import Derived.Test.YtobmcpoejhhemaaGreatKCacY
import Derived.Test.YtobmcpoejhhemaaGreatKEngH
namespace Go.Proofs.YtobmcpoejhhemaaGreat
open Go.E

/-- In the order of the keys. -/
def SortR (g : List Rec) : Prop := g.Pairwise fun x y => ltK x.key y.key
theorem SortR.lt {g : List Rec} (h : SortR g) {i j : Nat} {x y : Rec} (hij : i < j) (hx : g[i]? = some x) (hy : g[j]? = some y) : ltK x.key y.key := by
  obtain ⟨hi, rfl⟩ := List.getElem?_eq_some_iff.1 hx
  obtain ⟨hj, rfl⟩ := List.getElem?_eq_some_iff.1 hy
  exact List.pairwise_iff_getElem.1 h i j hi hj hij
theorem SortR.dist {g : List Rec} (h : SortR g) : Dist g := by
  unfold SortR at h
  unfold Dist
  exact List.Pairwise.imp (S := fun a b : Rec => a.key ≠ b.key) (fun {a b} h e => ltK_irrefl b.key (by rw [e] at h; exact h)) h
theorem SortR.nil : SortR [] := List.Pairwise.nil
theorem key_at {g : List Rec} {k : Key} (h : k ∈ keysOf g) : ∃ (i : Nat) (x : Rec), g[i]? = some x ∧ x.key = k := by
  obtain ⟨x, hx, he⟩ := List.mem_map.1 h
  obtain ⟨i, hi, rfl⟩ := List.getElem_of_mem hx
  exact ⟨i, _, List.getElem?_eq_getElem hi, he⟩
theorem key_in {g : List Rec} {k : Key} {i : Nat} {x : Rec} (hx : g[i]? = some x) (h : x.key = k) : k ∈ keysOf g := List.mem_map.2 ⟨x, List.mem_of_getElem? hx, h⟩
/-- Where the flow of a key stands, or would stand. -/
def findAt (g : List Rec) (k : Key) : Nat := (g.takeWhile fun r => decide (cmpK r.key k < 0)).length
theorem findAt_spec (g : List Rec) (k : Key) : findAt g k ≤ g.length ∧ (∀ j x, j < findAt g k → g[j]? = some x → ltK x.key k) ∧ (∀ x, g[findAt g k]? = some x → ¬ ltK x.key k) := by
  induction g with
  | nil => exact ⟨Nat.le_refl _, fun j x h => absurd h (Nat.not_lt_zero _), fun x h => by cases h⟩
  | cons a t ih =>
    by_cases h : cmpK a.key k < 0
    · have e : findAt (a :: t) k = findAt t k + 1 := by
        unfold findAt
        rw [List.takeWhile_cons, if_pos (decide_eq_true (show cmpK a.key k < 0 from h))]
        rfl
      rw [e]
      refine ⟨by have := ih.1; simp only [List.length_cons]; omega, fun j x hj hx => ?_, fun x hx => ih.2.2 x hx⟩
      cases j with
      | zero => cases hx; exact h
      | succ j => exact ih.2.1 j x (by omega) hx
    · have e : findAt (a :: t) k = 0 := by
        unfold findAt
        rw [List.takeWhile_cons, if_neg fun e => h (of_decide_eq_true e)]
        rfl
      rw [e]
      exact ⟨Nat.zero_le _, fun j x h => absurd h (Nat.not_lt_zero _), fun x hx => by cases hx; exact h⟩
theorem findAt_of {g : List Rec} {k : Key} {n : Nat} (hn : n ≤ g.length) (h1 : ∀ j x, j < n → g[j]? = some x → ltK x.key k) (h2 : ∀ x, g[n]? = some x → ¬ ltK x.key k) : findAt g k = n := by
  obtain ⟨a1, a2, a3⟩ := findAt_spec g k
  rcases Nat.lt_trichotomy (findAt g k) n with h | h | h
  · exact absurd (h1 _ _ h (List.getElem?_eq_getElem (by omega))) (a3 _ (List.getElem?_eq_getElem (by omega)))
  · exact h
  · exact absurd (a2 _ _ h (List.getElem?_eq_getElem (by omega))) (h2 _ (List.getElem?_eq_getElem (by omega)))
def okAt (g : List Rec) (k : Key) : Bool := match g[findAt g k]? with
  | some x => decide (x.key = k)
  | none => false
section
variable {bd : Bnd} {g g0 g1 g2 out out1 out2 o12 fl fl' : List Rec} {k : Key} {i : Nat} {x r u : Rec} {tick tick' T cls : Int} {p : Pkt}
theorem find_in (hs : SortR g) (hi : g[i]? = some x) (hk : x.key = k) : findAt g k = i :=
  findAt_of (Nat.le_of_lt (List.getElem?_eq_some_iff.1 hi).1) (fun _ _ hj hy => hk ▸ hs.lt hj hy hi) fun y hy => by
    rw [hi] at hy
    cases hy
    rw [hk]
    exact ltK_irrefl k
theorem okAt_T (hs : SortR g) (hk : k ∈ keysOf g) : okAt g k = true := by
  obtain ⟨i, x, hi, he⟩ := key_at hk
  unfold okAt
  rw [find_in hs hi he, hi]
  exact decide_eq_true he
theorem okAt_F (hk : k ∉ keysOf g) : okAt g k = false := by
  unfold okAt
  split
  · rename_i x hx
    exact decide_eq_false fun e => hk (key_in hx e)
  · rfl
/-- A flow put in. -/
def insAt (g : List Rec) (r : Rec) : List Rec := g.take (findAt g r.key) ++ r :: g.drop (findAt g r.key)
theorem insAt_perm : (insAt g r).Perm (r :: g) := by
  unfold insAt
  refine List.perm_middle.trans ?_
  rw [List.take_append_drop]
theorem insAt_sort (hs : SortR g) (hw : ∀ x ∈ g, WfR x) (hr : WfR r) (hn : r.key ∉ keysOf g) : SortR (insAt g r) := by
  obtain ⟨a1, a2, a3⟩ := findAt_spec g r.key
  have hL : ∀ x ∈ g.take (findAt g r.key), ltK x.key r.key := fun x hx => by
    obtain ⟨j, hj, rfl⟩ := List.getElem_of_mem hx
    rw [List.length_take] at hj
    exact a2 j _ (by omega) (by rw [List.getElem_take]; exact List.getElem?_eq_getElem (by omega))
  have hR : ∀ y ∈ g.drop (findAt g r.key), ltK r.key y.key := fun y hy => by
    obtain ⟨j, hj, rfl⟩ := List.getElem_of_mem hy
    rw [List.length_drop] at hj
    have h0 : g[findAt g r.key]? = some g[findAt g r.key] := List.getElem?_eq_getElem (by omega)
    have hm := List.mem_of_getElem? h0
    have h1 : ltK r.key (g[findAt g r.key]).key := ltK_of hr.1.key_ (hw _ hm).1.key_ hr.2 (hw _ hm).2 (fun e => hn (key_in h0 e.symm)) (a3 _ h0)
    rw [List.getElem_drop]
    cases j with
    | zero => exact h1
    | succ j => exact ltK_trans h1 (hs.lt (show findAt g r.key < findAt g r.key + (j + 1) by omega) h0 (List.getElem?_eq_getElem (by omega)))
  unfold SortR insAt
  rw [List.pairwise_append, List.pairwise_cons]
  refine ⟨hs.sublist (List.take_sublist _ _), ⟨hR, hs.sublist (List.drop_sublist _ _)⟩, fun x hx y hy => ?_⟩
  rcases List.mem_cons.1 hy with rfl | hy
  · exact hL x hx
  · exact ltK_trans (hL x hx) (hR y hy)
/-- A flow taken out. -/
def cutAt (g : List Rec) (i : Nat) : List Rec := g.take i ++ g.drop (i + 1)
theorem cutAt_perm (h : g[i]? = some x) : g.Perm (x :: cutAt g i) := by
  obtain ⟨hi, rfl⟩ := List.getElem?_eq_some_iff.1 h
  unfold cutAt
  refine List.Perm.trans (.of_eq ?_) List.perm_middle
  simp
theorem cutAt_sub : (cutAt g i).Sublist g := by
  unfold cutAt
  rw [← List.eraseIdx_eq_take_drop_succ]
  exact List.eraseIdx_sublist _ _
theorem cutAt_len (h : g[i]? = some x) : (cutAt g i).length + 1 = g.length := by
  have := (cutAt_perm h).length_eq
  rw [List.length_cons] at this
  omega
theorem cutAt_sort (hs : SortR g) : SortR (cutAt g i) := hs.sublist cutAt_sub
theorem nextS_all (g : List Rec) : ∀ s : Option Int, match g.foldl (fun s r => match s with | none => some (dueR bd r) | some a => if dueR bd r < a then some (dueR bd r) else some a) s with
    | none => s = none ∧ g = []
    | some v => (∀ a, s = some a → v ≤ a) ∧ ∀ x ∈ g, v ≤ dueR bd x := by
  induction g with
  | nil =>
    intro s
    cases s with
    | none => exact ⟨rfl, rfl⟩
    | some a => exact ⟨fun b h => by cases h; exact Int.le_refl _, fun x hx => absurd hx List.not_mem_nil⟩
  | cons r t ih =>
    intro s
    rw [List.foldl_cons]
    generalize hs' : (match s with | none => some (dueR bd r) | some a => if dueR bd r < a then some (dueR bd r) else some a) = s'
    have h0 : ∃ c, s' = some c ∧ c ≤ dueR bd r ∧ ∀ a, s = some a → c ≤ a := by
      cases s with
      | none => exact ⟨_, hs'.symm, Int.le_refl _, fun a h => by cases h⟩
      | some a =>
        dsimp only at hs'
        split at hs'
        · exact ⟨_, hs'.symm, Int.le_refl _, fun b h => by cases h; omega⟩
        · exact ⟨_, hs'.symm, by omega, fun b h => by cases h; exact Int.le_refl _⟩
    obtain ⟨c, rfl, h1, h2⟩ := h0
    have := ih (some c)
    split at this
    · exact absurd this.1 (by simp)
    · refine ⟨fun a ha => Int.le_trans (this.1 c rfl) (h2 a ha), fun x hx => ?_⟩
      rcases List.mem_cons.1 hx with rfl | hx
      · exact Int.le_trans (this.1 c rfl) h1
      · exact this.2 x hx
theorem nextS_none (h : nextS bd g = none) : g = [] := by
  have := nextS_all (bd := bd) g none
  split at this
  · exact this.2
  · rename_i v hv
    exact absurd (hv.symm.trans h) (by simp)
theorem nextS_min {v : Int} (h : nextS bd g = some v) : ∀ x ∈ g, v ≤ dueR bd x := by
  have := nextS_all (bd := bd) g none
  split at this
  · rename_i hv
    exact absurd (hv.symm.trans h) (by simp)
  · rename_i w hv
    rw [Option.some.inj (hv.symm.trans h)] at this
    exact this.2
theorem nextS_perm (hp : fl.Perm g) : nextS bd fl = nextS bd g := by
  cases h1 : nextS bd fl with
  | none =>
    have := nextS_none h1
    subst this
    rw [hp.symm.eq_nil]
    rfl
  | some a =>
    cases h2 : nextS bd g with
    | none =>
      have := nextS_none h2
      subst this
      rw [hp.eq_nil] at h1
      cases h1
    | some b =>
      obtain ⟨x, hx, rfl⟩ := next_of h1
      obtain ⟨y, hy, rfl⟩ := next_of h2
      have e1 := nextS_min h1 y (hp.mem_iff.2 hy)
      have e2 := nextS_min h2 x (hp.mem_iff.1 hx)
      rw [show dueR bd x = dueR bd y by omega]
def AdvS (bd : Bnd) (T : Int) (g0 g out : List Rec) : Prop := ∃ S, out = told (reasonR bd) S ∧ (S ++ g).Perm g0 ∧ S.Pairwise (fun x y => ¬ cmpDue bd y x < 0) ∧ (∀ x ∈ S, ∀ y ∈ g, ¬ cmpDue bd y x < 0) ∧ (∀ x ∈ S, dueR bd x ≤ T) ∧ SortR g
theorem AdvS.start (hs : SortR g) : AdvS bd T g g [] := ⟨[], rfl, .refl _, .nil, fun _ h => absurd h List.not_mem_nil, fun _ h => absurd h List.not_mem_nil, hs⟩
theorem AdvS.len (h : AdvS bd T g0 g out) : out.length + g.length = g0.length := by
  obtain ⟨S, rfl, h1, _⟩ := h
  rw [← h1.length_eq, List.length_append]
  unfold told
  rw [List.length_map]
theorem AdvS.sort (h : AdvS bd T g0 g out) : SortR g := by
  obtain ⟨_, _, _, _, _, _, h⟩ := h
  exact h
theorem AdvS.mem (h : AdvS bd T g0 g out) : ∀ x ∈ g, x ∈ g0 := by
  obtain ⟨S, _, h1, _⟩ := h
  exact fun x hx => h1.mem_iff.1 (List.mem_append_right _ hx)
theorem AdvS.step (h : AdvS bd T g0 g out) (hx : g[i]? = some x) (hmin : ∀ y ∈ g, dueR bd x ≤ dueR bd y) (hfst : ∀ j y, j < i → g[j]? = some y → ¬ dueR bd y = dueR bd x) (hT : dueR bd x ≤ T) : AdvS bd T g0 (cutAt g i) (out ++ [{ x with reason := reasonR bd x }]) := by
  obtain ⟨S, rfl, h1, h2, h3, h4, h5⟩ := h
  have hsub : ∀ y ∈ cutAt g i, y ∈ g := fun y hy => cutAt_sub.subset hy
  have hcmp : ∀ y ∈ g, ¬ cmpDue bd y x < 0 := fun y hy => by
    obtain ⟨j, hj, rfl⟩ := List.getElem_of_mem hy
    have hj' : g[j]? = some g[j] := List.getElem?_eq_getElem hj
    have hm := hmin _ hy
    unfold cmpDue
    rw [lex_neg]
    rintro (h | ⟨h, hk⟩)
    · omega
    · rcases Nat.lt_trichotomy j i with h6 | h6 | h6
      · exact hfst j _ h6 hj' h
      · subst h6
        rw [hx] at hj'
        have e := Option.some.inj hj'
        rw [← e] at hk
        exact ltK_irrefl _ hk
      · exact ltK_irrefl _ (ltK_trans (h5.lt h6 hx hj') hk)
  refine ⟨S ++ [x], by unfold told; rw [List.map_append]; rfl, ?_, ?_, ?_, ?_, cutAt_sort h5⟩
  · rw [List.append_assoc]
    exact (List.Perm.append_left S (cutAt_perm hx).symm).trans h1
  · rw [List.pairwise_append]
    refine ⟨h2, List.pairwise_singleton _ _, fun a ha b hb => ?_⟩
    rw [List.mem_singleton] at hb
    subst hb
    exact h3 a ha _ (List.mem_of_getElem? hx)
  · intro a ha y hy
    rcases List.mem_append.1 ha with ha | ha
    · exact h3 a ha y (hsub y hy)
    · rw [List.mem_singleton] at ha
      subst ha
      exact hcmp y (hsub y hy)
  · intro a ha
    rcases List.mem_append.1 ha with ha | ha
    · exact h4 a ha
    · rw [List.mem_singleton] at ha
      subst ha
      exact hT
theorem AdvS.fin (h : AdvS bd T g0 g out) (hy : ∀ y ∈ g, T < dueR bd y) : AdvR bd T g0 g out := by
  obtain ⟨S, rfl, h1, h2, h3, h4, h5⟩ := h
  refine ⟨S, ?_, h2, rfl, ?_⟩
  · have := h1.filter fun r => decide (dueR bd r ≤ T)
    rw [List.filter_append, List.filter_eq_self.2 fun x hx => by have := h4 x hx; simp; omega, List.filter_eq_nil_iff.2 fun x hx => by have := hy x hx; simp; omega, List.append_nil] at this
    exact this
  · have := h1.filter fun r => !decide (dueR bd r ≤ T)
    rw [List.filter_append, List.filter_eq_nil_iff.2 fun x hx => by have := h4 x hx; simp; omega, List.filter_eq_self.2 fun x hx => by have := hy x hx; simp; omega, List.nil_append] at this
    exact this
theorem beg_min (hs : SortR g) (hl : (g.length : Int) = bd.flows) (hu : g[i]? = some u) (hmin : ∀ y ∈ g, u.last ≤ y.last) (hfst : ∀ j y, j < i → g[j]? = some y → u.last < y.last) : BegR bd g (cutAt g i) [{ u with reason := 5 }] := by
  refine .inl ⟨hl, u, List.mem_of_getElem? hu, fun y hy => ?_, rfl, cutAt_perm hu⟩
  obtain ⟨j, hj, rfl⟩ := List.getElem_of_mem hy
  have hj' : g[j]? = some g[j] := List.getElem?_eq_getElem hj
  have hm := hmin _ hy
  unfold cmpLast
  rw [lex_neg]
  rintro (h | ⟨h, hk⟩)
  · omega
  · rcases Nat.lt_trichotomy j i with h6 | h6 | h6
    · have := hfst j _ h6 hj'; omega
    · subst h6
      rw [hu] at hj'
      have e := Option.some.inj hj'
      rw [← e] at hk
      exact ltK_irrefl _ hk
    · exact ltK_irrefl _ (ltK_trans (hs.lt h6 hu hj') hk)
/-- What accounting a packet does, up to order. -/
def AccP (bd : Bnd) (tick tick' : Int) (p : Pkt) (cls : Int) (fl fl' out : List Rec) : Prop :=
  ∃ fl1 out1 out2 r X, AdvAny bd tick tick' fl fl1 out1 ∧ ((fl1.Perm (r :: X) ∧ r.key = p.key ∧ out2 = []) ∨ (p.key ∉ keysOf fl1 ∧ BegR bd fl1 X out2 ∧ r = startR p.key cls (tickTo tick tick'))) ∧
      ((endZ bd p (r.with_ p (tickTo tick tick')) = 0 ∧ fl'.Perm (r.with_ p (tickTo tick tick') :: X) ∧ out = out1 ++ out2) ∨
       (endZ bd p (r.with_ p (tickTo tick tick')) ≠ 0 ∧ fl'.Perm X ∧ out = out1 ++ out2 ++ [{ r.with_ p (tickTo tick tick') with reason := endZ bd p (r.with_ p (tickTo tick tick')) }]))
theorem AccR.det2 {gl gl' out' : List Rec} (h1 : AccR bd tick tick' p cls fl fl' out) (h2 : AccP bd tick tick' p cls gl gl' out') (hp : fl.Perm gl) (hw : ∀ r ∈ fl, WfR r) (hd : Dist fl) : fl'.Perm gl' ∧ out = out' := by
  obtain ⟨fl1, o1, o2, r, X, hA, hc, he⟩ := h1.perm
  obtain ⟨gl1, o1', o2', r', X', hA', hc', he'⟩ := h2
  obtain ⟨hp1, rfl⟩ := hA.det hA' hp hw hd
  have hw1 : ∀ x ∈ fl1, WfR x := fun x hx => hw x (hA.sub x hx)
  have hd1 := hA.dist hd
  have hrX : r = r' ∧ X.Perm X' ∧ o2 = o2' := by
    rcases hc with ⟨a1, a2, rfl⟩ | ⟨a1, hB, rfl⟩ <;> rcases hc' with ⟨b1, b2, rfl⟩ | ⟨b1, hB', rfl⟩
    · have e : r = r' := eq_of_key hd1 (a1.mem_iff.2 (.head _)) (hp1.mem_iff.2 (b1.mem_iff.2 (.head _))) (a2.trans b2.symm)
      subst e
      exact ⟨rfl, (a1.symm.trans (hp1.trans b1)).cons_inv, rfl⟩
    · exact absurd ((keysOf_perm hp1 p.key).1 (List.mem_map.2 ⟨r, a1.mem_iff.2 (.head _), a2⟩)) b1
    · exact absurd ((keysOf_perm hp1 p.key).2 (List.mem_map.2 ⟨r', b1.mem_iff.2 (.head _), b2⟩)) a1
    · obtain ⟨c1, c2⟩ := hB.det hB' hp1 hw1 hd1
      exact ⟨rfl, c1, c2⟩
  obtain ⟨rfl, hX, rfl⟩ := hrX
  rcases he with ⟨a1, a2, rfl⟩ | ⟨a1, a2, rfl⟩ <;> rcases he' with ⟨b1, b2, rfl⟩ | ⟨b1, b2, rfl⟩
  · exact ⟨a2.trans ((hX.cons _).trans b2.symm), rfl⟩
  · exact absurd a1 b1
  · exact absurd b1 a1
  · exact ⟨a2.trans (hX.trans b2.symm), rfl⟩
/-- Behind the search, or the beginning, of a packet's flow. -/
def MidR (bd : Bnd) (T : Int) (p : Pkt) (cls : Int) (g1 g2 out2 : List Rec) : Prop :=
  (p.key ∈ keysOf g1 ∧ g2 = g1 ∧ out2 = []) ∨ (p.key ∉ keysOf g1 ∧ ∃ X, BegR bd g1 X out2 ∧ g2 = insAt X (startR p.key cls T))
theorem MidR.key_ (h : MidR bd T p cls g1 g2 out2) : p.key ∈ keysOf g2 := by
  rcases h with ⟨h, rfl, _⟩ | ⟨_, X, _, rfl⟩
  · exact h
  · exact List.mem_map.2 ⟨startR p.key cls T, insAt_perm.mem_iff.2 (.head _), rfl⟩
theorem MidR.acc {g' : List Rec} (hA : AdvAny bd tick tick' g0 g1 out1) (h : MidR bd (tickTo tick tick') p cls g1 g2 out2) (hs : SortR g2) (hi : g2[i]? = some r) (hk : r.key = p.key)
    (he : (endZ bd p (r.with_ p (tickTo tick tick')) = 0 ∧ g' = g2.set i (r.with_ p (tickTo tick tick')) ∧ out = out1 ++ out2) ∨
      (endZ bd p (r.with_ p (tickTo tick tick')) ≠ 0 ∧ g' = cutAt (g2.set i (r.with_ p (tickTo tick tick'))) i ∧ out = out1 ++ out2 ++ [{ r.with_ p (tickTo tick tick') with reason := endZ bd p (r.with_ p (tickTo tick tick')) }])) : AccP bd tick tick' p cls g0 g' out := by
  have hil := (List.getElem?_eq_some_iff.1 hi).1
  have hX : ∃ X, g2.Perm (r :: X) ∧ ((g1.Perm (r :: X) ∧ r.key = p.key ∧ out2 = []) ∨ (p.key ∉ keysOf g1 ∧ BegR bd g1 X out2 ∧ r = startR p.key cls (tickTo tick tick'))) := by
    rcases h with ⟨_, rfl, rfl⟩ | ⟨hn, X, hB, rfl⟩
    · exact ⟨_, cutAt_perm hi, .inl ⟨cutAt_perm hi, hk, rfl⟩⟩
    · have e : r = startR p.key cls (tickTo tick tick') := eq_of_key hs.dist (List.mem_of_getElem? hi) (insAt_perm.mem_iff.2 (.head _)) hk
      subst e
      exact ⟨X, insAt_perm, .inr ⟨hn, hB, rfl⟩⟩
  obtain ⟨X, hp, hc⟩ := hX
  have hp2 : (g2.set i (r.with_ p (tickTo tick tick'))).Perm (r.with_ p (tickTo tick tick') :: X) := by
    have h1 := set_perm hi (r.with_ p (tickTo tick tick'))
    have h2 : (r.with_ p (tickTo tick tick') :: g2).Perm (r :: r.with_ p (tickTo tick tick') :: X) := (hp.cons _).trans (.swap _ _ _)
    exact (h1.symm.trans h2).cons_inv
  have hp3 : (cutAt (g2.set i (r.with_ p (tickTo tick tick'))) i).Perm X := by
    have h3 : (g2.set i (r.with_ p (tickTo tick tick')))[i]? = some (r.with_ p (tickTo tick tick')) := List.getElem?_set_self hil
    have h4 := cutAt_perm h3
    exact (h4.symm.trans hp2).cons_inv
  refine ⟨g1, out1, out2, r, X, hA, hc, ?_⟩
  rcases he with ⟨h0, h5, h6⟩ | ⟨h0, h5, h6⟩
  · subst h5
    exact .inl ⟨h0, hp2, h6⟩
  · subst h5
    exact .inr ⟨h0, hp3, h6⟩
theorem set_sort {r' : Rec} (hs : SortR g) (hi : g[i]? = some r) (hk : r'.key = r.key) : SortR (g.set i r') := by
  have e := keysOf_set hi hk
  have h1 : (keysOf g).Pairwise ltK := List.pairwise_map.2 hs
  rw [← e] at h1
  exact List.pairwise_map.1 h1
theorem SortR.weak (hs : SortR g) : g.Pairwise fun x y => ¬ ltK y.key x.key := by
  unfold SortR at hs
  exact List.Pairwise.imp (S := fun x y : Rec => ¬ ltK y.key x.key) (fun {a b} h e => ltK_irrefl a.key (ltK_trans h e)) hs
theorem AllR.eq (h : AllR fl out) (hp : fl.Perm g) (hs : SortR g) (hw : ∀ r ∈ g, WfR r) : out = g :=
  sorted_unique (R := fun x y : Rec => ¬ ltK y.key x.key) (h.1.trans hp) h.2 hs.weak fun a ha b hb h1 h2 =>
    have ha' := (h.1.trans hp).mem_iff.1 ha
    have hb' := (h.1.trans hp).mem_iff.1 hb
    eq_of_key hs.dist ha' hb' (key_anti (hw a ha') (hw b hb') h1 h2)
/-- An Account of any packet, in the document. -/
def AccQ (bd : Bnd) (tick tick' : Int) (p : Pkt) (cls : Int) (fl fl' out : List Rec) (tk e : Int) : Prop :=
  (p.key.right = true ∧ AccP bd tick tick' p cls fl fl' out ∧ tk = tickTo tick tick' ∧ e = 0) ∨ (p.key.right = false ∧ fl' = fl ∧ out = [] ∧ tk = tick ∧ e = 2)
theorem AccA.det2 {gl gl' out' : List Rec} {tk tk' e e' : Int} (h1 : AccA bd tick tick' p cls fl fl' out tk e) (h2 : AccQ bd tick tick' p cls gl gl' out' tk' e') (hp : fl.Perm gl) (hw : ∀ r ∈ fl, WfR r) (hd : Dist fl) : fl'.Perm gl' ∧ out = out' ∧ tk = tk' ∧ e = e' := by
  rcases h1 with ⟨a, b, rfl, rfl⟩ | ⟨a, rfl, rfl, rfl, rfl⟩ <;> rcases h2 with ⟨a', b', rfl, rfl⟩ | ⟨a', rfl, rfl, rfl, rfl⟩
  · obtain ⟨c, d⟩ := b.det2 b' hp hw hd
    exact ⟨c, d, rfl, rfl⟩
  · rw [a] at a'; cases a'
  · rw [a] at a'; cases a'
  · exact ⟨hp, rfl, rfl, rfl⟩
end
end Go.Proofs.YtobmcpoejhhemaaGreat

namespace Go.E
open Go

/-- A slice that shows a list: nil, or in a known block. -/
def Vw {α : Type} (E : Enc α) (p : Option Addr) (c : Nat) (l : List α) (A : Mem) : Prop :=
  (p = none ∧ c = 0 ∧ l = []) ∨ ∃ b off cur e fz, p = some ⟨b, off, none⟩ ∧ (b, Obj.cells cur e fz) ∈ A ∧ Holds E cur off l
theorem OwnL.vw {α : Type} {E : Enc α} {e : TypeId} {p : Option Addr} {cap : Nat} {l : List α} {A : Mem} (h : OwnL E e p cap l A) : Vw E p cap l A := by
  rcases h.cases with ⟨rfl, rfl, rfl, _⟩ | ⟨b, cur, rfl, rfl, _, _, _, hh⟩
  · exact .inl ⟨rfl, rfl, rfl⟩
  · exact .inr ⟨b, 0, cur, e, (0, 0), rfl, List.mem_singleton.2 rfl, hh⟩
/-- The pointer of a slice's end. -/
def dropP (p : Option Addr) (cap h sz : Nat) : Option Addr := if cap = h then p else p.map (·.add (h * sz))
theorem OwnL.vwDrop {α : Type} {E : Enc α} {e : TypeId} {p : Option Addr} {cap h sz : Nat} {l : List α} {A : Mem} (ho : OwnL E e p cap l A) (hl : h ≤ l.length) (hz : sz = E.n) : Vw E (dropP p cap h sz) (cap - h) (l.drop h) A := by
  subst hz
  rcases ho.cases with ⟨rfl, rfl, rfl, _⟩ | ⟨b, cur, rfl, rfl, h1, _, _, hh⟩
  · refine .inl ⟨by unfold dropP; split <;> rfl, by omega, by simp⟩
  · by_cases hc : cap = h
    · refine .inr ⟨b, 0, cur, e, (0, 0), by unfold dropP; rw [if_pos hc], List.mem_singleton.2 rfl, ?_⟩
      rw [List.drop_eq_nil_of_le (by omega)]
      unfold Holds
      simp [Enc.flat_nil]
    · refine .inr ⟨b, 0 + h * E.n, cur, e, (0, 0), ?_, List.mem_singleton.2 rfl, ?_⟩
      · unfold dropP
        rw [if_neg hc]
        have : (⟨b, 0, none⟩ : Addr).add (h * E.n) = ⟨b, 0 + h * E.n, none⟩ := by unfold Addr.add; split <;> simp_all
        rw [Option.map_some, this]
      · unfold Holds at hh ⊢
        rw [List.drop_zero] at hh
        rw [Nat.zero_add, ← Enc.flat_drop, ← hh, List.drop_take, List.length_drop, Nat.sub_mul]
theorem OwnL.len_cap {α : Type} {E : Enc α} {e : TypeId} {p : Option Addr} {cap : Nat} {l : List α} {A : Mem} (ho : OwnL E e p cap l A) : l.length ≤ cap := by
  rcases ho.cases with ⟨_, _, rfl, _⟩ | ⟨_, _, _, _, h, _⟩
  · exact Nat.zero_le _
  · exact h
/-- An owned slice's end. -/
theorem qv_dropO {P : Program} {fr : Fr} {M : Mem} {ty : TypeId} {α : Type} {E : Enc α} {t e e' : TypeId} {x y : Operand} {p : Option Addr} {len cap h sz : Nat} {k : IntKind} {i : Int} {l : List α} {A : Mem} (ho : OwnL E e' p cap l A) (ht : P.underlying t = some (.slice e)) (hz : Siz P e sz)
    (hx : evo fr x = some (.slice p len cap)) (hl : len = l.length) (hy : evo fr y = some (.int k i)) (hi : i = (h : Int)) (h2 : h ≤ l.length) : QV P (.slice t x (some y) none none) ty fr M (.slice (dropP p cap h sz) (l.drop h).length (cap - h)) := by
  have hc := ho.len_cap
  have := qv_slS (M := M) (ty := ty) (h := len) ht hz hx (bd_some hy hi) (hi := none) rfl (by omega) (by omega)
  rw [List.length_drop, ← hl]
  exact this
/-- append of a list that is shown. -/
theorem os_appendV {α : Type} {E : Enc α} {X : Cx} {ty t e : TypeId} {bytes : Nat} {x y : Operand} {p p2 : Option Addr} {cap c d m k : Nat} {l l2 : List α} {ds : List Deferred} {fr : Fr} {M A A2 B : Mem} {K : S → Prop} (hd : Nat.blt d X.n = true)
    (ht : ElT X.P t e E.n bytes) (hx : evo fr x = some (.slice p k cap)) (hk : k = l.length) (hy : evo fr y = some (.slice p2 m c)) (hm : m = l2.length) (ho : OwnL E e p cap l A) (hs : Sel M A B) (ho2 : Vw E p2 c l2 A2) (hin : ∀ q ∈ A2, q ∈ M)
    (h1 : ∀ a, ∀ u ∈ (E.c a).toList, u.oneCell' = true) (h63 : l.length + l2.length ≤ maxLen) (hby : (l.length + l2.length) * bytes ≤ 140737488355328)
    (h : ∀ p' cap' A', OwnL E e p' cap' (l ++ l2) A' → K ⟨ds, (d, .slice p' (l ++ l2).length cap') :: fr, A' ++ B⟩) :
    OpS X (.call { callee := .builtin .append, args := #[x, y], argTypes := #[t, t] }) ty (some d) ⟨ds, fr, M⟩ K := by
  rcases ho2 with ⟨rfl, rfl, rfl⟩ | ⟨b, off, cur, e2, fz, rfl, hmem, hh⟩
  · exact os_appendO (e2 := e) hd ht hx hk hy hm ho hs (OwnL.nil (e := e)) (fun q hq => absurd hq List.not_mem_nil) h1 h63 hby h
  · exact os_appendK hd ht hx hk hy hm ho hs (At.of_mem (hin _ hmem)) hh h1 h63 hby h
end Go.E

namespace Go.Proofs.YtobmcpoejhhemaaGreat
open Go.E

/-- What holds of the document's flows. -/
structure RI (bd : Bnd) (g : List Rec) : Prop where
  sort : SortR g
  wf : ∀ r ∈ g, WfR r
  le : (g.length : Int) ≤ bd.flows
  bw : bd.Wf
  most : bd.flows ≤ 4096
  least : 1 ≤ bd.flows
def rcO (br : Nat) (tick : Int) (bd : Bnd) (p : Option Addr) (n c : Nat) : Nat × Obj := (br, .cells (⟨tick, bd, .slice p n c⟩ : RCac).c 87 (0, 0))
/-- The document's cache in memory. -/
def RcM (br : Nat) (tick : Int) (bd : Bnd) (g : List Rec) (M : Mem) : Prop := ∃ p c A, RI bd g ∧ OwnL eRec 100 p c g A ∧ M = rcO br tick bd p g.length c :: A
theorem RI.cut {bd : Bnd} {g : List Rec} (h : RI bd g) (i : Nat) : RI bd (cutAt g i) :=
  ⟨cutAt_sort h.sort, fun r hr => h.wf r (cutAt_sub.subset hr), by have := cutAt_sub (g := g) (i := i) |>.length_le; have := h.le; omega, h.bw, h.most, h.least⟩
theorem RI.nil {bd : Bnd} (hb : bd.Wf) (h : okBnd bd = true) : RI bd [] := by
  unfold okBnd at h
  simp only [Bool.and_eq_true, decide_eq_true_eq] at h
  exact ⟨SortR.nil, fun r hr => absurd hr List.not_mem_nil, by simp; omega, hb, by omega, by omega⟩
theorem RI.empty {bd : Bnd} {g : List Rec} (h : RI bd g) : RI bd [] := ⟨SortR.nil, fun r hr => absurd hr List.not_mem_nil, by have := h.least; simp; omega, h.bw, h.most, h.least⟩
theorem RcM.ri {br : Nat} {tick : Int} {bd : Bnd} {g : List Rec} {M : Mem} (h : RcM br tick bd g M) : RI bd g := by
  obtain ⟨_, _, _, h, _⟩ := h
  exact h
theorem pu_docBounds (b : Bnd) : Pu Tryz.prog 12 [.agg b.c] (.agg b.c) := by
  refine ct_body (rv := [.cell 2 50]) [(0, _)] Tryz.func12 (by kernel_rfl) Tryz.ntmps12 Tryz.results12 rfl rfl (fun w0 => ?_)
  refine p_seq0 ?_
  refine p_plain0 (0 :: 1 :: []) ?_
  refine go_s0 (some 1) (.box 36 (.tmp 0)) 0 ?_
  refine os_boxA rfl rfl (fun b1 => ?_)
  refine go_s0 (some 2) (.alloc 50) 0 ?_
  refine os_allocA rfl ze50 (fun b2 => ?_)
  refine go_nil ?_
  change G _ _ _ _
  refine p_weaken [1, 2] rfl ?_
  refine p_seq0 ?_
  refine p_plain0 (0 :: 1 :: 2 :: 3 :: 4 :: 5 :: 6 :: 7 :: 8 :: 9 :: 10 :: 11 :: []) ?_
  refine go_q0 3 (.fieldAddr 36 (.tmp 1) 0) 0 (qv_field rfl fd36_0) ?_
  refine go_q0 4 (.load 3 (.tmp 3)) 3 (qv_load rfl .auto (ldv_sca sc3 (get_Bnd_0 _))) ?_
  refine go_q0 5 (.fieldAddr 36 (.tmp 1) 1) 0 (qv_field rfl fd36_1) ?_
  refine go_q0 6 (.load 23 (.tmp 5)) 23 (qv_load rfl .auto (ldv_sca sc23 (get_Bnd_1 _))) ?_
  refine go_q0 7 (.fieldAddr 36 (.tmp 1) 2) 0 (qv_field rfl fd36_2) ?_
  refine go_q0 8 (.load 23 (.tmp 7)) 23 (qv_load rfl .auto (ldv_sca sc23 (get_Bnd_2 _))) ?_
  refine go_q0 9 (.fieldAddr 36 (.tmp 1) 3) 0 (qv_field rfl fd36_3) ?_
  refine go_q0 10 (.load 23 (.tmp 9)) 23 (qv_load rfl .auto (ldv_sca sc23 (get_Bnd_3 _))) ?_
  refine go_q0 11 (.fieldAddr 36 (.tmp 1) 4) 0 (qv_field rfl fd36_4) ?_
  refine go_q0 12 (.load 23 (.tmp 11)) 23 (qv_load rfl .auto (ldv_sca sc23 (get_Bnd_4 _))) ?_
  refine go_q0 13 (.build 50 #[(0, .tmp 4), (1, .tmp 6), (2, .tmp 8), (3, .tmp 10), (4, .tmp 12)]) 50 (qv_build rfl (bld50_0_1_2_3_4 _ _ _ _ _)) ?_
  refine go_s0 none (.store 50 (.tmp 2) (.tmp 13)) 0 ?_
  refine os_store rfl rfl sz50 rfl (one_Bnd _) .auto (Nat.le_of_ble_eq_true rfl) (splw_Bnd _ _ (siz_Bnd _)) ?_
  refine go_nil ?_
  change G _ _ _ _
  refine p_weaken [2] rfl ?_
  refine p_ret0 ?_
  try dsimp only [thenQ, inBlockQ]
  try rw [if_pos rfl]
  refine ret_now (.inr rfl) (.cons (res_cell rfl (At.mem .auto) (ldv_agg agg50 (extw_Bnd _) (Nat.le_of_ble_eq_true rfl))) .nil) (by repeat constructor) ?_
  exact ⟨rfl, rfl⟩
theorem pu_rNewBad (tick : Int) (b : Bnd) (h : okBnd b = false) : Pu Tryz.prog 11 [.int .u64 tick, .agg b.c] (.tuple #[.pointer none, .int .i64 2]) := by
  refine ct_body (rv := [.tmp 4, .tmp 5]) [(0, _), (1, _)] Tryz.func11 (by kernel_rfl) Tryz.ntmps11 Tryz.results11 rfl rfl (fun w0 => ?_)
  refine p_seq0 ?_
  refine p_plain0 (0 :: 1 :: 2 :: []) ?_
  refine go_s0 (some 3) (.box 50 (.tmp 1)) 0 ?_
  refine os_boxA rfl rfl (fun b3 => ?_)
  refine go_q0 4 (.assign (.const (.pointer none))) 47 (qv_assign rfl) ?_
  refine go_q0 5 (.assign (.const (.int .i64 0))) 44 (qv_assign rfl) ?_
  refine go_nil ?_
  change G _ _ _ _
  refine p_weaken [0, 3, 4, 5] rfl ?_
  refine p_seq0 ?_
  refine p_seq0 ?_
  refine p_plain0 (0 :: 1 :: 2 :: 3 :: 4 :: 5 :: 6 :: 7 :: 8 :: 9 :: 10 :: 11 :: 12 :: 13 :: 14 :: 15 :: 16 :: 17 :: 18 :: 19 :: 20 :: 21 :: 22 :: 23 :: 24 :: 25 :: 26 :: 27 :: []) ?_
  refine go_q0 6 (.fieldAddr 50 (.tmp 3) 0) 0 (qv_field rfl fd50_0) ?_
  refine go_q0 7 (.load 3 (.tmp 6)) 3 (qv_load rfl .auto (ldv_sca sc3 (get_Bnd_0 _))) ?_
  refine go_q0 8 (.binOp .lss 3 (.tmp 7) (.const (.int .i64 1)) 3) 4 (qv_lss rfl rfl rfl) ?_
  refine go_q0 9 (.move (.tmp 8)) 4 (qv_move rfl) ?_
  refine go_case (d := 9) rfl (fun g9 => ?_) (fun g9 => ?_)
  · replace g9 := kn g9
    refine go_n (d := 10) (op := .fieldAddr 50 (.tmp 3) 0) (ty := 0) (g := some (3, false)) (by kernel_rfl) ⟨9, _, by kernel_rfl, rfl, rfl⟩ rfl ?_
    refine go_n (d := 11) (op := .load 3 (.tmp 10)) (ty := 3) (g := some (3, false)) (by kernel_rfl) ⟨9, _, by kernel_rfl, rfl, rfl⟩ rfl ?_
    refine go_n (d := 12) (op := .binOp .gtr 3 (.tmp 11) (.const (.int .i64 4096)) 3) (ty := 4) (g := some (3, false)) (by kernel_rfl) ⟨9, _, by kernel_rfl, rfl, rfl⟩ rfl ?_
    refine go_q0 13 (.pick (.tmp 9) (.const (.bool true)) (.tmp 12)) 4 (qv_pick_t rfl rfl) ?_
    refine go_q0 14 (.move (.tmp 13)) 4 (qv_move rfl) ?_
    refine go_n (d := 15) (op := .fieldAddr 50 (.tmp 3) 1) (ty := 0) (g := some (8, false)) (by kernel_rfl) ⟨14, _, by kernel_rfl, rfl, rfl⟩ rfl ?_
    refine go_n (d := 16) (op := .load 23 (.tmp 15)) (ty := 23) (g := some (8, false)) (by kernel_rfl) ⟨14, _, by kernel_rfl, rfl, rfl⟩ rfl ?_
    refine go_n (d := 17) (op := .binOp .eql 23 (.tmp 16) (.const (.int .u64 0)) 23) (ty := 4) (g := some (8, false)) (by kernel_rfl) ⟨14, _, by kernel_rfl, rfl, rfl⟩ rfl ?_
    refine go_q0 18 (.pick (.tmp 14) (.const (.bool true)) (.tmp 17)) 4 (qv_pick_t rfl rfl) ?_
    refine go_q0 19 (.move (.tmp 18)) 4 (qv_move rfl) ?_
    refine go_n (d := 20) (op := .fieldAddr 50 (.tmp 3) 2) (ty := 0) (g := some (13, false)) (by kernel_rfl) ⟨19, _, by kernel_rfl, rfl, rfl⟩ rfl ?_
    refine go_n (d := 21) (op := .load 23 (.tmp 20)) (ty := 23) (g := some (13, false)) (by kernel_rfl) ⟨19, _, by kernel_rfl, rfl, rfl⟩ rfl ?_
    refine go_n (d := 22) (op := .binOp .eql 23 (.tmp 21) (.const (.int .u64 0)) 23) (ty := 4) (g := some (13, false)) (by kernel_rfl) ⟨19, _, by kernel_rfl, rfl, rfl⟩ rfl ?_
    refine go_q0 23 (.pick (.tmp 19) (.const (.bool true)) (.tmp 22)) 4 (qv_pick_t rfl rfl) ?_
    refine go_q0 24 (.move (.tmp 23)) 4 (qv_move rfl) ?_
    refine go_n (d := 25) (op := .fieldAddr 50 (.tmp 3) 3) (ty := 0) (g := some (18, false)) (by kernel_rfl) ⟨24, _, by kernel_rfl, rfl, rfl⟩ rfl ?_
    refine go_n (d := 26) (op := .load 23 (.tmp 25)) (ty := 23) (g := some (18, false)) (by kernel_rfl) ⟨24, _, by kernel_rfl, rfl, rfl⟩ rfl ?_
    refine go_n (d := 27) (op := .binOp .eql 23 (.tmp 26) (.const (.int .u64 0)) 23) (ty := 4) (g := some (18, false)) (by kernel_rfl) ⟨24, _, by kernel_rfl, rfl, rfl⟩ rfl ?_
    refine go_q0 28 (.pick (.tmp 24) (.const (.bool true)) (.tmp 27)) 4 (qv_pick_t rfl rfl) ?_
    refine go_q0 29 (.move (.tmp 28)) 4 (qv_move rfl) ?_
    refine go_n (d := 30) (op := .fieldAddr 50 (.tmp 3) 4) (ty := 0) (g := some (23, false)) (by kernel_rfl) ⟨29, _, by kernel_rfl, rfl, rfl⟩ rfl ?_
    refine go_n (d := 31) (op := .load 23 (.tmp 30)) (ty := 23) (g := some (23, false)) (by kernel_rfl) ⟨29, _, by kernel_rfl, rfl, rfl⟩ rfl ?_
    refine go_n (d := 32) (op := .binOp .eql 23 (.tmp 31) (.const (.int .u64 0)) 23) (ty := 4) (g := some (23, false)) (by kernel_rfl) ⟨29, _, by kernel_rfl, rfl, rfl⟩ rfl ?_
    refine go_q0 33 (.pick (.tmp 29) (.const (.bool true)) (.tmp 32)) 4 (qv_pick_t rfl rfl) ?_
    refine go_nil ?_
    change G _ _ _ _
    refine p_weaken [0, 3, 4, 5, 33] rfl ?_
    refine p_condT (.tmp 33) (by kernel_rfl) rfl ?_
    refine p_seq0 ?_
    refine p_plain0 (0 :: 1 :: []) ?_
    refine go_q0 4 (.assign (.const (.pointer none))) 47 (qv_assign rfl) ?_
    refine go_q0 5 (.assign (.const (.int .i64 2))) 44 (qv_assign rfl) ?_
    refine go_nil ?_
    change G _ _ _ _
    refine p_weaken [0, 3, 4, 5] rfl ?_
    refine p_ret0 ?_
    try dsimp only [thenQ, inBlockQ]
    try rw [if_pos rfl]
    refine ret_now (.inr rfl) (.cons (res_tmp rfl) (.cons (res_tmp rfl) .nil)) (by repeat constructor) ?_
    exact ⟨rfl, rfl⟩
  replace g9 := kn g9
  refine go_q (d := 10) (op := .fieldAddr 50 (.tmp 3) 0) (ty := 0) (g := some (3, false)) (by kernel_rfl) ⟨9, by kernel_rfl, rfl⟩ rfl (qv_field rfl fd50_0) ?_
  refine go_q (d := 11) (op := .load 3 (.tmp 10)) (ty := 3) (g := some (3, false)) (by kernel_rfl) ⟨9, by kernel_rfl, rfl⟩ rfl (qv_load rfl .auto (ldv_sca sc3 (get_Bnd_0 _))) ?_
  refine go_q (d := 12) (op := .binOp .gtr 3 (.tmp 11) (.const (.int .i64 4096)) 3) (ty := 4) (g := some (3, false)) (by kernel_rfl) ⟨9, by kernel_rfl, rfl⟩ rfl (qv_gtr rfl rfl rfl) ?_
  refine go_q0 13 (.pick (.tmp 9) (.const (.bool true)) (.tmp 12)) 4 (qv_pick_f rfl rfl) ?_
  refine go_q0 14 (.move (.tmp 13)) 4 (qv_move rfl) ?_
  refine go_case (d := 14) rfl (fun g14 => ?_) (fun g14 => ?_)
  · replace g14 := kn g14
    refine go_n (d := 15) (op := .fieldAddr 50 (.tmp 3) 1) (ty := 0) (g := some (8, false)) (by kernel_rfl) ⟨14, _, by kernel_rfl, rfl, rfl⟩ rfl ?_
    refine go_n (d := 16) (op := .load 23 (.tmp 15)) (ty := 23) (g := some (8, false)) (by kernel_rfl) ⟨14, _, by kernel_rfl, rfl, rfl⟩ rfl ?_
    refine go_n (d := 17) (op := .binOp .eql 23 (.tmp 16) (.const (.int .u64 0)) 23) (ty := 4) (g := some (8, false)) (by kernel_rfl) ⟨14, _, by kernel_rfl, rfl, rfl⟩ rfl ?_
    refine go_q0 18 (.pick (.tmp 14) (.const (.bool true)) (.tmp 17)) 4 (qv_pick_t rfl rfl) ?_
    refine go_q0 19 (.move (.tmp 18)) 4 (qv_move rfl) ?_
    refine go_n (d := 20) (op := .fieldAddr 50 (.tmp 3) 2) (ty := 0) (g := some (13, false)) (by kernel_rfl) ⟨19, _, by kernel_rfl, rfl, rfl⟩ rfl ?_
    refine go_n (d := 21) (op := .load 23 (.tmp 20)) (ty := 23) (g := some (13, false)) (by kernel_rfl) ⟨19, _, by kernel_rfl, rfl, rfl⟩ rfl ?_
    refine go_n (d := 22) (op := .binOp .eql 23 (.tmp 21) (.const (.int .u64 0)) 23) (ty := 4) (g := some (13, false)) (by kernel_rfl) ⟨19, _, by kernel_rfl, rfl, rfl⟩ rfl ?_
    refine go_q0 23 (.pick (.tmp 19) (.const (.bool true)) (.tmp 22)) 4 (qv_pick_t rfl rfl) ?_
    refine go_q0 24 (.move (.tmp 23)) 4 (qv_move rfl) ?_
    refine go_n (d := 25) (op := .fieldAddr 50 (.tmp 3) 3) (ty := 0) (g := some (18, false)) (by kernel_rfl) ⟨24, _, by kernel_rfl, rfl, rfl⟩ rfl ?_
    refine go_n (d := 26) (op := .load 23 (.tmp 25)) (ty := 23) (g := some (18, false)) (by kernel_rfl) ⟨24, _, by kernel_rfl, rfl, rfl⟩ rfl ?_
    refine go_n (d := 27) (op := .binOp .eql 23 (.tmp 26) (.const (.int .u64 0)) 23) (ty := 4) (g := some (18, false)) (by kernel_rfl) ⟨24, _, by kernel_rfl, rfl, rfl⟩ rfl ?_
    refine go_q0 28 (.pick (.tmp 24) (.const (.bool true)) (.tmp 27)) 4 (qv_pick_t rfl rfl) ?_
    refine go_q0 29 (.move (.tmp 28)) 4 (qv_move rfl) ?_
    refine go_n (d := 30) (op := .fieldAddr 50 (.tmp 3) 4) (ty := 0) (g := some (23, false)) (by kernel_rfl) ⟨29, _, by kernel_rfl, rfl, rfl⟩ rfl ?_
    refine go_n (d := 31) (op := .load 23 (.tmp 30)) (ty := 23) (g := some (23, false)) (by kernel_rfl) ⟨29, _, by kernel_rfl, rfl, rfl⟩ rfl ?_
    refine go_n (d := 32) (op := .binOp .eql 23 (.tmp 31) (.const (.int .u64 0)) 23) (ty := 4) (g := some (23, false)) (by kernel_rfl) ⟨29, _, by kernel_rfl, rfl, rfl⟩ rfl ?_
    refine go_q0 33 (.pick (.tmp 29) (.const (.bool true)) (.tmp 32)) 4 (qv_pick_t rfl rfl) ?_
    refine go_nil ?_
    change G _ _ _ _
    refine p_weaken [0, 3, 4, 5, 33] rfl ?_
    refine p_condT (.tmp 33) (by kernel_rfl) rfl ?_
    refine p_seq0 ?_
    refine p_plain0 (0 :: 1 :: []) ?_
    refine go_q0 4 (.assign (.const (.pointer none))) 47 (qv_assign rfl) ?_
    refine go_q0 5 (.assign (.const (.int .i64 2))) 44 (qv_assign rfl) ?_
    refine go_nil ?_
    change G _ _ _ _
    refine p_weaken [0, 3, 4, 5] rfl ?_
    refine p_ret0 ?_
    try dsimp only [thenQ, inBlockQ]
    try rw [if_pos rfl]
    refine ret_now (.inr rfl) (.cons (res_tmp rfl) (.cons (res_tmp rfl) .nil)) (by repeat constructor) ?_
    exact ⟨rfl, rfl⟩
  replace g14 := kn g14
  refine go_q (d := 15) (op := .fieldAddr 50 (.tmp 3) 1) (ty := 0) (g := some (8, false)) (by kernel_rfl) ⟨14, by kernel_rfl, rfl⟩ rfl (qv_field rfl fd50_1) ?_
  refine go_q (d := 16) (op := .load 23 (.tmp 15)) (ty := 23) (g := some (8, false)) (by kernel_rfl) ⟨14, by kernel_rfl, rfl⟩ rfl (qv_load rfl .auto (ldv_sca sc23 (get_Bnd_1 _))) ?_
  refine go_q (d := 17) (op := .binOp .eql 23 (.tmp 16) (.const (.int .u64 0)) 23) (ty := 4) (g := some (8, false)) (by kernel_rfl) ⟨14, by kernel_rfl, rfl⟩ rfl (qv_eql rfl rfl rfl) ?_
  refine go_q0 18 (.pick (.tmp 14) (.const (.bool true)) (.tmp 17)) 4 (qv_pick_f rfl rfl) ?_
  refine go_q0 19 (.move (.tmp 18)) 4 (qv_move rfl) ?_
  refine go_case (d := 19) rfl (fun g19 => ?_) (fun g19 => ?_)
  · replace g19 := kn g19
    refine go_n (d := 20) (op := .fieldAddr 50 (.tmp 3) 2) (ty := 0) (g := some (13, false)) (by kernel_rfl) ⟨19, _, by kernel_rfl, rfl, rfl⟩ rfl ?_
    refine go_n (d := 21) (op := .load 23 (.tmp 20)) (ty := 23) (g := some (13, false)) (by kernel_rfl) ⟨19, _, by kernel_rfl, rfl, rfl⟩ rfl ?_
    refine go_n (d := 22) (op := .binOp .eql 23 (.tmp 21) (.const (.int .u64 0)) 23) (ty := 4) (g := some (13, false)) (by kernel_rfl) ⟨19, _, by kernel_rfl, rfl, rfl⟩ rfl ?_
    refine go_q0 23 (.pick (.tmp 19) (.const (.bool true)) (.tmp 22)) 4 (qv_pick_t rfl rfl) ?_
    refine go_q0 24 (.move (.tmp 23)) 4 (qv_move rfl) ?_
    refine go_n (d := 25) (op := .fieldAddr 50 (.tmp 3) 3) (ty := 0) (g := some (18, false)) (by kernel_rfl) ⟨24, _, by kernel_rfl, rfl, rfl⟩ rfl ?_
    refine go_n (d := 26) (op := .load 23 (.tmp 25)) (ty := 23) (g := some (18, false)) (by kernel_rfl) ⟨24, _, by kernel_rfl, rfl, rfl⟩ rfl ?_
    refine go_n (d := 27) (op := .binOp .eql 23 (.tmp 26) (.const (.int .u64 0)) 23) (ty := 4) (g := some (18, false)) (by kernel_rfl) ⟨24, _, by kernel_rfl, rfl, rfl⟩ rfl ?_
    refine go_q0 28 (.pick (.tmp 24) (.const (.bool true)) (.tmp 27)) 4 (qv_pick_t rfl rfl) ?_
    refine go_q0 29 (.move (.tmp 28)) 4 (qv_move rfl) ?_
    refine go_n (d := 30) (op := .fieldAddr 50 (.tmp 3) 4) (ty := 0) (g := some (23, false)) (by kernel_rfl) ⟨29, _, by kernel_rfl, rfl, rfl⟩ rfl ?_
    refine go_n (d := 31) (op := .load 23 (.tmp 30)) (ty := 23) (g := some (23, false)) (by kernel_rfl) ⟨29, _, by kernel_rfl, rfl, rfl⟩ rfl ?_
    refine go_n (d := 32) (op := .binOp .eql 23 (.tmp 31) (.const (.int .u64 0)) 23) (ty := 4) (g := some (23, false)) (by kernel_rfl) ⟨29, _, by kernel_rfl, rfl, rfl⟩ rfl ?_
    refine go_q0 33 (.pick (.tmp 29) (.const (.bool true)) (.tmp 32)) 4 (qv_pick_t rfl rfl) ?_
    refine go_nil ?_
    change G _ _ _ _
    refine p_weaken [0, 3, 4, 5, 33] rfl ?_
    refine p_condT (.tmp 33) (by kernel_rfl) rfl ?_
    refine p_seq0 ?_
    refine p_plain0 (0 :: 1 :: []) ?_
    refine go_q0 4 (.assign (.const (.pointer none))) 47 (qv_assign rfl) ?_
    refine go_q0 5 (.assign (.const (.int .i64 2))) 44 (qv_assign rfl) ?_
    refine go_nil ?_
    change G _ _ _ _
    refine p_weaken [0, 3, 4, 5] rfl ?_
    refine p_ret0 ?_
    try dsimp only [thenQ, inBlockQ]
    try rw [if_pos rfl]
    refine ret_now (.inr rfl) (.cons (res_tmp rfl) (.cons (res_tmp rfl) .nil)) (by repeat constructor) ?_
    exact ⟨rfl, rfl⟩
  replace g19 := kn g19
  refine go_q (d := 20) (op := .fieldAddr 50 (.tmp 3) 2) (ty := 0) (g := some (13, false)) (by kernel_rfl) ⟨19, by kernel_rfl, rfl⟩ rfl (qv_field rfl fd50_2) ?_
  refine go_q (d := 21) (op := .load 23 (.tmp 20)) (ty := 23) (g := some (13, false)) (by kernel_rfl) ⟨19, by kernel_rfl, rfl⟩ rfl (qv_load rfl .auto (ldv_sca sc23 (get_Bnd_2 _))) ?_
  refine go_q (d := 22) (op := .binOp .eql 23 (.tmp 21) (.const (.int .u64 0)) 23) (ty := 4) (g := some (13, false)) (by kernel_rfl) ⟨19, by kernel_rfl, rfl⟩ rfl (qv_eql rfl rfl rfl) ?_
  refine go_q0 23 (.pick (.tmp 19) (.const (.bool true)) (.tmp 22)) 4 (qv_pick_f rfl rfl) ?_
  refine go_q0 24 (.move (.tmp 23)) 4 (qv_move rfl) ?_
  refine go_case (d := 24) rfl (fun g24 => ?_) (fun g24 => ?_)
  · replace g24 := kn g24
    refine go_n (d := 25) (op := .fieldAddr 50 (.tmp 3) 3) (ty := 0) (g := some (18, false)) (by kernel_rfl) ⟨24, _, by kernel_rfl, rfl, rfl⟩ rfl ?_
    refine go_n (d := 26) (op := .load 23 (.tmp 25)) (ty := 23) (g := some (18, false)) (by kernel_rfl) ⟨24, _, by kernel_rfl, rfl, rfl⟩ rfl ?_
    refine go_n (d := 27) (op := .binOp .eql 23 (.tmp 26) (.const (.int .u64 0)) 23) (ty := 4) (g := some (18, false)) (by kernel_rfl) ⟨24, _, by kernel_rfl, rfl, rfl⟩ rfl ?_
    refine go_q0 28 (.pick (.tmp 24) (.const (.bool true)) (.tmp 27)) 4 (qv_pick_t rfl rfl) ?_
    refine go_q0 29 (.move (.tmp 28)) 4 (qv_move rfl) ?_
    refine go_n (d := 30) (op := .fieldAddr 50 (.tmp 3) 4) (ty := 0) (g := some (23, false)) (by kernel_rfl) ⟨29, _, by kernel_rfl, rfl, rfl⟩ rfl ?_
    refine go_n (d := 31) (op := .load 23 (.tmp 30)) (ty := 23) (g := some (23, false)) (by kernel_rfl) ⟨29, _, by kernel_rfl, rfl, rfl⟩ rfl ?_
    refine go_n (d := 32) (op := .binOp .eql 23 (.tmp 31) (.const (.int .u64 0)) 23) (ty := 4) (g := some (23, false)) (by kernel_rfl) ⟨29, _, by kernel_rfl, rfl, rfl⟩ rfl ?_
    refine go_q0 33 (.pick (.tmp 29) (.const (.bool true)) (.tmp 32)) 4 (qv_pick_t rfl rfl) ?_
    refine go_nil ?_
    change G _ _ _ _
    refine p_weaken [0, 3, 4, 5, 33] rfl ?_
    refine p_condT (.tmp 33) (by kernel_rfl) rfl ?_
    refine p_seq0 ?_
    refine p_plain0 (0 :: 1 :: []) ?_
    refine go_q0 4 (.assign (.const (.pointer none))) 47 (qv_assign rfl) ?_
    refine go_q0 5 (.assign (.const (.int .i64 2))) 44 (qv_assign rfl) ?_
    refine go_nil ?_
    change G _ _ _ _
    refine p_weaken [0, 3, 4, 5] rfl ?_
    refine p_ret0 ?_
    try dsimp only [thenQ, inBlockQ]
    try rw [if_pos rfl]
    refine ret_now (.inr rfl) (.cons (res_tmp rfl) (.cons (res_tmp rfl) .nil)) (by repeat constructor) ?_
    exact ⟨rfl, rfl⟩
  replace g24 := kn g24
  refine go_q (d := 25) (op := .fieldAddr 50 (.tmp 3) 3) (ty := 0) (g := some (18, false)) (by kernel_rfl) ⟨24, by kernel_rfl, rfl⟩ rfl (qv_field rfl fd50_3) ?_
  refine go_q (d := 26) (op := .load 23 (.tmp 25)) (ty := 23) (g := some (18, false)) (by kernel_rfl) ⟨24, by kernel_rfl, rfl⟩ rfl (qv_load rfl .auto (ldv_sca sc23 (get_Bnd_3 _))) ?_
  refine go_q (d := 27) (op := .binOp .eql 23 (.tmp 26) (.const (.int .u64 0)) 23) (ty := 4) (g := some (18, false)) (by kernel_rfl) ⟨24, by kernel_rfl, rfl⟩ rfl (qv_eql rfl rfl rfl) ?_
  refine go_q0 28 (.pick (.tmp 24) (.const (.bool true)) (.tmp 27)) 4 (qv_pick_f rfl rfl) ?_
  refine go_q0 29 (.move (.tmp 28)) 4 (qv_move rfl) ?_
  refine go_case (d := 29) rfl (fun g29 => ?_) (fun g29 => ?_)
  · replace g29 := kn g29
    refine go_n (d := 30) (op := .fieldAddr 50 (.tmp 3) 4) (ty := 0) (g := some (23, false)) (by kernel_rfl) ⟨29, _, by kernel_rfl, rfl, rfl⟩ rfl ?_
    refine go_n (d := 31) (op := .load 23 (.tmp 30)) (ty := 23) (g := some (23, false)) (by kernel_rfl) ⟨29, _, by kernel_rfl, rfl, rfl⟩ rfl ?_
    refine go_n (d := 32) (op := .binOp .eql 23 (.tmp 31) (.const (.int .u64 0)) 23) (ty := 4) (g := some (23, false)) (by kernel_rfl) ⟨29, _, by kernel_rfl, rfl, rfl⟩ rfl ?_
    refine go_q0 33 (.pick (.tmp 29) (.const (.bool true)) (.tmp 32)) 4 (qv_pick_t rfl rfl) ?_
    refine go_nil ?_
    change G _ _ _ _
    refine p_weaken [0, 3, 4, 5, 33] rfl ?_
    refine p_condT (.tmp 33) (by kernel_rfl) rfl ?_
    refine p_seq0 ?_
    refine p_plain0 (0 :: 1 :: []) ?_
    refine go_q0 4 (.assign (.const (.pointer none))) 47 (qv_assign rfl) ?_
    refine go_q0 5 (.assign (.const (.int .i64 2))) 44 (qv_assign rfl) ?_
    refine go_nil ?_
    change G _ _ _ _
    refine p_weaken [0, 3, 4, 5] rfl ?_
    refine p_ret0 ?_
    try dsimp only [thenQ, inBlockQ]
    try rw [if_pos rfl]
    refine ret_now (.inr rfl) (.cons (res_tmp rfl) (.cons (res_tmp rfl) .nil)) (by repeat constructor) ?_
    exact ⟨rfl, rfl⟩
  replace g29 := kn g29
  refine go_q (d := 30) (op := .fieldAddr 50 (.tmp 3) 4) (ty := 0) (g := some (23, false)) (by kernel_rfl) ⟨29, by kernel_rfl, rfl⟩ rfl (qv_field rfl fd50_4) ?_
  refine go_q (d := 31) (op := .load 23 (.tmp 30)) (ty := 23) (g := some (23, false)) (by kernel_rfl) ⟨29, by kernel_rfl, rfl⟩ rfl (qv_load rfl .auto (ldv_sca sc23 (get_Bnd_4 _))) ?_
  refine go_q (d := 32) (op := .binOp .eql 23 (.tmp 31) (.const (.int .u64 0)) 23) (ty := 4) (g := some (23, false)) (by kernel_rfl) ⟨29, by kernel_rfl, rfl⟩ rfl (qv_eql rfl rfl rfl) ?_
  refine go_q0 33 (.pick (.tmp 29) (.const (.bool true)) (.tmp 32)) 4 (qv_pick_f rfl rfl) ?_
  refine go_nil ?_
  change G _ _ _ _
  refine p_weaken [0, 3, 4, 5, 33] rfl ?_
  refine p_cond (.tmp 33) (by kernel_rfl) rfl (fun h33 => ?_) (fun h33 => ?_)
  rotate_left
  · replace h33 := kn h33
    exfalso
    rw [show okBnd b = true by unfold okBnd; simp [*]; omega] at h
    cases h
  replace h33 := kn h33
  refine p_seq0 ?_
  refine p_plain0 (0 :: 1 :: []) ?_
  refine go_q0 4 (.assign (.const (.pointer none))) 47 (qv_assign rfl) ?_
  refine go_q0 5 (.assign (.const (.int .i64 2))) 44 (qv_assign rfl) ?_
  refine go_nil ?_
  change G _ _ _ _
  refine p_weaken [0, 3, 4, 5] rfl ?_
  refine p_ret0 ?_
  try dsimp only [thenQ, inBlockQ]
  try rw [if_pos rfl]
  refine ret_now (.inr rfl) (.cons (res_tmp rfl) (.cons (res_tmp rfl) .nil)) (by repeat constructor) ?_
  exact ⟨rfl, rfl⟩
theorem ct_rNew {tick : Int} {b : Bnd} (h : okBnd b = true) (hb : b.Wf) : Ct Tryz.prog 11 [.int .u64 tick, .agg b.c].toArray [] (fun v M' => ∃ br, v = .tuple #[.pointer (some ⟨br, 0, none⟩), .int .i64 0] ∧ RcM br tick b [] M') := by
  have hI := RI.nil hb h
  unfold okBnd at h
  simp only [Bool.and_eq_true, decide_eq_true_eq] at h
  obtain ⟨⟨⟨⟨⟨h1, h2⟩, h3⟩, h4⟩, h5⟩, h6⟩ := h
  refine ct_body (rv := [.tmp 4, .tmp 5]) [(0, _), (1, _)] Tryz.func11 (by kernel_rfl) Tryz.ntmps11 Tryz.results11 rfl rfl (fun w0 => ?_)
  refine p_seq0 ?_
  refine p_plain0 (0 :: 1 :: 2 :: []) ?_
  refine go_s0 (some 3) (.box 50 (.tmp 1)) 0 ?_
  refine os_boxA rfl rfl (fun b3 => ?_)
  refine go_q0 4 (.assign (.const (.pointer none))) 47 (qv_assign rfl) ?_
  refine go_q0 5 (.assign (.const (.int .i64 0))) 44 (qv_assign rfl) ?_
  refine go_nil ?_
  change G _ _ _ _
  refine p_weaken [0, 3, 4, 5] rfl ?_
  refine p_seq0 ?_
  refine p_seq0 ?_
  refine p_plain0 (0 :: 1 :: 2 :: 3 :: 4 :: 5 :: 6 :: 7 :: 8 :: 9 :: 10 :: 11 :: 12 :: 13 :: 14 :: 15 :: 16 :: 17 :: 18 :: 19 :: 20 :: 21 :: 22 :: 23 :: 24 :: 25 :: 26 :: 27 :: []) ?_
  refine go_q0 6 (.fieldAddr 50 (.tmp 3) 0) 0 (qv_field rfl fd50_0) ?_
  refine go_q0 7 (.load 3 (.tmp 6)) 3 (qv_load rfl .auto (ldv_sca sc3 (get_Bnd_0 _))) ?_
  refine go_q0 8 (.binOp .lss 3 (.tmp 7) (.const (.int .i64 1)) 3) 4 (qv_lss (b := false) rfl rfl (decide_eq_false (by omega))) ?_
  refine go_q0 9 (.move (.tmp 8)) 4 (qv_move rfl) ?_
  refine go_q (d := 10) (op := .fieldAddr 50 (.tmp 3) 0) (ty := 0) (g := some (3, false)) (by kernel_rfl) ⟨9, by kernel_rfl, rfl⟩ rfl (qv_field rfl fd50_0) ?_
  refine go_q (d := 11) (op := .load 3 (.tmp 10)) (ty := 3) (g := some (3, false)) (by kernel_rfl) ⟨9, by kernel_rfl, rfl⟩ rfl (qv_load rfl .auto (ldv_sca sc3 (get_Bnd_0 _))) ?_
  refine go_q (d := 12) (op := .binOp .gtr 3 (.tmp 11) (.const (.int .i64 4096)) 3) (ty := 4) (g := some (3, false)) (by kernel_rfl) ⟨9, by kernel_rfl, rfl⟩ rfl (qv_gtr (b := false) rfl rfl (decide_eq_false (by omega))) ?_
  refine go_q0 13 (.pick (.tmp 9) (.const (.bool true)) (.tmp 12)) 4 (qv_pick_f rfl rfl) ?_
  refine go_q0 14 (.move (.tmp 13)) 4 (qv_move rfl) ?_
  refine go_q (d := 15) (op := .fieldAddr 50 (.tmp 3) 1) (ty := 0) (g := some (8, false)) (by kernel_rfl) ⟨14, by kernel_rfl, rfl⟩ rfl (qv_field rfl fd50_1) ?_
  refine go_q (d := 16) (op := .load 23 (.tmp 15)) (ty := 23) (g := some (8, false)) (by kernel_rfl) ⟨14, by kernel_rfl, rfl⟩ rfl (qv_load rfl .auto (ldv_sca sc23 (get_Bnd_1 _))) ?_
  refine go_q (d := 17) (op := .binOp .eql 23 (.tmp 16) (.const (.int .u64 0)) 23) (ty := 4) (g := some (8, false)) (by kernel_rfl) ⟨14, by kernel_rfl, rfl⟩ rfl (qv_eql (b := false) rfl rfl (beq_eq_false_iff_ne.2 (by omega))) ?_
  refine go_q0 18 (.pick (.tmp 14) (.const (.bool true)) (.tmp 17)) 4 (qv_pick_f rfl rfl) ?_
  refine go_q0 19 (.move (.tmp 18)) 4 (qv_move rfl) ?_
  refine go_q (d := 20) (op := .fieldAddr 50 (.tmp 3) 2) (ty := 0) (g := some (13, false)) (by kernel_rfl) ⟨19, by kernel_rfl, rfl⟩ rfl (qv_field rfl fd50_2) ?_
  refine go_q (d := 21) (op := .load 23 (.tmp 20)) (ty := 23) (g := some (13, false)) (by kernel_rfl) ⟨19, by kernel_rfl, rfl⟩ rfl (qv_load rfl .auto (ldv_sca sc23 (get_Bnd_2 _))) ?_
  refine go_q (d := 22) (op := .binOp .eql 23 (.tmp 21) (.const (.int .u64 0)) 23) (ty := 4) (g := some (13, false)) (by kernel_rfl) ⟨19, by kernel_rfl, rfl⟩ rfl (qv_eql (b := false) rfl rfl (beq_eq_false_iff_ne.2 (by omega))) ?_
  refine go_q0 23 (.pick (.tmp 19) (.const (.bool true)) (.tmp 22)) 4 (qv_pick_f rfl rfl) ?_
  refine go_q0 24 (.move (.tmp 23)) 4 (qv_move rfl) ?_
  refine go_q (d := 25) (op := .fieldAddr 50 (.tmp 3) 3) (ty := 0) (g := some (18, false)) (by kernel_rfl) ⟨24, by kernel_rfl, rfl⟩ rfl (qv_field rfl fd50_3) ?_
  refine go_q (d := 26) (op := .load 23 (.tmp 25)) (ty := 23) (g := some (18, false)) (by kernel_rfl) ⟨24, by kernel_rfl, rfl⟩ rfl (qv_load rfl .auto (ldv_sca sc23 (get_Bnd_3 _))) ?_
  refine go_q (d := 27) (op := .binOp .eql 23 (.tmp 26) (.const (.int .u64 0)) 23) (ty := 4) (g := some (18, false)) (by kernel_rfl) ⟨24, by kernel_rfl, rfl⟩ rfl (qv_eql (b := false) rfl rfl (beq_eq_false_iff_ne.2 (by omega))) ?_
  refine go_q0 28 (.pick (.tmp 24) (.const (.bool true)) (.tmp 27)) 4 (qv_pick_f rfl rfl) ?_
  refine go_q0 29 (.move (.tmp 28)) 4 (qv_move rfl) ?_
  refine go_q (d := 30) (op := .fieldAddr 50 (.tmp 3) 4) (ty := 0) (g := some (23, false)) (by kernel_rfl) ⟨29, by kernel_rfl, rfl⟩ rfl (qv_field rfl fd50_4) ?_
  refine go_q (d := 31) (op := .load 23 (.tmp 30)) (ty := 23) (g := some (23, false)) (by kernel_rfl) ⟨29, by kernel_rfl, rfl⟩ rfl (qv_load rfl .auto (ldv_sca sc23 (get_Bnd_4 _))) ?_
  refine go_q (d := 32) (op := .binOp .eql 23 (.tmp 31) (.const (.int .u64 0)) 23) (ty := 4) (g := some (23, false)) (by kernel_rfl) ⟨29, by kernel_rfl, rfl⟩ rfl (qv_eql (b := false) rfl rfl (beq_eq_false_iff_ne.2 (by omega))) ?_
  refine go_q0 33 (.pick (.tmp 29) (.const (.bool true)) (.tmp 32)) 4 (qv_pick_f rfl rfl) ?_
  refine go_nil ?_
  change G _ _ _ _
  refine p_weaken [0, 3, 4, 5, 33] rfl ?_
  refine p_condF (.tmp 33) (by kernel_rfl) rfl ?_
  refine p_skip0 ?_
  change G _ _ _ _
  refine p_weaken [0, 3, 4, 5] rfl ?_
  refine p_seq0 ?_
  refine p_plain0 (0 :: 1 :: 2 :: 3 :: 4 :: 5 :: []) ?_
  refine go_q0 34 (.move (.tmp 0)) 23 (qv_move rfl) ?_
  refine go_q0 35 (.load 50 (.tmp 3)) 50 (qv_load rfl .auto (ldv_agg agg50 (extw_Bnd _) (Nat.le_of_ble_eq_true rfl))) ?_
  refine go_q0 36 (.build 87 #[(0, .tmp 34), (1, .tmp 35)]) 87 (qv_build rfl (bld87_0_1 _ _)) ?_
  refine go_s0 (some 37) (.box 87 (.tmp 36)) 47 ?_
  refine os_boxA rfl rfl (fun b37 => ?_)
  refine go_q0 4 (.assign (.tmp 37)) 47 (qv_assign rfl) ?_
  refine go_q0 5 (.assign (.const (.int .i64 0))) 44 (qv_assign rfl) ?_
  refine go_nil ?_
  change G _ _ _ _
  refine p_weaken [4, 5] rfl ?_
  refine p_ret0 ?_
  try dsimp only [thenQ, inBlockQ]
  try rw [if_pos rfl]
  refine ret_left ([rcO b37 tick b none 0 0]) (.inr rfl) (.cons (res_tmp rfl) (.cons (res_tmp rfl) .nil)) .auto ?_
  exact ⟨b37, rfl, none, 0, [], hI, OwnL.nil, rfl⟩
section
variable {br n c : Nat} {tick : Int} {bd : Bnd} {p : Option Addr} {r x : Rec} {g : List Rec} {M : Mem}
theorem ct_ridle (hb : bd.Wf) (hr : r.Wf) : Ct Tryz.prog 72 [.pointer (some ⟨br, 0, none⟩), .agg r.c].toArray [rcO br tick bd p n c] (fun v M' => v = .int .u64 (idleR bd r) ∧ M' = [rcO br tick bd p n c]) := by
  unfold rcO
  refine ct_body (rv := [.tmp 4]) [(0, _), (1, _)] Tryz.func72 (by kernel_rfl) Tryz.ntmps72 Tryz.results72 rfl rfl (fun w0 => ?_)
  refine p_seq0 ?_
  refine p_plain0 (0 :: 1 :: []) ?_
  refine go_s0 (some 3) (.box 100 (.tmp 1)) 0 ?_
  refine os_boxA rfl rfl (fun b3 => ?_)
  refine go_q0 4 (.assign (.const (.int .u64 0))) 23 (qv_assign rfl) ?_
  refine go_nil ?_
  change G _ _ _ _
  refine p_weaken [0, 3, 4] rfl ?_
  refine p_seq0 ?_
  refine p_draw (by kernel_rfl) mixed 8 9 _ (fun _ h => h) (by kernel_rfl) ?_
  refine gd_all (0 :: 1 :: 2 :: 3 :: 4 :: 5 :: 6 :: 7 :: []) _ rfl (by kernel_rfl) (by decide) (fun _ h => h) rfl ?_
  refine sq_q0 5 (.fieldAddr 100 (.tmp 3) 4) 0 (qv_field rfl fd100_4) ?_
  refine sq_q0 6 (.load 23 (.tmp 5)) 23 (qv_load rfl .auto (ldv_sca sc23 (get_Rec_40 _))) ?_
  refine sq_q0 7 (.move (.tmp 0)) 47 (qv_move rfl) ?_
  refine sq_q0 8 (.nilCheck (.tmp 7)) 0 (qv_nilCheck rfl) ?_
  refine sq_q0 9 (.fieldAddr 87 (.tmp 8) 1) 0 (qv_field rfl fd87_1) ?_
  refine sq_q0 10 (.fieldAddr 50 (.tmp 9) 1) 0 (qv_field rfl fd50_1) ?_
  refine sq_q0 11 (.load 23 (.tmp 10)) 23 (qv_load rfl .auto (ldv_sca sc23 (get_RCac_2 _))) ?_
  refine sq_p (d := 12) (op := .call { callee := .value (.func 93), args := #[.tmp 6, .tmp 11], argTypes := #[23, 23] }) (ty := 23) (g := none) (by kernel_rfl) trivial (pv_call en93 rfl (pu_refPlus hr.last_ hb.idle_)) ?_
  refine SeqK.nil (fun β => ?_)
  refine gd_tail [8] rfl (by kernel_rfl) (by kernel_rfl) ?_
  refine go_q0 4 (.assign (.tmp 12)) 23 (qv_assign rfl) ?_
  refine go_nil ?_
  change G _ _ _ _
  refine p_weaken [4] rfl ?_
  refine p_ret0 ?_
  try dsimp only [thenQ, inBlockQ]
  try rw [if_pos rfl]
  refine ret_left ([(br, .cells (⟨tick, bd, .slice p n c⟩ : RCac).c 87 (0, 0))]) (.inr rfl) (.cons (res_tmp rfl) .nil) .auto ?_
  exact ⟨rfl, rfl⟩
theorem ct_rdue (hb : bd.Wf) (hr : r.Wf) : Ct Tryz.prog 71 [.pointer (some ⟨br, 0, none⟩), .agg r.c].toArray [rcO br tick bd p n c] (fun v M' => v = .int .u64 (dueR bd r) ∧ M' = [rcO br tick bd p n c]) := by
  have hI := ct_ridle (br := br) (n := n) (c := c) (tick := tick) (p := p) hb hr
  unfold rcO at hI ⊢
  refine ct_body (rv := [.tmp 4]) [(0, _), (1, _)] Tryz.func71 (by kernel_rfl) Tryz.ntmps71 Tryz.results71 rfl rfl (fun w0 => ?_)
  refine p_seq0 ?_
  refine p_plain0 (0 :: 1 :: []) ?_
  refine go_s0 (some 3) (.box 100 (.tmp 1)) 0 ?_
  refine os_boxA rfl rfl (fun b3 => ?_)
  refine go_q0 4 (.assign (.const (.int .u64 0))) 23 (qv_assign rfl) ?_
  refine go_nil ?_
  change G _ _ _ _
  refine p_weaken [0, 3, 4] rfl ?_
  refine p_seq0 ?_
  refine p_draw (by kernel_rfl) mixed 12 13 _ (fun _ h => h) (by kernel_rfl) ?_
  refine gd_all (0 :: 1 :: 2 :: 3 :: 4 :: 5 :: 6 :: 7 :: 8 :: 9 :: 10 :: 11 :: []) _ rfl (by kernel_rfl) (by decide) (fun _ h => h) rfl ?_
  refine sq_q0 5 (.move (.tmp 0)) 47 (qv_move rfl) ?_
  refine sq_q0 6 (.load 100 (.tmp 3)) 100 (qv_load rfl .auto (ldv_agg agg100 (extw_Rec _) (Nat.le_of_ble_eq_true rfl))) ?_
  refine sq_p (d := 7) (op := .call { callee := .value (.func 72), args := #[.tmp 5, .tmp 6], argTypes := #[47, 100] }) (ty := 23) (g := none) (by kernel_rfl) trivial (pv_callR en72 rfl .auto (hI)) ?_
  refine sq_q0 8 (.fieldAddr 100 (.tmp 3) 3) 0 (qv_field rfl fd100_3) ?_
  refine sq_q0 9 (.load 23 (.tmp 8)) 23 (qv_load rfl .auto (ldv_sca sc23 (get_Rec_39 _))) ?_
  refine sq_q0 10 (.move (.tmp 0)) 47 (qv_move rfl) ?_
  refine sq_q0 11 (.nilCheck (.tmp 10)) 0 (qv_nilCheck rfl) ?_
  refine sq_q0 12 (.fieldAddr 87 (.tmp 11) 1) 0 (qv_field rfl fd87_1) ?_
  refine sq_q0 13 (.fieldAddr 50 (.tmp 12) 2) 0 (qv_field rfl fd50_2) ?_
  refine sq_q0 14 (.load 23 (.tmp 13)) 23 (qv_load rfl .auto (ldv_sca sc23 (get_RCac_3 _))) ?_
  refine sq_p (d := 15) (op := .call { callee := .value (.func 93), args := #[.tmp 9, .tmp 14], argTypes := #[23, 23] }) (ty := 23) (g := none) (by kernel_rfl) trivial (pv_call en93 rfl (pu_refPlus hr.first_ hb.active_)) ?_
  refine sq_q0 16 (.call { callee := .builtin .min, args := #[.tmp 7, .tmp 15], argTypes := #[23, 23] }) 23 (qv_min rfl rfl rfl) ?_
  refine SeqK.nil (fun β => ?_)
  refine gd_tail [12] rfl (by kernel_rfl) (by kernel_rfl) ?_
  refine go_q0 4 (.assign (.tmp 16)) 23 (qv_assign rfl) ?_
  refine go_nil ?_
  change G _ _ _ _
  refine p_weaken [4] rfl ?_
  refine p_ret0 ?_
  try dsimp only [thenQ, inBlockQ]
  try rw [if_pos rfl]
  refine ret_left ([(br, .cells (⟨tick, bd, .slice p n c⟩ : RCac).c 87 (0, 0))]) (.inr rfl) (.cons (res_tmp rfl) .nil) .auto ?_
  exact ⟨rfl, rfl⟩
theorem ct_rend {i : Nat} (reason : Int) (hM : RcM br tick bd g M) (hx : g[i]? = some x) :
    Ct Tryz.prog 70 [.pointer (some ⟨br, 0, none⟩), .int .i64 i, .int .u8 reason].toArray M (fun v M' => v = .agg ({ x with reason := reason } : Rec).c ∧ RcM br tick bd (cutAt g i) M') := by
  obtain ⟨p, c, A, hI, hO, rfl⟩ := hM
  have hil := (List.getElem?_eq_some_iff.1 hx).1
  have hle := hI.le
  have hmost := hI.most
  have hT := (hO.cut i).vw
  have hD := hO.vwDrop (h := i + 1) (sz := 44) hil rfl
  have hO0 := hO
  obtain ⟨b, cur, hp, hA, hc1, hc2, hc3, H⟩ := hO.some_ (by omega)
  subst hp
  have hmm : (b, Obj.cells cur 100 (0, 0)) ∈ A := by rw [hA]; exact .head _
  have htl : (g.take i).length = i := by simp; omega
  have hdl : (g.drop (i + 1)).length = g.length - (i + 1) := by simp
  refine ct_body (rv := [.cell 6 100]) [(0, _), (1, _), (2, _)] Tryz.func70 (by kernel_rfl) Tryz.ntmps70 Tryz.results70 rfl rfl (fun w0 => ?_)
  refine p_seq0 ?_
  refine p_plain0 (0 :: []) ?_
  refine go_s0 (some 6) (.alloc 100) 0 ?_
  refine os_allocA rfl ze100 (fun b6 => ?_)
  refine go_nil ?_
  change G _ _ _ _
  refine p_seq0 ?_
  refine p_plain0 (0 :: 1 :: 2 :: 3 :: 4 :: 5 :: 6 :: 7 :: 8 :: []) ?_
  refine go_q0 9 (.move (.tmp 0)) 47 (qv_move rfl) ?_
  refine go_q0 10 (.nilCheck (.tmp 9)) 0 (qv_nilCheck rfl) ?_
  refine go_q0 11 (.fieldAddr 87 (.tmp 10) 2) 0 (qv_field rfl fd87_2) ?_
  refine go_q0 12 (.load 85 (.tmp 11)) 85 (qv_load rfl .auto (ldv_sca sc85 (get_RCac_6 _))) ?_
  refine go_q0 13 (.move (.tmp 1)) 3 (qv_move rfl) ?_
  refine go_q0 14 (.indexAddr 85 (.tmp 12) (.tmp 13)) 0 (qv_index un85 sz100 rfl rfl rfl hil) ?_
  refine go_q0 15 (.load 100 (.tmp 14)) 100 (qv_load rfl (At.of_mem (by repeat first | exact hmm | exact List.mem_append_left _ hmm | apply List.mem_cons_of_mem | apply List.mem_append_right)) (ldv_els H hx (by decide) agg100 rfl)) ?_
  refine go_s0 (some 7) (.alloc 100) 0 ?_
  refine os_allocA rfl ze100 (fun b7 => ?_)
  refine go_s0 none (.store 100 (.tmp 7) (.tmp 15)) 0 ?_
  refine os_store rfl rfl sz100 rfl (one_Rec _) .auto (Nat.le_of_ble_eq_true rfl) (splw_Rec _ _ (siz_Rec _)) ?_
  refine go_nil ?_
  change G _ _ _ _
  refine p_weaken [0, 1, 2, 6, 7] rfl ?_
  refine p_seq0 ?_
  refine p_plain0 (0 :: 1 :: 2 :: []) ?_
  refine go_q0 16 (.move (.tmp 2)) 5 (qv_move rfl) ?_
  refine go_q0 17 (.fieldAddr 100 (.tmp 7) 6) 0 (qv_field rfl fd100_6) ?_
  refine go_s0 none (.store 5 (.tmp 17) (.tmp 16)) 0 ?_
  refine os_store1 rfl rfl sz5 rfl rfl .auto (Nat.le_of_ble_eq_true rfl) (set_Rec_42 _ _) ?_
  refine go_nil ?_
  change G _ _ _ _
  refine p_weaken [0, 1, 6, 7] rfl ?_
  refine p_seq0 ?_
  refine p_plain0 (0 :: []) ?_
  refine go_q0 8 (.assign (.const (.slice none 0 0))) 85 (qv_assign rfl) ?_
  refine go_nil ?_
  change G _ _ _ _
  refine p_seq0 ?_
  refine p_plain0 (0 :: 1 :: 2 :: 3 :: 4 :: 5 :: 6 :: 7 :: 8 :: []) ?_
  refine go_q0 18 (.move (.tmp 8)) 85 (qv_move rfl) ?_
  refine go_q0 19 (.move (.tmp 0)) 47 (qv_move rfl) ?_
  refine go_q0 20 (.nilCheck (.tmp 19)) 0 (qv_nilCheck rfl) ?_
  refine go_q0 21 (.fieldAddr 87 (.tmp 20) 2) 0 (qv_field rfl fd87_2) ?_
  refine go_q0 22 (.load 85 (.tmp 21)) 85 (qv_load rfl .auto (ldv_sca sc85 (get_RCac_6 _))) ?_
  refine go_q0 23 (.move (.tmp 1)) 3 (qv_move rfl) ?_
  refine go_q0 24 (.slice 85 (.tmp 22) none (some (.tmp 23)) none) 85 (qv_cutO (h := i) hO0 un85 sz100 rfl rfl rfl (by omega)) ?_
  refine go_s0 (some 25) (.call { callee := .builtin .append, args := #[.tmp 18, .tmp 24], argTypes := #[85, 85] }) 85 ?_
  refine os_appendV (E := eRec) (l := []) (l2 := g.take i) rfl el85 rfl rfl rfl htl.symm OwnL.nil .nil hT (fun q hq => .tail _ (.tail _ (.tail _ hq))) one_Rec (by rw [htl]; simp [maxLen]; omega) (by rw [htl]; simp; omega) (fun p25 c25 A25 h25 => ?_)
  refine go_q0 8 (.assign (.tmp 25)) 85 (qv_assign rfl) ?_
  refine go_nil ?_
  change G _ _ _ _
  refine p_weaken [0, 1, 6, 7, 8] rfl ?_
  refine p_seq0 ?_
  refine p_plain0 (0 :: 1 :: 2 :: 3 :: 4 :: 5 :: 6 :: 7 :: 8 :: 9 :: 10 :: 11 :: 12 :: []) ?_
  refine go_q0 26 (.move (.tmp 0)) 47 (qv_move rfl) ?_
  refine go_q0 27 (.move (.tmp 8)) 85 (qv_move rfl) ?_
  refine go_q0 28 (.move (.tmp 0)) 47 (qv_move rfl) ?_
  refine go_q0 29 (.nilCheck (.tmp 28)) 0 (qv_nilCheck rfl) ?_
  refine go_q0 30 (.fieldAddr 87 (.tmp 29) 2) 0 (qv_field rfl fd87_2) ?_
  refine go_q0 31 (.load 85 (.tmp 30)) 85 (qv_load rfl .auto (ldv_sca sc85 (get_RCac_6 _))) ?_
  refine go_q0 32 (.move (.tmp 1)) 3 (qv_move rfl) ?_
  refine go_q0 33 (.binOp .add 3 (.tmp 32) (.const (.int .i64 1)) 3) 3 (qv_add rfl rfl (by first | exact IntWalk.i64_in _ (by omega) | exact IntWalk.i64_in _ (by dsimp only; omega) | rfl)) ?_
  refine go_q0 34 (.slice 85 (.tmp 31) (some (.tmp 33)) none none) 85 (qv_dropO (h := i + 1) hO0 un85 sz100 rfl rfl rfl (by omega) (by omega)) ?_
  refine go_s0 (some 35) (.call { callee := .builtin .append, args := #[.tmp 27, .tmp 34], argTypes := #[85, 85] }) 85 ?_
  refine os_appendV (E := eRec) (l := [] ++ g.take i) (l2 := g.drop (i + 1)) rfl el85 rfl rfl rfl rfl h25 Sel.app hD (fun q hq => List.mem_append_right _ (.tail _ (.tail _ (.tail _ hq)))) one_Rec (by simp [maxLen]; omega) (by simp; omega) (fun p35 c35 A35 h35 => ?_)
  have e35 : ([] ++ g.take i ++ g.drop (i + 1)).length = (cutAt g i).length := rfl
  rw [e35]
  replace h35 : OwnL eRec 100 p35 c35 (cutAt g i) A35 := h35
  refine go_q0 36 (.nilCheck (.tmp 26)) 0 (qv_nilCheck rfl) ?_
  refine go_q0 37 (.fieldAddr 87 (.tmp 36) 2) 0 (qv_field rfl fd87_2) ?_
  refine go_s0 none (.store 85 (.tmp 37) (.tmp 35)) 0 ?_
  refine os_store1 rfl rfl sz85 rfl rfl .auto (Nat.le_of_ble_eq_true rfl) (set_RCac_6 _ _) ?_
  refine go_nil ?_
  change G _ _ _ _
  refine p_weaken [6, 7] rfl ?_
  refine p_seq0 ?_
  refine p_plain0 (0 :: 1 :: []) ?_
  refine go_q0 38 (.load 100 (.tmp 7)) 100 (qv_load rfl .auto (ldv_agg agg100 (extw_Rec _) (Nat.le_of_ble_eq_true rfl))) ?_
  refine go_s0 none (.store 100 (.tmp 6) (.tmp 38)) 0 ?_
  refine os_store rfl rfl sz100 rfl (one_Rec _) .auto (Nat.le_of_ble_eq_true rfl) (splw_Rec _ _ (siz_Rec _)) ?_
  refine go_nil ?_
  change G _ _ _ _
  refine p_weaken [6] rfl ?_
  refine p_ret0 ?_
  try dsimp only [thenQ, inBlockQ]
  try rw [if_pos rfl]
  refine ret_left ((br, .cells (⟨tick, bd, .slice p35 (cutAt g i).length c35⟩ : RCac).c 87 (0, 0)) :: A35) (.inr rfl) (.cons (res_cell rfl (At.mem .auto) (ldv_agg agg100 (extw_Rec _) (Nat.le_of_ble_eq_true rfl))) .nil) .auto ?_
  exact ⟨rfl, p35, c35, A35, hI.cut i, h35, rfl⟩
theorem ct_rNext (hM : RcM br tick bd g M) :
    Ct Tryz.prog 38 [.pointer (some ⟨br, 0, none⟩)].toArray M (fun v M' => v = .tuple #[.int .u64 ((nextS bd g).getD 0), .bool (nextS bd g).isSome] ∧ M' = M) := by
  obtain ⟨p, c, A, hI, hO, rfl⟩ := hM
  have hbd := hI.bw
  have hle := hI.le
  have hmost := hI.most
  refine ct_body (rv := [.tmp 2, .tmp 3]) [(0, _)] Tryz.func38 (by kernel_rfl) Tryz.ntmps38 Tryz.results38 rfl rfl (fun w0 => ?_)
  refine p_seq0 ?_
  refine p_plain0 (0 :: 1 :: []) ?_
  refine go_q0 2 (.assign (.const (.int .u64 0))) 23 (qv_assign rfl) ?_
  refine go_q0 3 (.assign (.const (.bool false))) 4 (qv_assign rfl) ?_
  refine go_nil ?_
  change G _ _ _ _
  refine p_seq0 ?_
  refine p_plain0 (0 :: 1 :: []) ?_
  refine go_q0 4 (.assign (.const (.int .u64 0))) 23 (qv_assign rfl) ?_
  refine go_q0 5 (.assign (.const (.bool false))) 4 (qv_assign rfl) ?_
  refine go_nil ?_
  change G _ _ _ _
  refine p_seq0 ?_
  refine p_seq0 ?_
  refine p_plain0 (0 :: []) ?_
  refine go_q0 6 (.assign (.const (.int .i64 0))) 3 (qv_assign rfl) ?_
  refine go_nil ?_
  change G _ _ _ _
  refine p_block 0 (by kernel_rfl) ?_
  refine p_loopE (by kernel_rfl) (fun s m => ∃ (i : Nat), (i ≤ g.length) ∧ Ge s ⟨[], [(0, .pointer (some ⟨br, 0, none⟩)), (4, .int .u64 ((nextS bd (g.take i)).getD 0)), (5, .bool (nextS bd (g.take i)).isSome), (6, .int .i64 i)], rcO br tick bd p g.length c :: A⟩ ∧ m = g.length + 1 - i) ?_ ?_
  · exact ⟨_, ⟨0, by omega, ⟨rfl, ⟨[0, 4, 5, 6], rfl⟩, .auto⟩, rfl⟩⟩
  rintro s m ⟨i, hi, hs, rfl⟩
  refine ge_ok hs ?_
  refine p_seq0 ?_
  refine p_seq0 ?_
  refine p_plain0 (0 :: 1 :: 2 :: 3 :: 4 :: 5 :: 6 :: []) ?_
  refine go_q0 7 (.move (.tmp 6)) 3 (qv_move rfl) ?_
  refine go_q0 8 (.move (.tmp 0)) 47 (qv_move rfl) ?_
  refine go_q0 9 (.nilCheck (.tmp 8)) 0 (qv_nilCheck rfl) ?_
  refine go_q0 10 (.fieldAddr 87 (.tmp 9) 2) 0 (qv_field rfl fd87_2) ?_
  refine go_q0 11 (.load 85 (.tmp 10)) 85 (qv_load rfl .auto (ldv_sca sc85 (get_RCac_6 _))) ?_
  refine go_q0 12 (.call { callee := .builtin .len, args := #[.tmp 11], argTypes := #[85] }) 3 (qv_lenS un85 rfl) ?_
  refine go_q0 13 (.binOp .lss 3 (.tmp 7) (.tmp 12) 3) 4 (qv_lss rfl rfl rfl) ?_
  refine go_nil ?_
  change G _ _ _ _
  refine p_weaken [0, 4, 5, 6, 13] rfl ?_
  refine p_cond (.tmp 13) (by kernel_rfl) rfl (fun h13 => ?_) (fun h13 => ?_)
  rotate_left
  · replace h13 := kn h13
    refine p_exit 0 (by kernel_rfl) ?_
    change G _ _ _ _
    refine p_weaken [4, 5] rfl ?_
    refine p_seq0 ?_
    refine p_plain0 (0 :: 1 :: 2 :: 3 :: []) ?_
    refine go_q0 40 (.move (.tmp 4)) 23 (qv_move rfl) ?_
    refine go_q0 41 (.move (.tmp 5)) 4 (qv_move rfl) ?_
    refine go_q0 2 (.assign (.tmp 40)) 23 (qv_assign rfl) ?_
    refine go_q0 3 (.assign (.tmp 41)) 4 (qv_assign rfl) ?_
    refine go_nil ?_
    change G _ _ _ _
    refine p_weaken [2, 3] rfl ?_
    refine p_ret0 ?_
    try dsimp only [thenQ, inBlockQ]
    try rw [if_pos rfl]
    refine ret_left (rcO br tick bd p g.length c :: A) (.inr rfl) (.cons (res_tmp rfl) (.cons (res_tmp rfl) .nil)) .auto ?_
    have hie : i = g.length := by omega
    subst hie
    exact ⟨by rw [List.take_length]; rfl, rfl⟩
  replace h13 := kn h13
  refine p_skip0 ?_
  change G _ _ _ _
  refine p_weaken [0, 4, 5, 6] rfl ?_
  refine p_seqJ (fun s => Ge s ⟨[], [(0, .pointer (some ⟨br, 0, none⟩)), (4, .int .u64 ((nextS bd (g.take (i + 1))).getD 0)), (5, .bool (nextS bd (g.take (i + 1))).isSome), (6, .int .i64 i)], rcO br tick bd p g.length c :: A⟩) (by kernel_rfl) ?_ ?_
  rotate_left
  · rintro s hs
    refine ge_ok hs ?_
    refine p_plain0 (0 :: 1 :: 2 :: []) ?_
    refine go_q0 14 (.move (.tmp 6)) 3 (qv_move rfl) ?_
    refine go_q0 15 (.binOp .add 3 (.tmp 14) (.const (.int .i64 1)) 3) 3 (qv_add rfl rfl (by first | exact IntWalk.i64_in _ (by omega) | exact IntWalk.i64_in _ (by dsimp only; omega) | rfl)) ?_
    refine go_q0 6 (.assign (.tmp 15)) 3 (qv_assign rfl) ?_
    refine go_nil ?_
    exact ⟨_, ⟨i + 1, by omega, ⟨rfl, ⟨[0, 4, 5, 6], rfl⟩, .auto⟩, rfl⟩, by omega⟩
  refine p_block 1 (by kernel_rfl) ?_
  refine p_seq0 ?_
  obtain ⟨bb, oo, cu, ee, ff, hpe, mm, H⟩ := hO.lst.at_ (i := i) (by omega)
  obtain ⟨x, hx⟩ : ∃ x, g[i]? = some x := ⟨_, List.getElem?_eq_getElem (by omega)⟩
  have hD := ct_rdue (br := br) (n := g.length) (c := c) (tick := tick) (p := p) hbd (hI.wf x (List.mem_of_getElem? hx)).1
  have hsu := nextS_succ (bd := bd) hx
  generalize hst : nextS bd (g.take i) = st at *
  subst hpe
  refine p_plain0 (0 :: 1 :: 2 :: 3 :: 4 :: 5 :: 6 :: 7 :: 8 :: 9 :: 10 :: 11 :: 12 :: 13 :: 14 :: []) ?_
  refine go_q0 16 (.move (.tmp 5)) 4 (qv_move rfl) ?_
  refine go_q0 17 (.unOp .not 4 (.tmp 16)) 4 (qv_not rfl) ?_
  refine go_q0 18 (.move (.tmp 17)) 4 (qv_move rfl) ?_
  refine go_case (d := 18) rfl (fun g18 => ?_) (fun g18 => ?_)
  · replace g18 := kn g18
    have hsn : nextS bd (g.take (i + 1)) = some (dueR bd x) := by rw [hsu]; cases st with | none => rfl | some a => cases g18
    refine go_n (d := 19) (op := .move (.tmp 0)) (ty := 47) (g := some (2, false)) (by kernel_rfl) ⟨18, _, by kernel_rfl, rfl, rfl⟩ rfl ?_
    refine go_n (d := 20) (op := .move (.tmp 0)) (ty := 47) (g := some (2, false)) (by kernel_rfl) ⟨18, _, by kernel_rfl, rfl, rfl⟩ rfl ?_
    refine go_n (d := 21) (op := .nilCheck (.tmp 20)) (ty := 0) (g := some (2, false)) (by kernel_rfl) ⟨18, _, by kernel_rfl, rfl, rfl⟩ rfl ?_
    refine go_n (d := 22) (op := .fieldAddr 87 (.tmp 21) 2) (ty := 0) (g := some (2, false)) (by kernel_rfl) ⟨18, _, by kernel_rfl, rfl, rfl⟩ rfl ?_
    refine go_n (d := 23) (op := .load 85 (.tmp 22)) (ty := 85) (g := some (2, false)) (by kernel_rfl) ⟨18, _, by kernel_rfl, rfl, rfl⟩ rfl ?_
    refine go_n (d := 24) (op := .move (.tmp 6)) (ty := 3) (g := some (2, false)) (by kernel_rfl) ⟨18, _, by kernel_rfl, rfl, rfl⟩ rfl ?_
    refine go_n (d := 25) (op := .indexAddr 85 (.tmp 23) (.tmp 24)) (ty := 0) (g := some (2, false)) (by kernel_rfl) ⟨18, _, by kernel_rfl, rfl, rfl⟩ rfl ?_
    refine go_n (d := 26) (op := .load 100 (.tmp 25)) (ty := 100) (g := some (2, false)) (by kernel_rfl) ⟨18, _, by kernel_rfl, rfl, rfl⟩ rfl ?_
    refine go_n (d := 27) (op := .call { callee := .value (.func 71), args := #[.tmp 19, .tmp 26], argTypes := #[47, 100] }) (ty := 23) (g := some (2, false)) (by kernel_rfl) ⟨18, _, by kernel_rfl, rfl, rfl⟩ rfl ?_
    refine go_n (d := 28) (op := .move (.tmp 4)) (ty := 23) (g := some (2, false)) (by kernel_rfl) ⟨18, _, by kernel_rfl, rfl, rfl⟩ rfl ?_
    refine go_n (d := 29) (op := .binOp .lss 23 (.tmp 27) (.tmp 28) 23) (ty := 4) (g := some (2, false)) (by kernel_rfl) ⟨18, _, by kernel_rfl, rfl, rfl⟩ rfl ?_
    refine go_q0 30 (.pick (.tmp 18) (.const (.bool true)) (.tmp 29)) 4 (qv_pick_t rfl rfl) ?_
    refine go_nil ?_
    change G _ _ _ _
    refine p_weaken [0, 4, 5, 6, 30] rfl ?_
    refine p_condT (.tmp 30) (by kernel_rfl) rfl ?_
    refine p_seq0 ?_
    refine p_plain0 (0 :: 1 :: 2 :: 3 :: 4 :: 5 :: 6 :: 7 :: 8 :: 9 :: []) ?_
    refine go_q0 31 (.move (.tmp 0)) 47 (qv_move rfl) ?_
    refine go_q0 32 (.move (.tmp 0)) 47 (qv_move rfl) ?_
    refine go_q0 33 (.nilCheck (.tmp 32)) 0 (qv_nilCheck rfl) ?_
    refine go_q0 34 (.fieldAddr 87 (.tmp 33) 2) 0 (qv_field rfl fd87_2) ?_
    refine go_q0 35 (.load 85 (.tmp 34)) 85 (qv_load rfl .auto (ldv_sca sc85 (get_RCac_6 _))) ?_
    refine go_q0 36 (.move (.tmp 6)) 3 (qv_move rfl) ?_
    refine go_q0 37 (.indexAddr 85 (.tmp 35) (.tmp 36)) 0 (qv_index un85 sz100 rfl rfl rfl (by omega)) ?_
    refine go_q0 38 (.load 100 (.tmp 37)) 100 (qv_load rfl (At.of_mem (by repeat first | exact mm | exact List.mem_append_left _ mm | apply List.mem_cons_of_mem | apply List.mem_append_right)) (ldv_els H hx (by decide) agg100 rfl)) ?_
    refine go_s0 (some 39) (.call { callee := .value (.func 71), args := #[.tmp 31, .tmp 38], argTypes := #[47, 100] }) 23 ?_
    refine os_pv rfl (pv_callR en71 rfl .auto (hD)) ?_
    refine go_q0 4 (.assign (.tmp 39)) 23 (qv_assign rfl) ?_
    refine go_nil ?_
    change G _ _ _ _
    refine p_weaken [0, 4, 5, 6] rfl ?_
    refine p_plain0 (0 :: []) ?_
    refine go_q0 5 (.assign (.const (.bool true))) 4 (qv_assign rfl) ?_
    refine go_nil ?_
    rw [hsn]
    exact ⟨rfl, ⟨[0, 4, 5, 6], rfl⟩, .auto⟩
  replace g18 := kn g18
  refine go_q (d := 19) (op := .move (.tmp 0)) (ty := 47) (g := some (2, false)) (by kernel_rfl) ⟨18, by kernel_rfl, rfl⟩ rfl (qv_move rfl) ?_
  refine go_q (d := 20) (op := .move (.tmp 0)) (ty := 47) (g := some (2, false)) (by kernel_rfl) ⟨18, by kernel_rfl, rfl⟩ rfl (qv_move rfl) ?_
  refine go_q (d := 21) (op := .nilCheck (.tmp 20)) (ty := 0) (g := some (2, false)) (by kernel_rfl) ⟨18, by kernel_rfl, rfl⟩ rfl (qv_nilCheck rfl) ?_
  refine go_q (d := 22) (op := .fieldAddr 87 (.tmp 21) 2) (ty := 0) (g := some (2, false)) (by kernel_rfl) ⟨18, by kernel_rfl, rfl⟩ rfl (qv_field rfl fd87_2) ?_
  refine go_q (d := 23) (op := .load 85 (.tmp 22)) (ty := 85) (g := some (2, false)) (by kernel_rfl) ⟨18, by kernel_rfl, rfl⟩ rfl (qv_load rfl .auto (ldv_sca sc85 (get_RCac_6 _))) ?_
  refine go_q (d := 24) (op := .move (.tmp 6)) (ty := 3) (g := some (2, false)) (by kernel_rfl) ⟨18, by kernel_rfl, rfl⟩ rfl (qv_move rfl) ?_
  refine go_q (d := 25) (op := .indexAddr 85 (.tmp 23) (.tmp 24)) (ty := 0) (g := some (2, false)) (by kernel_rfl) ⟨18, by kernel_rfl, rfl⟩ rfl (qv_index un85 sz100 rfl rfl rfl (by omega)) ?_
  refine go_q (d := 26) (op := .load 100 (.tmp 25)) (ty := 100) (g := some (2, false)) (by kernel_rfl) ⟨18, by kernel_rfl, rfl⟩ rfl (qv_load rfl (At.of_mem (by repeat first | exact mm | exact List.mem_append_left _ mm | apply List.mem_cons_of_mem | apply List.mem_append_right)) (ldv_els H hx (by decide) agg100 rfl)) ?_
  refine go_s (d := some 27) (op := .call { callee := .value (.func 71), args := #[.tmp 19, .tmp 26], argTypes := #[47, 100] }) (ty := 23) (g := some (2, false)) (by kernel_rfl) ⟨18, by kernel_rfl, rfl⟩ ?_
  refine os_pv rfl (pv_callR en71 rfl .auto (hD)) ?_
  refine go_q (d := 28) (op := .move (.tmp 4)) (ty := 23) (g := some (2, false)) (by kernel_rfl) ⟨18, by kernel_rfl, rfl⟩ rfl (qv_move rfl) ?_
  refine go_q (d := 29) (op := .binOp .lss 23 (.tmp 27) (.tmp 28) 23) (ty := 4) (g := some (2, false)) (by kernel_rfl) ⟨18, by kernel_rfl, rfl⟩ rfl (qv_lss rfl rfl rfl) ?_
  refine go_q0 30 (.pick (.tmp 18) (.const (.bool true)) (.tmp 29)) 4 (qv_pick_f rfl rfl) ?_
  refine go_nil ?_
  change G _ _ _ _
  refine p_weaken [0, 4, 5, 6, 30] rfl ?_
  refine p_cond (.tmp 30) (by kernel_rfl) rfl (fun h30 => ?_) (fun h30 => ?_)
  rotate_left
  · replace h30 := kn h30
    obtain ⟨a, rfl⟩ : ∃ a, st = some a := by cases st with | none => cases g18 | some a => exact ⟨a, rfl⟩
    have hsn : nextS bd (g.take (i + 1)) = some a := by rw [hsu]; exact if_neg h30
    refine p_skip0 ?_
    rw [hsn]
    exact ⟨rfl, ⟨[0, 4, 5, 6], rfl⟩, .auto⟩
  replace h30 := kn h30
  have hsn : nextS bd (g.take (i + 1)) = some (dueR bd x) := by rw [hsu]; cases st with | none => rfl | some a => exact if_pos h30
  refine p_seq0 ?_
  refine p_plain0 (0 :: 1 :: 2 :: 3 :: 4 :: 5 :: 6 :: 7 :: 8 :: 9 :: []) ?_
  refine go_q0 31 (.move (.tmp 0)) 47 (qv_move rfl) ?_
  refine go_q0 32 (.move (.tmp 0)) 47 (qv_move rfl) ?_
  refine go_q0 33 (.nilCheck (.tmp 32)) 0 (qv_nilCheck rfl) ?_
  refine go_q0 34 (.fieldAddr 87 (.tmp 33) 2) 0 (qv_field rfl fd87_2) ?_
  refine go_q0 35 (.load 85 (.tmp 34)) 85 (qv_load rfl .auto (ldv_sca sc85 (get_RCac_6 _))) ?_
  refine go_q0 36 (.move (.tmp 6)) 3 (qv_move rfl) ?_
  refine go_q0 37 (.indexAddr 85 (.tmp 35) (.tmp 36)) 0 (qv_index un85 sz100 rfl rfl rfl (by omega)) ?_
  refine go_q0 38 (.load 100 (.tmp 37)) 100 (qv_load rfl (At.of_mem (by repeat first | exact mm | exact List.mem_append_left _ mm | apply List.mem_cons_of_mem | apply List.mem_append_right)) (ldv_els H hx (by decide) agg100 rfl)) ?_
  refine go_s0 (some 39) (.call { callee := .value (.func 71), args := #[.tmp 31, .tmp 38], argTypes := #[47, 100] }) 23 ?_
  refine os_pv rfl (pv_callR en71 rfl .auto (hD)) ?_
  refine go_q0 4 (.assign (.tmp 39)) 23 (qv_assign rfl) ?_
  refine go_nil ?_
  change G _ _ _ _
  refine p_weaken [0, 4, 5, 6] rfl ?_
  refine p_plain0 (0 :: []) ?_
  refine go_q0 5 (.assign (.const (.bool true))) 4 (qv_assign rfl) ?_
  refine go_nil ?_
  rw [hsn]
  exact ⟨rfl, ⟨[0, 4, 5, 6], rfl⟩, .auto⟩
theorem ct_rfind {k : Key} (hM : RcM br tick bd g M) (hk : k.Wf) :
    Ct Tryz.prog 67 [.pointer (some ⟨br, 0, none⟩), .agg k.c].toArray M (fun v M' => v = .tuple #[.int .i64 (findAt g k : Nat), .bool (okAt g k)] ∧ M' = M) := by
  obtain ⟨p, c, A, hI, hO, rfl⟩ := hM
  have hle := hI.le
  have hmost := hI.most
  refine ct_body (rv := [.tmp 4, .tmp 5]) [(0, _), (1, _)] Tryz.func67 (by kernel_rfl) Tryz.ntmps67 Tryz.results67 rfl rfl (fun w0 => ?_)
  refine p_seq0 ?_
  refine p_plain0 (0 :: 1 :: 2 :: []) ?_
  refine go_s0 (some 3) (.box 92 (.tmp 1)) 0 ?_
  refine os_boxA rfl rfl (fun b3 => ?_)
  refine go_q0 4 (.assign (.const (.int .i64 0))) 3 (qv_assign rfl) ?_
  refine go_q0 5 (.assign (.const (.bool false))) 4 (qv_assign rfl) ?_
  refine go_nil ?_
  change G _ _ _ _
  refine p_weaken [0, 3, 4, 5] rfl ?_
  refine p_seq0 ?_
  refine p_plain0 (0 :: []) ?_
  refine go_q0 6 (.assign (.const (.int .i64 0))) 3 (qv_assign rfl) ?_
  refine go_nil ?_
  change G _ _ _ _
  refine p_seqJ (fun s => ∃ (i : Nat), (findAt g k = i) ∧ Ge s ⟨[], [(0, .pointer (some ⟨br, 0, none⟩)), (3, .pointer (some ⟨b3, 0, none⟩)), (6, .int .i64 i)], (b3, .cells k.c 92 (0, 0)) :: rcO br tick bd p g.length c :: A⟩) (by kernel_rfl) ?_ ?_
  rotate_left
  · rintro s ⟨i, hfi, hs⟩
    refine ge_ok hs ?_
    refine p_seq0 ?_
    have hfl := (findAt_spec g k).1
    refine p_draw (by kernel_rfl) mixed 21 22 _ (fun _ h => h) (by kernel_rfl) ?_
    refine gd_all (0 :: 1 :: 2 :: 3 :: 4 :: 5 :: 6 :: 7 :: 8 :: 9 :: 10 :: 11 :: 12 :: 13 :: 14 :: 15 :: 16 :: 17 :: 18 :: 19 :: 20 :: []) _ rfl (by kernel_rfl) (by decide) (fun _ h => h) rfl ?_
    refine sq_q0 29 (.move (.tmp 6)) 3 (qv_move rfl) ?_
    refine sq_q0 30 (.move (.tmp 6)) 3 (qv_move rfl) ?_
    refine sq_q0 31 (.move (.tmp 0)) 47 (qv_move rfl) ?_
    refine sq_q0 32 (.nilCheck (.tmp 31)) 0 (qv_nilCheck rfl) ?_
    refine sq_q0 33 (.fieldAddr 87 (.tmp 32) 2) 0 (qv_field rfl fd87_2) ?_
    refine sq_q0 34 (.load 85 (.tmp 33)) 85 (qv_load rfl .auto (ldv_sca sc85 (get_RCac_6 _))) ?_
    refine sq_q0 35 (.call { callee := .builtin .len, args := #[.tmp 34], argTypes := #[85] }) 3 (qv_lenS un85 rfl) ?_
    refine sq_q0 36 (.binOp .lss 3 (.tmp 30) (.tmp 35) 3) 4 (qv_lss rfl rfl rfl) ?_
    refine sq_q0 37 (.move (.tmp 36)) 4 (qv_move rfl) ?_
    refine sq_case (d := 37) rfl (fun _ => rfl) (fun g37 => ?_) (fun g37 => ?_)
    rotate_left
    · replace g37 := kn g37
      have hok : okAt g k = false := by unfold okAt; rw [hfi, List.getElem?_eq_none (by omega)]
      refine sq_n (d := 38) (op := .move (.tmp 0)) (ty := 47) (g := some (8, true)) (by kernel_rfl) ⟨37, _, by kernel_rfl, rfl, rfl⟩ ?_
      refine sq_n (d := 39) (op := .nilCheck (.tmp 38)) (ty := 0) (g := some (8, true)) (by kernel_rfl) ⟨37, _, by kernel_rfl, rfl, rfl⟩ ?_
      refine sq_n (d := 40) (op := .fieldAddr 87 (.tmp 39) 2) (ty := 0) (g := some (8, true)) (by kernel_rfl) ⟨37, _, by kernel_rfl, rfl, rfl⟩ ?_
      refine sq_n (d := 41) (op := .load 85 (.tmp 40)) (ty := 85) (g := some (8, true)) (by kernel_rfl) ⟨37, _, by kernel_rfl, rfl, rfl⟩ ?_
      refine sq_n (d := 42) (op := .move (.tmp 6)) (ty := 3) (g := some (8, true)) (by kernel_rfl) ⟨37, _, by kernel_rfl, rfl, rfl⟩ ?_
      refine sq_n (d := 43) (op := .indexAddr 85 (.tmp 41) (.tmp 42)) (ty := 0) (g := some (8, true)) (by kernel_rfl) ⟨37, _, by kernel_rfl, rfl, rfl⟩ ?_
      refine sq_n (d := 44) (op := .fieldAddr 100 (.tmp 43) 0) (ty := 0) (g := some (8, true)) (by kernel_rfl) ⟨37, _, by kernel_rfl, rfl, rfl⟩ ?_
      refine sq_n (d := 45) (op := .load 92 (.tmp 44)) (ty := 92) (g := some (8, true)) (by kernel_rfl) ⟨37, _, by kernel_rfl, rfl, rfl⟩ ?_
      refine sq_n (d := 46) (op := .load 92 (.tmp 3)) (ty := 92) (g := some (8, true)) (by kernel_rfl) ⟨37, _, by kernel_rfl, rfl, rfl⟩ ?_
      refine sq_n (d := 47) (op := .binOp .eql 92 (.tmp 45) (.tmp 46) 92) (ty := 4) (g := some (8, true)) (by kernel_rfl) ⟨37, _, by kernel_rfl, rfl, rfl⟩ ?_
      refine sq_q0 48 (.pick (.tmp 37) (.tmp 47) (.const (.bool false))) 4 (qv_pick_f rfl rfl) ?_
      refine sq_q0 4 (.assign (.tmp 29)) 3 (qv_assign rfl) ?_
      refine SeqK.nil (fun β => ?_)
      refine gd_tail [21] rfl (by kernel_rfl) (by kernel_rfl) ?_
      refine go_q0 5 (.assign (.tmp 48)) 4 (qv_assign rfl) ?_
      refine go_nil ?_
      change G _ _ _ _
      refine p_weaken [4, 5] rfl ?_
      refine p_ret0 ?_
      try dsimp only [thenQ, inBlockQ]
      try rw [if_pos rfl]
      refine ret_left (rcO br tick bd p g.length c :: A) (.inr rfl) (.cons (res_tmp rfl) (.cons (res_tmp rfl) .nil)) .auto ?_
      exact ⟨by rw [hok, hfi]; rfl, rfl⟩
    replace g37 := kn g37
    obtain ⟨bb, oo, cu, ee, ff, hpe, mm, H⟩ := hO.lst.at_ (i := i) (by omega)
    obtain ⟨x, hx⟩ : ∃ x, g[i]? = some x := ⟨_, List.getElem?_eq_getElem (by omega)⟩
    subst hpe
    have hok : okAt g k = decide (x.key = k) := by unfold okAt; rw [hfi, hx]
    refine sq_q (d := 38) (op := .move (.tmp 0)) (ty := 47) (g := some (8, true)) (by kernel_rfl) ⟨37, by kernel_rfl, rfl⟩ (fun _ h => nomatch h) (qv_move rfl) ?_
    refine sq_q (d := 39) (op := .nilCheck (.tmp 38)) (ty := 0) (g := some (8, true)) (by kernel_rfl) ⟨37, by kernel_rfl, rfl⟩ (fun _ h => nomatch h) (qv_nilCheck rfl) ?_
    refine sq_q (d := 40) (op := .fieldAddr 87 (.tmp 39) 2) (ty := 0) (g := some (8, true)) (by kernel_rfl) ⟨37, by kernel_rfl, rfl⟩ (fun _ h => nomatch h) (qv_field rfl fd87_2) ?_
    refine sq_q (d := 41) (op := .load 85 (.tmp 40)) (ty := 85) (g := some (8, true)) (by kernel_rfl) ⟨37, by kernel_rfl, rfl⟩ (fun _ h => nomatch h) (qv_load rfl .auto (ldv_sca sc85 (get_RCac_6 _))) ?_
    refine sq_q (d := 42) (op := .move (.tmp 6)) (ty := 3) (g := some (8, true)) (by kernel_rfl) ⟨37, by kernel_rfl, rfl⟩ (fun _ h => nomatch h) (qv_move rfl) ?_
    refine sq_q (d := 43) (op := .indexAddr 85 (.tmp 41) (.tmp 42)) (ty := 0) (g := some (8, true)) (by kernel_rfl) ⟨37, by kernel_rfl, rfl⟩ (fun _ h => nomatch h) (qv_index un85 sz100 rfl rfl rfl (by omega)) ?_
    refine sq_q (d := 44) (op := .fieldAddr 100 (.tmp 43) 0) (ty := 0) (g := some (8, true)) (by kernel_rfl) ⟨37, by kernel_rfl, rfl⟩ (fun _ h => nomatch h) (qv_field rfl fd100_0) ?_
    refine sq_q (d := 45) (op := .load 92 (.tmp 44)) (ty := 92) (g := some (8, true)) (by kernel_rfl) ⟨37, by kernel_rfl, rfl⟩ (fun _ h => nomatch h) (qv_load rfl (At.of_mem (by repeat first | exact mm | exact List.mem_append_left _ mm | apply List.mem_cons_of_mem | apply List.mem_append_right)) (ldv_elp H hx agg92 (ext_Rec_0_37 _) (by decide) (by decide) rfl)) ?_
    refine sq_q (d := 46) (op := .load 92 (.tmp 3)) (ty := 92) (g := some (8, true)) (by kernel_rfl) ⟨37, by kernel_rfl, rfl⟩ (fun _ h => nomatch h) (qv_load rfl .auto (ldv_agg agg92 (extw_Key _) (Nat.le_of_ble_eq_true rfl))) ?_
    refine sq_q (d := 47) (op := .binOp .eql 92 (.tmp 45) (.tmp 46) 92) (ty := 4) (g := some (8, true)) (by kernel_rfl) ⟨37, by kernel_rfl, rfl⟩ (fun _ h => nomatch h) (qv_eql_92 (s := x.key) (t := k) rfl rfl rfl) ?_
    refine sq_q0 48 (.pick (.tmp 37) (.tmp 47) (.const (.bool false))) 4 (qv_pick_t rfl rfl) ?_
    refine sq_q0 4 (.assign (.tmp 29)) 3 (qv_assign rfl) ?_
    refine SeqK.nil (fun β => ?_)
    refine gd_tail [21] rfl (by kernel_rfl) (by kernel_rfl) ?_
    refine go_q0 5 (.assign (.tmp 48)) 4 (qv_assign rfl) ?_
    refine go_nil ?_
    change G _ _ _ _
    refine p_weaken [4, 5] rfl ?_
    refine p_ret0 ?_
    try dsimp only [thenQ, inBlockQ]
    try rw [if_pos rfl]
    refine ret_left (rcO br tick bd (some ⟨bb, oo, none⟩) g.length c :: A) (.inr rfl) (.cons (res_tmp rfl) (.cons (res_tmp rfl) .nil)) .auto ?_
    exact ⟨by rw [hok, hfi]; rfl, rfl⟩
  refine p_block 0 (by kernel_rfl) ?_
  refine p_loopE (by kernel_rfl) (fun s m => ∃ (i : Nat), (i ≤ g.length) ∧ (∀ (j : Nat) (x : Rec), j < i → g[j]? = some x → ltK x.key k) ∧ Ge s ⟨[], [(0, .pointer (some ⟨br, 0, none⟩)), (3, .pointer (some ⟨b3, 0, none⟩)), (6, .int .i64 i)], (b3, .cells k.c 92 (0, 0)) :: rcO br tick bd p g.length c :: A⟩ ∧ m = g.length + 1 - i) ?_ ?_
  · exact ⟨_, ⟨0, by omega, fun j x hj => absurd hj (Nat.not_lt_zero _), ⟨rfl, ⟨[0, 3, 6], rfl⟩, .auto⟩, rfl⟩⟩
  rintro s m ⟨i, hi, hlt, hs, rfl⟩
  refine ge_ok hs ?_
  refine p_seq0 ?_
  refine p_seq0 ?_
  refine p_draw (by kernel_rfl) mixed 20 20 _ (fun _ h => h) (by kernel_rfl) ?_
  refine gd_all (0 :: 1 :: 2 :: 3 :: 4 :: 5 :: 6 :: 7 :: 8 :: 9 :: 10 :: 11 :: 12 :: 13 :: 14 :: 15 :: 16 :: 17 :: 18 :: 19 :: []) _ rfl (by kernel_rfl) (by decide) (fun _ h => h) rfl ?_
  refine sq_q0 7 (.move (.tmp 6)) 3 (qv_move rfl) ?_
  refine sq_q0 8 (.move (.tmp 0)) 47 (qv_move rfl) ?_
  refine sq_q0 9 (.nilCheck (.tmp 8)) 0 (qv_nilCheck rfl) ?_
  refine sq_q0 10 (.fieldAddr 87 (.tmp 9) 2) 0 (qv_field rfl fd87_2) ?_
  refine sq_q0 11 (.load 85 (.tmp 10)) 85 (qv_load rfl .auto (ldv_sca sc85 (get_RCac_6 _))) ?_
  refine sq_q0 12 (.call { callee := .builtin .len, args := #[.tmp 11], argTypes := #[85] }) 3 (qv_lenS un85 rfl) ?_
  refine sq_q0 13 (.binOp .lss 3 (.tmp 7) (.tmp 12) 3) 4 (qv_lss rfl rfl rfl) ?_
  refine sq_q0 14 (.move (.tmp 13)) 4 (qv_move rfl) ?_
  refine sq_case (d := 14) rfl (fun _ => rfl) (fun g14 => ?_) (fun g14 => ?_)
  rotate_left
  · replace g14 := kn g14
    have hfi : findAt g k = i := findAt_of hi hlt (fun x hx => absurd (List.getElem?_eq_some_iff.1 hx).1 (by omega))
    refine sq_n (d := 15) (op := .move (.tmp 0)) (ty := 47) (g := some (7, true)) (by kernel_rfl) ⟨14, _, by kernel_rfl, rfl, rfl⟩ ?_
    refine sq_n (d := 16) (op := .nilCheck (.tmp 15)) (ty := 0) (g := some (7, true)) (by kernel_rfl) ⟨14, _, by kernel_rfl, rfl, rfl⟩ ?_
    refine sq_n (d := 17) (op := .fieldAddr 87 (.tmp 16) 2) (ty := 0) (g := some (7, true)) (by kernel_rfl) ⟨14, _, by kernel_rfl, rfl, rfl⟩ ?_
    refine sq_n (d := 18) (op := .load 85 (.tmp 17)) (ty := 85) (g := some (7, true)) (by kernel_rfl) ⟨14, _, by kernel_rfl, rfl, rfl⟩ ?_
    refine sq_n (d := 19) (op := .move (.tmp 6)) (ty := 3) (g := some (7, true)) (by kernel_rfl) ⟨14, _, by kernel_rfl, rfl, rfl⟩ ?_
    refine sq_n (d := 20) (op := .indexAddr 85 (.tmp 18) (.tmp 19)) (ty := 0) (g := some (7, true)) (by kernel_rfl) ⟨14, _, by kernel_rfl, rfl, rfl⟩ ?_
    refine sq_n (d := 21) (op := .fieldAddr 100 (.tmp 20) 0) (ty := 0) (g := some (7, true)) (by kernel_rfl) ⟨14, _, by kernel_rfl, rfl, rfl⟩ ?_
    refine sq_n (d := 22) (op := .load 92 (.tmp 21)) (ty := 92) (g := some (7, true)) (by kernel_rfl) ⟨14, _, by kernel_rfl, rfl, rfl⟩ ?_
    refine sq_n (d := 23) (op := .load 92 (.tmp 3)) (ty := 92) (g := some (7, true)) (by kernel_rfl) ⟨14, _, by kernel_rfl, rfl, rfl⟩ ?_
    refine sq_n (d := 24) (op := .call { callee := .value (.func 91), args := #[.tmp 22, .tmp 23], argTypes := #[92, 92] }) (ty := 3) (g := some (7, true)) (by kernel_rfl) ⟨14, _, by kernel_rfl, rfl, rfl⟩ ?_
    refine sq_n (d := 25) (op := .binOp .lss 3 (.tmp 24) (.const (.int .i64 0)) 3) (ty := 4) (g := some (7, true)) (by kernel_rfl) ⟨14, _, by kernel_rfl, rfl, rfl⟩ ?_
    refine sq_q0 26 (.pick (.tmp 14) (.tmp 25) (.const (.bool false))) 4 (qv_pick_f rfl rfl) ?_
    refine SeqK.nil (fun β => ?_)
    refine gd_tail [] rfl (by kernel_rfl) (by kernel_rfl) ?_
    refine go_nil ?_
    change G _ _ _ _
    refine p_weaken [0, 3, 6, 26] rfl ?_
    refine p_condF (.tmp 26) (by kernel_rfl) rfl ?_
    refine p_exit 0 (by kernel_rfl) ?_
    exact ⟨_, hfi, ⟨rfl, ⟨[0, 3, 6], rfl⟩, .auto⟩⟩
  replace g14 := kn g14
  obtain ⟨bb, oo, cu, ee, ff, hpe, mm, H⟩ := hO.lst.at_ (i := i) (by omega)
  obtain ⟨x, hx⟩ : ∃ x, g[i]? = some x := ⟨_, List.getElem?_eq_getElem (by omega)⟩
  have hxw := (hI.wf x (List.mem_of_getElem? hx)).1.key_
  subst hpe
  refine sq_q (d := 15) (op := .move (.tmp 0)) (ty := 47) (g := some (7, true)) (by kernel_rfl) ⟨14, by kernel_rfl, rfl⟩ (fun _ h => nomatch h) (qv_move rfl) ?_
  refine sq_q (d := 16) (op := .nilCheck (.tmp 15)) (ty := 0) (g := some (7, true)) (by kernel_rfl) ⟨14, by kernel_rfl, rfl⟩ (fun _ h => nomatch h) (qv_nilCheck rfl) ?_
  refine sq_q (d := 17) (op := .fieldAddr 87 (.tmp 16) 2) (ty := 0) (g := some (7, true)) (by kernel_rfl) ⟨14, by kernel_rfl, rfl⟩ (fun _ h => nomatch h) (qv_field rfl fd87_2) ?_
  refine sq_q (d := 18) (op := .load 85 (.tmp 17)) (ty := 85) (g := some (7, true)) (by kernel_rfl) ⟨14, by kernel_rfl, rfl⟩ (fun _ h => nomatch h) (qv_load rfl .auto (ldv_sca sc85 (get_RCac_6 _))) ?_
  refine sq_q (d := 19) (op := .move (.tmp 6)) (ty := 3) (g := some (7, true)) (by kernel_rfl) ⟨14, by kernel_rfl, rfl⟩ (fun _ h => nomatch h) (qv_move rfl) ?_
  refine sq_q (d := 20) (op := .indexAddr 85 (.tmp 18) (.tmp 19)) (ty := 0) (g := some (7, true)) (by kernel_rfl) ⟨14, by kernel_rfl, rfl⟩ (fun _ h => nomatch h) (qv_index un85 sz100 rfl rfl rfl (by omega)) ?_
  refine sq_q (d := 21) (op := .fieldAddr 100 (.tmp 20) 0) (ty := 0) (g := some (7, true)) (by kernel_rfl) ⟨14, by kernel_rfl, rfl⟩ (fun _ h => nomatch h) (qv_field rfl fd100_0) ?_
  refine sq_q (d := 22) (op := .load 92 (.tmp 21)) (ty := 92) (g := some (7, true)) (by kernel_rfl) ⟨14, by kernel_rfl, rfl⟩ (fun _ h => nomatch h) (qv_load rfl (At.of_mem (by repeat first | exact mm | exact List.mem_append_left _ mm | apply List.mem_cons_of_mem | apply List.mem_append_right)) (ldv_elp H hx agg92 (ext_Rec_0_37 _) (by decide) (by decide) rfl)) ?_
  refine sq_q (d := 23) (op := .load 92 (.tmp 3)) (ty := 92) (g := some (7, true)) (by kernel_rfl) ⟨14, by kernel_rfl, rfl⟩ (fun _ h => nomatch h) (qv_load rfl .auto (ldv_agg agg92 (extw_Key _) (Nat.le_of_ble_eq_true rfl))) ?_
  refine sq_p (d := 24) (op := .call { callee := .value (.func 91), args := #[.tmp 22, .tmp 23], argTypes := #[92, 92] }) (ty := 3) (g := some (7, true)) (by kernel_rfl) ⟨14, by kernel_rfl, rfl⟩ (pv_call en91 rfl (pu_refCmp x.key k hxw hk)) ?_
  refine sq_q (d := 25) (op := .binOp .lss 3 (.tmp 24) (.const (.int .i64 0)) 3) (ty := 4) (g := some (7, true)) (by kernel_rfl) ⟨14, by kernel_rfl, rfl⟩ (fun _ h => nomatch h) (qv_lss rfl rfl rfl) ?_
  refine sq_q0 26 (.pick (.tmp 14) (.tmp 25) (.const (.bool false))) 4 (qv_pick_t rfl rfl) ?_
  refine SeqK.nil (fun β => ?_)
  refine gd_tail [] rfl (by kernel_rfl) (by kernel_rfl) ?_
  refine go_nil ?_
  change G _ _ _ _
  refine p_weaken [0, 3, 6, 26] rfl ?_
  refine p_cond (.tmp 26) (by kernel_rfl) rfl (fun h26 => ?_) (fun h26 => ?_)
  rotate_left
  · replace h26 := kn h26
    have hfi : findAt g k = i := findAt_of hi hlt (fun y hy => by rw [hx] at hy; cases hy; exact h26)
    refine p_exit 0 (by kernel_rfl) ?_
    exact ⟨_, hfi, ⟨rfl, ⟨[0, 3, 6], rfl⟩, .auto⟩⟩
  replace h26 := kn h26
  have hltn : ∀ (j : Nat) (y : Rec), j < i + 1 → g[j]? = some y → ltK y.key k := fun j y hj hy => by
    rcases Nat.lt_or_ge j i with h1 | h1
    · exact hlt j y h1 hy
    · have : j = i := by omega
      subst this
      rw [hx] at hy
      cases hy
      exact h26
  refine p_skip0 ?_
  change G _ _ _ _
  refine p_weaken [0, 3, 6] rfl ?_
  refine p_block 1 (by kernel_rfl) ?_
  refine p_plain0 (0 :: 1 :: 2 :: []) ?_
  refine go_q0 27 (.move (.tmp 6)) 3 (qv_move rfl) ?_
  refine go_q0 28 (.binOp .add 3 (.tmp 27) (.const (.int .i64 1)) 3) 3 (qv_add rfl rfl (by first | exact IntWalk.i64_in _ (by omega) | exact IntWalk.i64_in _ (by dsimp only; omega) | rfl)) ?_
  refine go_q0 6 (.assign (.tmp 28)) 3 (qv_assign rfl) ?_
  refine go_nil ?_
  exact ⟨_, ⟨i + 1, by omega, hltn, ⟨rfl, ⟨[0, 3, 6], rfl⟩, .auto⟩, rfl⟩, by omega⟩
theorem ct_rGet {i : Nat} {k : Key} (hM : RcM br tick bd g M) (hk : k.Wf) (hx : g[i]? = some x) (he : x.key = k) :
    Ct Tryz.prog 39 [.pointer (some ⟨br, 0, none⟩), .agg k.c].toArray M (fun v M' => v = .tuple #[.agg x.c, .bool true] ∧ M' = M) := by
  have hF := ct_rfind hM hk
  obtain ⟨p, c, A, hI, hO, rfl⟩ := hM
  have hil := (List.getElem?_eq_some_iff.1 hx).1
  rw [find_in hI.sort hx he, okAt_T hI.sort (key_in hx he)] at hF
  obtain ⟨b, cur, rfl, rfl, hc1, hc2, hc3, H⟩ := hO.some_ (by omega)
  refine ct_body (rv := [.cell 4 100, .tmp 5]) [(0, _), (1, _)] Tryz.func39 (by kernel_rfl) Tryz.ntmps39 Tryz.results39 rfl rfl (fun w0 => ?_)
  refine p_seq0 ?_
  refine p_plain0 (0 :: 1 :: 2 :: []) ?_
  refine go_s0 (some 3) (.box 92 (.tmp 1)) 0 ?_
  refine os_boxA rfl rfl (fun b3 => ?_)
  refine go_s0 (some 4) (.alloc 100) 0 ?_
  refine os_allocA rfl ze100 (fun b4 => ?_)
  refine go_q0 5 (.assign (.const (.bool false))) 4 (qv_assign rfl) ?_
  refine go_nil ?_
  change G _ _ _ _
  refine p_weaken [0, 3, 4, 5] rfl ?_
  refine p_seq0 ?_
  refine p_plain0 (0 :: 1 :: 2 :: 3 :: 4 :: 5 :: 6 :: 7 :: []) ?_
  refine go_q0 9 (.move (.tmp 0)) 47 (qv_move rfl) ?_
  refine go_q0 10 (.load 92 (.tmp 3)) 92 (qv_load rfl .auto (ldv_agg agg92 (extw_Key _) (Nat.le_of_ble_eq_true rfl))) ?_
  refine go_s0 (some 11) (.call { callee := .value (.func 67), args := #[.tmp 9, .tmp 10], argTypes := #[47, 92] }) 131 ?_
  refine os_pv rfl (pv_callR en67 rfl .auto (hF)) ?_
  refine go_q0 8 (.move (.tmp 11)) 131 (qv_move rfl) ?_
  refine go_q0 12 (.extract (.tmp 8) 0) 3 (qv_extract rfl rfl) ?_
  refine go_q0 13 (.extract (.tmp 8) 1) 4 (qv_extract rfl rfl) ?_
  refine go_q0 6 (.assign (.tmp 12)) 3 (qv_assign rfl) ?_
  refine go_q0 7 (.assign (.tmp 13)) 4 (qv_assign rfl) ?_
  refine go_nil ?_
  change G _ _ _ _
  refine p_weaken [0, 4, 5, 6, 7] rfl ?_
  refine p_seq0 ?_
  refine p_seq0 ?_
  refine p_plain0 (0 :: 1 :: []) ?_
  refine go_q0 14 (.move (.tmp 7)) 4 (qv_move rfl) ?_
  refine go_q0 15 (.unOp .not 4 (.tmp 14)) 4 (qv_not rfl) ?_
  refine go_nil ?_
  change G _ _ _ _
  refine p_weaken [0, 4, 5, 6, 15] rfl ?_
  refine p_condF (.tmp 15) (by kernel_rfl) rfl ?_
  refine p_skip0 ?_
  change G _ _ _ _
  refine p_weaken [0, 4, 5, 6] rfl ?_
  refine p_seq0 ?_
  refine p_plain0 (0 :: 1 :: 2 :: 3 :: 4 :: 5 :: 6 :: 7 :: 8 :: []) ?_
  refine go_q0 17 (.move (.tmp 0)) 47 (qv_move rfl) ?_
  refine go_q0 18 (.nilCheck (.tmp 17)) 0 (qv_nilCheck rfl) ?_
  refine go_q0 19 (.fieldAddr 87 (.tmp 18) 2) 0 (qv_field rfl fd87_2) ?_
  refine go_q0 20 (.load 85 (.tmp 19)) 85 (qv_load rfl .auto (ldv_sca sc85 (get_RCac_6 _))) ?_
  refine go_q0 21 (.move (.tmp 6)) 3 (qv_move rfl) ?_
  refine go_q0 22 (.indexAddr 85 (.tmp 20) (.tmp 21)) 0 (qv_index un85 sz100 rfl rfl rfl hil) ?_
  refine go_q0 23 (.load 100 (.tmp 22)) 100 (qv_load rfl .auto (ldv_els H hx (by decide) agg100 rfl)) ?_
  refine go_s0 none (.store 100 (.tmp 4) (.tmp 23)) 0 ?_
  refine os_store rfl rfl sz100 rfl (one_Rec _) .auto (Nat.le_of_ble_eq_true rfl) (splw_Rec _ _ (siz_Rec _)) ?_
  refine go_q0 5 (.assign (.const (.bool true))) 4 (qv_assign rfl) ?_
  refine go_nil ?_
  change G _ _ _ _
  refine p_weaken [4, 5] rfl ?_
  refine p_ret0 ?_
  try dsimp only [thenQ, inBlockQ]
  try rw [if_pos rfl]
  refine ret_left (rcO br tick bd (some ⟨b, 0, none⟩) g.length c :: [(b, .cells cur 100 (0, 0))]) (.inr rfl) (.cons (res_cell rfl (At.mem .auto) (ldv_agg agg100 (extw_Rec _) (Nat.le_of_ble_eq_true rfl))) (.cons (res_tmp rfl) .nil)) .auto ?_
  exact ⟨rfl, rfl⟩
theorem ct_rGetN {k : Key} (hM : RcM br tick bd g M) (hk : k.Wf) (hno : k ∉ keysOf g) :
    Ct Tryz.prog 39 [.pointer (some ⟨br, 0, none⟩), .agg k.c].toArray M (fun v M' => v = .tuple #[.agg zeroR.c, .bool false] ∧ M' = M) := by
  have hF := ct_rfind hM hk
  rw [okAt_F hno] at hF
  refine ct_body (rv := [.cell 4 100, .tmp 5]) [(0, _), (1, _)] Tryz.func39 (by kernel_rfl) Tryz.ntmps39 Tryz.results39 rfl rfl (fun w0 => ?_)
  refine p_seq0 ?_
  refine p_plain0 (0 :: 1 :: 2 :: []) ?_
  refine go_s0 (some 3) (.box 92 (.tmp 1)) 0 ?_
  refine os_boxA rfl rfl (fun b3 => ?_)
  refine go_s0 (some 4) (.alloc 100) 0 ?_
  refine os_allocA rfl ze100 (fun b4 => ?_)
  refine go_q0 5 (.assign (.const (.bool false))) 4 (qv_assign rfl) ?_
  refine go_nil ?_
  change G _ _ _ _
  refine p_weaken [0, 3, 4, 5] rfl ?_
  refine p_seq0 ?_
  refine p_plain0 (0 :: 1 :: 2 :: 3 :: 4 :: 5 :: 6 :: 7 :: []) ?_
  refine go_q0 9 (.move (.tmp 0)) 47 (qv_move rfl) ?_
  refine go_q0 10 (.load 92 (.tmp 3)) 92 (qv_load rfl .auto (ldv_agg agg92 (extw_Key _) (Nat.le_of_ble_eq_true rfl))) ?_
  refine go_s0 (some 11) (.call { callee := .value (.func 67), args := #[.tmp 9, .tmp 10], argTypes := #[47, 92] }) 131 ?_
  refine os_pv rfl (pv_callR en67 rfl .auto (hF)) ?_
  refine go_q0 8 (.move (.tmp 11)) 131 (qv_move rfl) ?_
  refine go_q0 12 (.extract (.tmp 8) 0) 3 (qv_extract rfl rfl) ?_
  refine go_q0 13 (.extract (.tmp 8) 1) 4 (qv_extract rfl rfl) ?_
  refine go_q0 6 (.assign (.tmp 12)) 3 (qv_assign rfl) ?_
  refine go_q0 7 (.assign (.tmp 13)) 4 (qv_assign rfl) ?_
  refine go_nil ?_
  change G _ _ _ _
  refine p_weaken [0, 4, 5, 6, 7] rfl ?_
  refine p_seq0 ?_
  refine p_seq0 ?_
  refine p_plain0 (0 :: 1 :: []) ?_
  refine go_q0 14 (.move (.tmp 7)) 4 (qv_move rfl) ?_
  refine go_q0 15 (.unOp .not 4 (.tmp 14)) 4 (qv_not rfl) ?_
  refine go_nil ?_
  change G _ _ _ _
  refine p_weaken [0, 4, 5, 6, 15] rfl ?_
  refine p_condT (.tmp 15) (by kernel_rfl) rfl ?_
  refine p_seq0 ?_
  refine p_plain0 (0 :: 1 :: 2 :: []) ?_
  refine go_q0 16 (.build 100 #[]) 100 (qv_build rfl (bld100_)) ?_
  refine go_s0 none (.store 100 (.tmp 4) (.tmp 16)) 0 ?_
  refine os_store rfl rfl sz100 rfl (one_Rec _) .auto (Nat.le_of_ble_eq_true rfl) (splw_Rec _ _ (siz_Rec _)) ?_
  refine go_q0 5 (.assign (.const (.bool false))) 4 (qv_assign rfl) ?_
  refine go_nil ?_
  change G _ _ _ _
  refine p_weaken [0, 4, 5, 6] rfl ?_
  refine p_ret0 ?_
  try dsimp only [thenQ, inBlockQ]
  try rw [if_pos rfl]
  refine ret_left (M) (.inr rfl) (.cons (res_cell rfl (At.mem .auto) (ldv_agg agg100 (extw_Rec _) (Nat.le_of_ble_eq_true rfl))) (.cons (res_tmp rfl) .nil)) .auto ?_
  exact ⟨rfl, rfl⟩
end
end Go.Proofs.YtobmcpoejhhemaaGreat

namespace Go.Proofs.YtobmcpoejhhemaaGreat
open Go.E

theorem RI.adv {bd : Bnd} {T : Int} {g0 g out : List Rec} (h : RI bd g0) (hS : AdvS bd T g0 g out) : RI bd g :=
  ⟨hS.sort, fun r hr => h.wf r (hS.mem r hr), by have := hS.len; have := h.le; omega, h.bw, h.most, h.least⟩
section
variable {br : Nat} {tick tick' cls : Int} {bd : Bnd} {g0 g : List Rec} {M : Mem} {x : Rec} {p : Pkt}
theorem ct_rAdvanceLow (hM : RcM br tick bd g M) (ht : tick' < tick) :
    Ct Tryz.prog 36 [.pointer (some ⟨br, 0, none⟩), .int .u64 tick'].toArray M (fun v M' => v = .slice none 0 0 ∧ M' = M) := by
  obtain ⟨p, c, A, hI, hO, rfl⟩ := hM
  refine ct_body (rv := [.tmp 4]) [(0, _), (1, _)] Tryz.func36 (by kernel_rfl) Tryz.ntmps36 Tryz.results36 rfl rfl (fun w0 => ?_)
  refine p_seq0 ?_
  refine p_plain0 (0 :: []) ?_
  refine go_q0 4 (.assign (.const (.slice none 0 0))) 85 (qv_assign rfl) ?_
  refine go_nil ?_
  change G _ _ _ _
  refine p_seq0 ?_
  refine p_plain0 (0 :: []) ?_
  refine go_q0 5 (.assign (.const (.slice none 0 0))) 85 (qv_assign rfl) ?_
  refine go_nil ?_
  change G _ _ _ _
  refine p_seq0 ?_
  refine p_seq0 ?_
  refine p_plain0 (0 :: 1 :: 2 :: 3 :: 4 :: 5 :: []) ?_
  refine go_q0 10 (.move (.tmp 1)) 23 (qv_move rfl) ?_
  refine go_q0 11 (.move (.tmp 0)) 47 (qv_move rfl) ?_
  refine go_q0 12 (.nilCheck (.tmp 11)) 0 (qv_nilCheck rfl) ?_
  refine go_q0 13 (.fieldAddr 87 (.tmp 12) 0) 0 (qv_field rfl fd87_0) ?_
  refine go_q0 14 (.load 23 (.tmp 13)) 23 (qv_load rfl .auto (ldv_sca sc23 (get_RCac_0 _))) ?_
  refine go_q0 15 (.binOp .lss 23 (.tmp 10) (.tmp 14) 23) 4 (qv_lss (b := true) rfl rfl (decide_eq_true ht)) ?_
  refine go_nil ?_
  change G _ _ _ _
  refine p_weaken [0, 1, 4, 5, 15] rfl ?_
  refine p_condT (.tmp 15) (by kernel_rfl) rfl ?_
  refine p_seq0 ?_
  refine p_plain0 (0 :: []) ?_
  refine go_q0 4 (.assign (.const (.slice none 0 0))) 85 (qv_assign rfl) ?_
  refine go_nil ?_
  change G _ _ _ _
  refine p_weaken [0, 1, 4, 5] rfl ?_
  refine p_ret0 ?_
  try dsimp only [thenQ, inBlockQ]
  try rw [if_pos rfl]
  refine ret_left (rcO br tick bd p g.length c :: A) (.inr rfl) (.cons (res_tmp rfl) .nil) .auto ?_
  exact ⟨rfl, rfl⟩
theorem RcM.at_ (hM : RcM br tick bd g M) {i : Nat} (hi : i < g.length) : ∃ b cur c, M = [rcO br tick bd (some ⟨b, 0, none⟩) g.length c, (b, .cells cur 100 (0, 0))] ∧ Holds eRec cur 0 g := by
  obtain ⟨p, c, A, hI, hO, rfl⟩ := hM
  obtain ⟨b, cur, rfl, rfl, _, _, _, H⟩ := hO.some_ (by omega)
  exact ⟨b, cur, c, rfl, H⟩
theorem reason_due {x : Rec} {a : Int} (h : dueR bd x = a) : (idleR bd x = a → reasonR bd x = 1) ∧ (¬ idleR bd x = a → reasonR bd x = 2) := by
  unfold reasonR
  rw [h]
  exact ⟨fun e => if_pos e, fun e => if_neg e⟩
theorem ct_rAdvance (hM : RcM br tick bd g0 M) (ht : tick ≤ tick') :
    Ct Tryz.prog 36 [.pointer (some ⟨br, 0, none⟩), .int .u64 tick'].toArray M (fun v M' => ∃ g out q cq B M1, AdvR bd tick' g0 g out ∧ v = .slice q out.length cq ∧ OwnL eRec 100 q cq out B ∧ RcM br tick' bd g M1 ∧ M' = B ++ M1) := by
  have hM0 := hM
  obtain ⟨p, c, A, hI, hO, rfl⟩ := hM
  have hle := hI.le
  have hmost := hI.most
  have hbd := hI.bw
  have hM2 : RcM br tick' bd g0 (rcO br tick' bd p g0.length c :: A) := ⟨p, c, A, hI, hO, rfl⟩
  refine ct_body (rv := [.tmp 4]) [(0, _), (1, _)] Tryz.func36 (by kernel_rfl) Tryz.ntmps36 Tryz.results36 rfl rfl (fun w0 => ?_)
  refine p_seq0 ?_
  refine p_plain0 (0 :: []) ?_
  refine go_q0 4 (.assign (.const (.slice none 0 0))) 85 (qv_assign rfl) ?_
  refine go_nil ?_
  change G _ _ _ _
  refine p_seq0 ?_
  refine p_plain0 (0 :: []) ?_
  refine go_q0 5 (.assign (.const (.slice none 0 0))) 85 (qv_assign rfl) ?_
  refine go_nil ?_
  change G _ _ _ _
  refine p_seq0 ?_
  refine p_seq0 ?_
  refine p_plain0 (0 :: 1 :: 2 :: 3 :: 4 :: 5 :: []) ?_
  refine go_q0 10 (.move (.tmp 1)) 23 (qv_move rfl) ?_
  refine go_q0 11 (.move (.tmp 0)) 47 (qv_move rfl) ?_
  refine go_q0 12 (.nilCheck (.tmp 11)) 0 (qv_nilCheck rfl) ?_
  refine go_q0 13 (.fieldAddr 87 (.tmp 12) 0) 0 (qv_field rfl fd87_0) ?_
  refine go_q0 14 (.load 23 (.tmp 13)) 23 (qv_load rfl .auto (ldv_sca sc23 (get_RCac_0 _))) ?_
  refine go_q0 15 (.binOp .lss 23 (.tmp 10) (.tmp 14) 23) 4 (qv_lss (b := false) rfl rfl (decide_eq_false (show ¬ tick' < tick by omega))) ?_
  refine go_nil ?_
  change G _ _ _ _
  refine p_weaken [0, 1, 4, 5, 15] rfl ?_
  refine p_condF (.tmp 15) (by kernel_rfl) rfl ?_
  refine p_skip0 ?_
  change G _ _ _ _
  refine p_weaken [0, 1, 4, 5] rfl ?_
  refine p_seq0 ?_
  refine p_plain0 (0 :: 1 :: 2 :: 3 :: 4 :: []) ?_
  refine go_q0 16 (.move (.tmp 0)) 47 (qv_move rfl) ?_
  refine go_q0 17 (.move (.tmp 1)) 23 (qv_move rfl) ?_
  refine go_q0 18 (.nilCheck (.tmp 16)) 0 (qv_nilCheck rfl) ?_
  refine go_q0 19 (.fieldAddr 87 (.tmp 18) 0) 0 (qv_field rfl fd87_0) ?_
  refine go_s0 none (.store 23 (.tmp 19) (.tmp 17)) 0 ?_
  refine os_store1 rfl rfl sz23 rfl rfl .auto (Nat.le_of_ble_eq_true rfl) (set_RCac_0 _ _) ?_
  refine go_nil ?_
  change G _ _ _ _
  refine p_weaken [0, 1, 4, 5] rfl ?_
  refine p_block 0 (by kernel_rfl) ?_
  refine p_loopE (by kernel_rfl) (fun s m => ∃ (g : List Rec) (out : List Rec) (q : Option Addr) (cq : Nat) (B : Mem) (M1 : Mem), (AdvS bd tick' g0 g out) ∧ (OwnL eRec 100 q cq out B) ∧ (RcM br tick' bd g M1) ∧ Ge s ⟨[], [(0, .pointer (some ⟨br, 0, none⟩)), (1, .int .u64 tick'), (5, .slice q out.length cq)], B ++ M1⟩ ∧ m = g.length) ?_ ?_
  · exact ⟨_, ⟨g0, [], none, 0, [], _, AdvS.start hI.sort, OwnL.nil, hM2, ⟨rfl, ⟨[0, 1, 5], rfl⟩, .auto⟩, rfl⟩⟩
  rintro s m ⟨g, out, q, cq, B, M1, hS, hB, hM1, hs, rfl⟩
  refine ge_ok hs ?_
  refine p_block 1 (by kernel_rfl) ?_
  refine p_seq0 ?_
  have hN := ct_rNext hM1
  have hlen := hS.len
  generalize hnx : nextS bd g = nx at hN
  refine p_plain0 (0 :: 1 :: 2 :: 3 :: 4 :: 5 :: 6 :: []) ?_
  refine go_q0 21 (.move (.tmp 0)) 47 (qv_move rfl) ?_
  refine go_s0 (some 22) (.call { callee := .value (.func 38), args := #[.tmp 21], argTypes := #[47] }) 72 ?_
  refine os_pv rfl (pv_callR en38 rfl .auto (hN)) ?_
  refine go_q0 20 (.move (.tmp 22)) 72 (qv_move rfl) ?_
  refine go_q0 23 (.extract (.tmp 20) 0) 23 (qv_extract rfl rfl) ?_
  refine go_q0 24 (.extract (.tmp 20) 1) 4 (qv_extract rfl rfl) ?_
  refine go_q0 6 (.assign (.tmp 23)) 23 (qv_assign rfl) ?_
  refine go_q0 7 (.assign (.tmp 24)) 4 (qv_assign rfl) ?_
  refine go_nil ?_
  change G _ _ _ _
  refine p_weaken [0, 1, 5, 6, 7] rfl ?_
  refine p_seq0 ?_
  refine p_seq0 ?_
  refine p_plain0 (0 :: 1 :: 2 :: 3 :: 4 :: 5 :: 6 :: []) ?_
  refine go_q0 25 (.move (.tmp 7)) 4 (qv_move rfl) ?_
  refine go_q0 26 (.unOp .not 4 (.tmp 25)) 4 (qv_not rfl) ?_
  refine go_q0 27 (.move (.tmp 26)) 4 (qv_move rfl) ?_
  refine go_case (d := 27) rfl (fun g27 => ?_) (fun g27 => ?_)
  · replace g27 := kn g27
    have hY : ∀ y ∈ g, tick' < dueR bd y := fun y hy => by cases nx with | none => rw [nextS_none hnx] at hy; exact absurd hy List.not_mem_nil | some a => cases g27
    refine go_n (d := 28) (op := .move (.tmp 6)) (ty := 23) (g := some (2, false)) (by kernel_rfl) ⟨27, _, by kernel_rfl, rfl, rfl⟩ rfl ?_
    refine go_n (d := 29) (op := .move (.tmp 1)) (ty := 23) (g := some (2, false)) (by kernel_rfl) ⟨27, _, by kernel_rfl, rfl, rfl⟩ rfl ?_
    refine go_n (d := 30) (op := .binOp .gtr 23 (.tmp 28) (.tmp 29) 23) (ty := 4) (g := some (2, false)) (by kernel_rfl) ⟨27, _, by kernel_rfl, rfl, rfl⟩ rfl ?_
    refine go_q0 31 (.pick (.tmp 27) (.const (.bool true)) (.tmp 30)) 4 (qv_pick_t rfl rfl) ?_
    refine go_nil ?_
    change G _ _ _ _
    refine p_weaken [0, 1, 5, 6, 31] rfl ?_
    refine p_condT (.tmp 31) (by kernel_rfl) rfl ?_
    refine p_seq0 ?_
    refine p_plain0 (0 :: 1 :: []) ?_
    refine go_q0 32 (.move (.tmp 5)) 85 (qv_move rfl) ?_
    refine go_q0 4 (.assign (.tmp 32)) 85 (qv_assign rfl) ?_
    refine go_nil ?_
    change G _ _ _ _
    refine p_weaken [0, 1, 4, 5, 6] rfl ?_
    refine p_ret0 ?_
    try dsimp only [thenQ, inBlockQ]
    try rw [if_pos rfl]
    refine ret_left (B ++ M1) (.inr rfl) (.cons (res_tmp rfl) .nil) .auto ?_
    exact ⟨g, out, q, cq, B, M1, hS.fin hY, rfl, hB, hM1, rfl⟩
  replace g27 := kn g27
  obtain ⟨a, rfl⟩ : ∃ a, nx = some a := by cases nx with | none => cases g27 | some a => exact ⟨a, rfl⟩
  have hmin := nextS_min hnx
  obtain ⟨x0, hx0, ha⟩ := next_of hnx
  refine go_q (d := 28) (op := .move (.tmp 6)) (ty := 23) (g := some (2, false)) (by kernel_rfl) ⟨27, by kernel_rfl, rfl⟩ rfl (qv_move rfl) ?_
  refine go_q (d := 29) (op := .move (.tmp 1)) (ty := 23) (g := some (2, false)) (by kernel_rfl) ⟨27, by kernel_rfl, rfl⟩ rfl (qv_move rfl) ?_
  refine go_q (d := 30) (op := .binOp .gtr 23 (.tmp 28) (.tmp 29) 23) (ty := 4) (g := some (2, false)) (by kernel_rfl) ⟨27, by kernel_rfl, rfl⟩ rfl (qv_gtr rfl rfl rfl) ?_
  refine go_q0 31 (.pick (.tmp 27) (.const (.bool true)) (.tmp 30)) 4 (qv_pick_f rfl rfl) ?_
  refine go_nil ?_
  change G _ _ _ _
  refine p_weaken [0, 1, 5, 6, 31] rfl ?_
  refine p_cond (.tmp 31) (by kernel_rfl) rfl (fun h31 => ?_) (fun h31 => ?_)
  · replace h31 := kn h31
    have hY : ∀ y ∈ g, tick' < dueR bd y := fun y hy => by have := hmin y hy; have h31' : tick' < a := h31; omega
    refine p_seq0 ?_
    refine p_plain0 (0 :: 1 :: []) ?_
    refine go_q0 32 (.move (.tmp 5)) 85 (qv_move rfl) ?_
    refine go_q0 4 (.assign (.tmp 32)) 85 (qv_assign rfl) ?_
    refine go_nil ?_
    change G _ _ _ _
    refine p_weaken [0, 1, 4, 5, 6] rfl ?_
    refine p_ret0 ?_
    try dsimp only [thenQ, inBlockQ]
    try rw [if_pos rfl]
    refine ret_left (B ++ M1) (.inr rfl) (.cons (res_tmp rfl) .nil) .auto ?_
    exact ⟨g, out, q, cq, B, M1, hS.fin hY, rfl, hB, hM1, rfl⟩
  replace h31 := kn h31
  have h31' : ¬ tick' < a := h31
  refine p_skip0 ?_
  change G _ _ _ _
  refine p_weaken [0, 1, 5, 6] rfl ?_
  refine p_seq0 ?_
  refine p_plain0 (0 :: []) ?_
  refine go_q0 8 (.assign (.const (.int .i64 0))) 3 (qv_assign rfl) ?_
  refine go_nil ?_
  change G _ _ _ _
  refine p_seq0 ?_
  refine p_block 2 (by kernel_rfl) ?_
  refine p_loopE (by kernel_rfl) (fun s m => ∃ (i : Nat), (i < g.length) ∧ (∀ (j : Nat) (y : Rec), j < i → g[j]? = some y → ¬ dueR bd y = a) ∧ Ge s ⟨[], [(0, .pointer (some ⟨br, 0, none⟩)), (1, .int .u64 tick'), (5, .slice q out.length cq), (6, .int .u64 a), (8, .int .i64 i)], B ++ M1⟩ ∧ m = g.length - i) ?_ ?_
  · exact ⟨_, ⟨0, List.length_pos_of_mem hx0, fun j y hj => absurd hj (Nat.not_lt_zero _), ⟨rfl, ⟨[0, 1, 5, 6, 8], rfl⟩, .auto⟩, rfl⟩⟩
  rintro s m ⟨i, hi, hfst, hs, rfl⟩
  refine ge_ok hs ?_
  refine p_seq0 ?_
  refine p_seq0 ?_
  obtain ⟨x, hx⟩ : ∃ x, g[i]? = some x := ⟨_, List.getElem?_eq_getElem hi⟩
  have hxw := (hM1.ri.wf x (List.mem_of_getElem? hx)).1
  have hM1c := hM1
  obtain ⟨b, cur, c1, rfl, H⟩ := hM1.at_ hi
  have hD := ct_rdue (br := br) (n := g.length) (c := c1) (tick := tick') (p := some ⟨b, 0, none⟩) hbd hxw
  have hId := ct_ridle (br := br) (n := g.length) (c := c1) (tick := tick') (p := some ⟨b, 0, none⟩) hbd hxw
  refine p_plain0 (0 :: 1 :: 2 :: 3 :: 4 :: 5 :: 6 :: 7 :: 8 :: 9 :: 10 :: []) ?_
  refine go_q0 33 (.move (.tmp 0)) 47 (qv_move rfl) ?_
  refine go_q0 34 (.move (.tmp 0)) 47 (qv_move rfl) ?_
  refine go_q0 35 (.nilCheck (.tmp 34)) 0 (qv_nilCheck rfl) ?_
  refine go_q0 36 (.fieldAddr 87 (.tmp 35) 2) 0 (qv_field rfl fd87_2) ?_
  refine go_q0 37 (.load 85 (.tmp 36)) 85 (qv_load rfl .auto (ldv_sca sc85 (get_RCac_6 _))) ?_
  refine go_q0 38 (.move (.tmp 8)) 3 (qv_move rfl) ?_
  refine go_q0 39 (.indexAddr 85 (.tmp 37) (.tmp 38)) 0 (qv_index un85 sz100 rfl rfl rfl hi) ?_
  refine go_q0 40 (.load 100 (.tmp 39)) 100 (qv_load rfl .auto (ldv_els H hx (by decide) agg100 rfl)) ?_
  refine go_s0 (some 41) (.call { callee := .value (.func 71), args := #[.tmp 33, .tmp 40], argTypes := #[47, 100] }) 23 ?_
  refine os_pv rfl (pv_callR en71 rfl .auto (hD)) ?_
  refine go_q0 42 (.move (.tmp 6)) 23 (qv_move rfl) ?_
  refine go_q0 43 (.binOp .neq 23 (.tmp 41) (.tmp 42) 23) 4 (qv_neq rfl rfl rfl) ?_
  refine go_nil ?_
  change G _ _ _ _
  refine p_weaken [0, 1, 5, 6, 8, 43] rfl ?_
  refine p_cond (.tmp 43) (by kernel_rfl) rfl (fun h43 => ?_) (fun h43 => ?_)
  · replace h43 := kn h43
    have hfn : ∀ (j : Nat) (y : Rec), j < i + 1 → g[j]? = some y → ¬ dueR bd y = a := fun j y hj hy => by
      rcases Nat.lt_or_ge j i with h1 | h1
      · exact hfst j y h1 hy
      · have : j = i := by omega
        subst this
        rw [hx] at hy
        cases hy
        exact h43
    have hin : i + 1 < g.length := by
      obtain ⟨i0, hi0, rfl⟩ := List.getElem_of_mem hx0
      rcases Nat.lt_or_ge i0 (i + 1) with h1 | h1
      · exact absurd ha.symm (hfn i0 _ h1 (List.getElem?_eq_getElem hi0))
      · omega
    refine p_skip0 ?_
    change G _ _ _ _
    refine p_weaken [0, 1, 5, 6, 8] rfl ?_
    refine p_block 3 (by kernel_rfl) ?_
    refine p_plain0 (0 :: 1 :: 2 :: []) ?_
    refine go_q0 44 (.move (.tmp 8)) 3 (qv_move rfl) ?_
    refine go_q0 45 (.binOp .add 3 (.tmp 44) (.const (.int .i64 1)) 3) 3 (qv_add rfl rfl (by first | exact IntWalk.i64_in _ (by omega) | exact IntWalk.i64_in _ (by dsimp only; omega) | rfl)) ?_
    refine go_q0 8 (.assign (.tmp 45)) 3 (qv_assign rfl) ?_
    refine go_nil ?_
    exact ⟨_, ⟨i + 1, hin, hfn, ⟨rfl, ⟨[0, 1, 5, 6, 8], rfl⟩, .auto⟩, rfl⟩, by omega⟩
  replace h43 := kn h43
  have h43' : dueR bd x = a := h43
  have hSn := hS.step hx (by rw [h43']; exact hmin) (by rw [h43']; exact hfst) (by omega)
  have hre := reason_due h43'
  refine p_exit 2 (by kernel_rfl) ?_
  change G _ _ _ _
  refine p_weaken [0, 1, 5, 6, 8] rfl ?_
  refine p_seq0 ?_
  refine p_plain0 (0 :: []) ?_
  refine go_q0 9 (.assign (.const (.int .u8 2))) 5 (qv_assign rfl) ?_
  refine go_nil ?_
  change G _ _ _ _
  refine p_seqK [0, 1, 5, 8] rfl (fun frk Mk s => Ge s ⟨[], (9, .int .u8 (reasonR bd x)) :: frk, B ++ [rcO br tick' bd (some ⟨b, 0, none⟩) g.length c1, (b, .cells cur 100 (0, 0))]⟩) (by kernel_rfl) ?_ ?_
  rotate_left
  · rintro s hs
    refine ge_ok hs ?_
    have hE := ct_rend (reasonR bd x) hM1c hx
    have hcl := cutAt_len hx
    refine p_plain0 (0 :: 1 :: 2 :: 3 :: 4 :: 5 :: 6 :: 7 :: []) ?_
    refine go_q0 57 (.move (.tmp 5)) 85 (qv_move rfl) ?_
    refine go_q0 58 (.move (.tmp 0)) 47 (qv_move rfl) ?_
    refine go_q0 59 (.move (.tmp 8)) 3 (qv_move rfl) ?_
    refine go_q0 60 (.move (.tmp 9)) 5 (qv_move rfl) ?_
    refine go_s0 (some 61) (.call { callee := .value (.func 70), args := #[.tmp 58, .tmp 59, .tmp 60], argTypes := #[47, 3, 5] }) 100 ?_
    refine os_call (Nat.le_of_ble_eq_true rfl) en70 rfl (Sel.skipA Sel.all) (hE) ?_
    rintro v61 A61 ⟨rfl, hMn⟩
    try dsimp only [List.nil_append, List.cons_append]
    refine go_s0 (some 62) (.buildSlice 85 1 #[(0, .tmp 61)]) 85 ?_
    refine os_buildSlice (Nat.le_of_ble_eq_true rfl) rfl (bls85_1 _) (fun b62 => ?_)
    refine go_s0 (some 63) (.call { callee := .builtin .append, args := #[.tmp 57, .tmp 62], argTypes := #[85, 85] }) 85 ?_
    refine os_appendK (E := eRec) (l := out) (l2 := [{ x with reason := reasonR bd x }]) rfl el85 rfl rfl rfl rfl (hB) .auto .auto (Go.E.holds_one _) (one_Rec) (by simp [maxLen] <;> omega) (by simp <;> omega) (fun p63 c63 A63 h63 => ?_)
    refine go_q0 5 (.assign (.tmp 63)) 85 (qv_assign rfl) ?_
    refine go_nil ?_
    exact ⟨_, ⟨_, _, _, _, _, _, hSn, h63, hMn, ⟨rfl, ⟨[0, 1, 5], rfl⟩, .auto⟩, rfl⟩, by omega⟩
  refine p_seq0 ?_
  refine p_plain0 (0 :: 1 :: 2 :: 3 :: 4 :: 5 :: 6 :: 7 :: 8 :: 9 :: 10 :: []) ?_
  refine go_q0 46 (.move (.tmp 0)) 47 (qv_move rfl) ?_
  refine go_q0 47 (.move (.tmp 0)) 47 (qv_move rfl) ?_
  refine go_q0 48 (.nilCheck (.tmp 47)) 0 (qv_nilCheck rfl) ?_
  refine go_q0 49 (.fieldAddr 87 (.tmp 48) 2) 0 (qv_field rfl fd87_2) ?_
  refine go_q0 50 (.load 85 (.tmp 49)) 85 (qv_load rfl .auto (ldv_sca sc85 (get_RCac_6 _))) ?_
  refine go_q0 51 (.move (.tmp 8)) 3 (qv_move rfl) ?_
  refine go_q0 52 (.indexAddr 85 (.tmp 50) (.tmp 51)) 0 (qv_index un85 sz100 rfl rfl rfl hi) ?_
  refine go_q0 53 (.load 100 (.tmp 52)) 100 (qv_load rfl .auto (ldv_els H hx (by decide) agg100 rfl)) ?_
  refine go_s0 (some 54) (.call { callee := .value (.func 72), args := #[.tmp 46, .tmp 53], argTypes := #[47, 100] }) 23 ?_
  refine os_pv rfl (pv_callR en72 rfl .auto (hId)) ?_
  refine go_q0 55 (.move (.tmp 6)) 23 (qv_move rfl) ?_
  refine go_q0 56 (.binOp .eql 23 (.tmp 54) (.tmp 55) 23) 4 (qv_eql rfl rfl rfl) ?_
  refine go_nil ?_
  change G _ _ _ _
  refine p_weaken [0, 1, 5, 8, 9, 56] rfl ?_
  refine p_cond (.tmp 56) (by kernel_rfl) rfl (fun h56 => ?_) (fun h56 => ?_)
  rotate_left
  · replace h56 := kn h56
    have hr := hre.2 h56
    refine p_skip0 ?_
    rw [hr]
    exact ⟨rfl, ⟨[9, 0, 1, 5, 8], rfl⟩, .auto⟩
  replace h56 := kn h56
  have hr := hre.1 h56
  refine p_plain0 (0 :: []) ?_
  refine go_q0 9 (.assign (.const (.int .u8 1))) 5 (qv_assign rfl) ?_
  refine go_nil ?_
  rw [hr]
  exact ⟨rfl, ⟨[9, 0, 1, 5, 8], rfl⟩, .auto⟩
theorem ct_rAdvanceAny (tick' : Int) (hM : RcM br tick bd g0 M) :
    Ct Tryz.prog 36 [.pointer (some ⟨br, 0, none⟩), .int .u64 tick'].toArray M (fun v M' => ∃ g out q cq B M1, AdvAny bd tick tick' g0 g out ∧ v = .slice q out.length cq ∧ OwnL eRec 100 q cq out B ∧ RcM br (tickTo tick tick') bd g M1 ∧ M' = B ++ M1) := by
  by_cases h : tick ≤ tick'
  · refine (ct_rAdvance hM h).mono ?_
    rintro v M' ⟨fl', out, q, cq, B, M1, hA, hv, hO, hM1, hM'⟩
    exact ⟨fl', out, q, cq, B, M1, .inr ⟨h, hA⟩, hv, hO, by unfold tickTo; rw [if_pos h]; exact hM1, hM'⟩
  · refine (ct_rAdvanceLow hM (by omega)).mono ?_
    rintro v M' ⟨hv, hM'⟩
    exact ⟨g0, [], none, 0, [], M, .inl ⟨by omega, rfl, rfl⟩, hv, OwnL.nil, by unfold tickTo; rw [if_neg h]; exact hM, hM'⟩
theorem ct_rFlush (hM : RcM br tick bd g0 M) :
    Ct Tryz.prog 37 [.pointer (some ⟨br, 0, none⟩)].toArray M (fun v M' => ∃ q cq B M1, v = .slice q (told (fun _ => 4) g0).length cq ∧ OwnL eRec 100 q cq (told (fun _ => 4) g0) B ∧ RcM br tick bd [] M1 ∧ M' = B ++ M1) := by
  have hI := hM.ri
  have hle := hI.le
  have hmost := hI.most
  refine ct_body (rv := [.tmp 2]) [(0, _)] Tryz.func37 (by kernel_rfl) Tryz.ntmps37 Tryz.results37 rfl rfl (fun w0 => ?_)
  refine p_seq0 ?_
  refine p_plain0 (0 :: []) ?_
  refine go_q0 2 (.assign (.const (.slice none 0 0))) 85 (qv_assign rfl) ?_
  refine go_nil ?_
  change G _ _ _ _
  refine p_seq0 ?_
  refine p_plain0 (0 :: []) ?_
  refine go_q0 3 (.assign (.const (.slice none 0 0))) 85 (qv_assign rfl) ?_
  refine go_nil ?_
  change G _ _ _ _
  refine p_seq0 ?_
  refine p_block 0 (by kernel_rfl) ?_
  refine p_loopE (by kernel_rfl) (fun s m => ∃ (g : List Rec) (out : List Rec) (q : Option Addr) (cq : Nat) (B : Mem) (M1 : Mem), (out.length + g.length = g0.length) ∧ (out ++ told (fun _ => 4) g = told (fun _ => 4) g0) ∧ (OwnL eRec 100 q cq out B) ∧ (RcM br tick bd g M1) ∧ Ge s ⟨[], [(0, .pointer (some ⟨br, 0, none⟩)), (3, .slice q out.length cq)], B ++ M1⟩ ∧ m = g.length) ?_ ?_
  · exact ⟨_, ⟨g0, [], none, 0, [], _, by simp, rfl, OwnL.nil, hM, ⟨rfl, ⟨[0, 3], rfl⟩, .auto⟩, rfl⟩⟩
  rintro s m ⟨g, out, q, cq, B, M1, hol, hout, hB, hM1, hs, rfl⟩
  refine ge_ok hs ?_
  refine p_seq0 ?_
  refine p_seq0 ?_
  have hM1c := hM1
  obtain ⟨p, c, A, hI1, hO1, rfl⟩ := hM1
  refine p_plain0 (0 :: 1 :: 2 :: 3 :: 4 :: 5 :: []) ?_
  refine go_q0 4 (.move (.tmp 0)) 47 (qv_move rfl) ?_
  refine go_q0 5 (.nilCheck (.tmp 4)) 0 (qv_nilCheck rfl) ?_
  refine go_q0 6 (.fieldAddr 87 (.tmp 5) 2) 0 (qv_field rfl fd87_2) ?_
  refine go_q0 7 (.load 85 (.tmp 6)) 85 (qv_load rfl .auto (ldv_sca sc85 (get_RCac_6 _))) ?_
  refine go_q0 8 (.call { callee := .builtin .len, args := #[.tmp 7], argTypes := #[85] }) 3 (qv_lenS un85 rfl) ?_
  refine go_q0 9 (.binOp .gtr 3 (.tmp 8) (.const (.int .i64 0)) 3) 4 (qv_gtr rfl rfl rfl) ?_
  refine go_nil ?_
  change G _ _ _ _
  refine p_weaken [0, 3, 9] rfl ?_
  refine p_cond (.tmp 9) (by kernel_rfl) rfl (fun h9 => ?_) (fun h9 => ?_)
  rotate_left
  · replace h9 := kn h9
    refine p_exit 0 (by kernel_rfl) ?_
    change G _ _ _ _
    refine p_weaken [3] rfl ?_
    refine p_seq0 ?_
    refine p_plain0 (0 :: 1 :: []) ?_
    refine go_q0 15 (.move (.tmp 3)) 85 (qv_move rfl) ?_
    refine go_q0 2 (.assign (.tmp 15)) 85 (qv_assign rfl) ?_
    refine go_nil ?_
    change G _ _ _ _
    refine p_weaken [2] rfl ?_
    refine p_ret0 ?_
    try dsimp only [thenQ, inBlockQ]
    try rw [if_pos rfl]
    have hg : g = [] := List.length_eq_zero_iff.1 (by omega)
    subst hg
    rw [show told (fun _ => 4) ([] : List Rec) = [] from rfl, List.append_nil] at hout
    subst hout
    refine ret_left (B ++ (rcO br tick bd p ([] : List Rec).length c :: A)) (.inr rfl) (.cons (res_tmp rfl) .nil) .auto ?_
    exact ⟨q, cq, B, _, rfl, hB, hM1c, rfl⟩
  replace h9 := kn h9
  refine p_skip0 ?_
  change G _ _ _ _
  refine p_weaken [0, 3] rfl ?_
  refine p_block 1 (by kernel_rfl) ?_
  obtain ⟨x, hx⟩ : ∃ x, g[0]? = some x := ⟨_, List.getElem?_eq_getElem (by omega)⟩
  have hE := ct_rend (i := 0) 4 hM1c hx
  have hcl := cutAt_len hx
  have hon : (out ++ [{ x with reason := 4 }]) ++ told (fun _ => 4) (cutAt g 0) = told (fun _ => 4) g0 := by
    cases g with
    | nil => cases hx
    | cons y t => cases hx; rw [← hout]; simp [told, cutAt]
  refine p_plain0 (0 :: 1 :: 2 :: 3 :: 4 :: 5 :: []) ?_
  refine go_q0 10 (.move (.tmp 3)) 85 (qv_move rfl) ?_
  refine go_q0 11 (.move (.tmp 0)) 47 (qv_move rfl) ?_
  refine go_s0 (some 12) (.call { callee := .value (.func 70), args := #[.tmp 11, .const (.int .i64 0), .const (.int .u8 4)], argTypes := #[47, 3, 5] }) 100 ?_
  refine os_call (Nat.le_of_ble_eq_true rfl) en70 rfl (Sel.skipA Sel.all) (hE) ?_
  rintro v12 A12 ⟨rfl, hMn⟩
  try dsimp only [List.nil_append, List.cons_append]
  refine go_s0 (some 13) (.buildSlice 85 1 #[(0, .tmp 12)]) 85 ?_
  refine os_buildSlice (Nat.le_of_ble_eq_true rfl) rfl (bls85_1 _) (fun b13 => ?_)
  refine go_s0 (some 14) (.call { callee := .builtin .append, args := #[.tmp 10, .tmp 13], argTypes := #[85, 85] }) 85 ?_
  refine os_appendK (E := eRec) (l := out) (l2 := [{ x with reason := 4 }]) rfl el85 rfl rfl rfl rfl (hB) .auto .auto (Go.E.holds_one _) (one_Rec) (by simp [maxLen] <;> omega) (by simp <;> omega) (fun p14 c14 A14 h14 => ?_)
  refine go_q0 3 (.assign (.tmp 14)) 85 (qv_assign rfl) ?_
  refine go_nil ?_
  exact ⟨_, ⟨_, _, _, _, _, _, by rw [List.length_append]; simp only [List.length_cons, List.length_nil]; omega, hon, h14, hMn, ⟨rfl, ⟨[0, 3], rfl⟩, .auto⟩, rfl⟩, by omega⟩
end
/-- A record that was written over. -/
def spoilR : Rec := { zeroR with reason := 77 }
/-- Are records the document's? They are written over. -/
theorem ct_SameFlows {p q : Option Addr} {c d : Nat} {l : List Rec} {A Gm : Mem} (hO : OwnL eRec 69 p c l A) (hG : Lst eRec q l Gm) (hm : l.length ≤ 100000) :
    Ct Tryz.prog 35 [.slice p l.length c, .slice q l.length d].toArray (A ++ Gm) (fun v M' => v = .bool true ∧ M' = Gm) := by
  refine ct_body (rv := [.tmp 4]) [(0, _), (1, _)] Tryz.func35 (by kernel_rfl) Tryz.ntmps35 Tryz.results35 rfl rfl (fun w0 => ?_)
  refine p_seq0 ?_
  refine p_plain0 (0 :: []) ?_
  refine go_q0 4 (.assign (.const (.bool false))) 4 (qv_assign rfl) ?_
  refine go_nil ?_
  change G _ _ _ _
  refine p_seq0 ?_
  refine p_seq0 ?_
  refine p_plain0 (0 :: 1 :: 2 :: 3 :: 4 :: []) ?_
  refine go_q0 6 (.move (.tmp 0)) 55 (qv_move rfl) ?_
  refine go_q0 7 (.call { callee := .builtin .len, args := #[.tmp 6], argTypes := #[55] }) 3 (qv_lenS un55 rfl) ?_
  refine go_q0 8 (.move (.tmp 1)) 85 (qv_move rfl) ?_
  refine go_q0 9 (.call { callee := .builtin .len, args := #[.tmp 8], argTypes := #[85] }) 3 (qv_lenS un85 rfl) ?_
  refine go_q0 10 (.binOp .neq 3 (.tmp 7) (.tmp 9) 3) 4 (qv_neq (b := false) rfl rfl (by simp)) ?_
  refine go_nil ?_
  change G _ _ _ _
  refine p_weaken [0, 1, 4, 10] rfl ?_
  refine p_condF (.tmp 10) (by kernel_rfl) rfl ?_
  refine p_skip0 ?_
  change G _ _ _ _
  refine p_weaken [0, 1, 4] rfl ?_
  refine p_seq0 ?_
  refine p_seq0 ?_
  refine p_plain0 (0 :: []) ?_
  refine go_q0 5 (.assign (.const (.int .i64 0))) 3 (qv_assign rfl) ?_
  refine go_nil ?_
  change G _ _ _ _
  refine p_block 0 (by kernel_rfl) ?_
  refine p_loopE (by kernel_rfl) (fun s m => ∃ (i : Nat) (l2 : List Rec) (A2 : Mem), (i ≤ l.length) ∧ (l2.length = l.length) ∧ (∀ j : Nat, i ≤ j → l2[j]? = l[j]?) ∧ (OwnL eRec 69 p c l2 A2) ∧ Ge s ⟨[], [(0, .slice p l.length c), (1, .slice q l.length d), (5, .int .i64 i)], A2 ++ Gm⟩ ∧ m = l.length + 1 - i) ?_ ?_
  · exact ⟨_, ⟨0, l, A, by omega, rfl, fun _ _ => rfl, hO, ⟨rfl, ⟨[0, 1, 5], rfl⟩, .auto⟩, rfl⟩⟩
  rintro s m ⟨i, l2, A2, hi, hll, hrest, hO2, hs, rfl⟩
  refine ge_ok hs ?_
  refine p_seq0 ?_
  refine p_seq0 ?_
  refine p_plain0 (0 :: 1 :: 2 :: 3 :: []) ?_
  refine go_q0 11 (.move (.tmp 5)) 3 (qv_move rfl) ?_
  refine go_q0 12 (.move (.tmp 0)) 55 (qv_move rfl) ?_
  refine go_q0 13 (.call { callee := .builtin .len, args := #[.tmp 12], argTypes := #[55] }) 3 (qv_lenS un55 rfl) ?_
  refine go_q0 14 (.binOp .lss 3 (.tmp 11) (.tmp 13) 3) 4 (qv_lss rfl rfl rfl) ?_
  refine go_nil ?_
  change G _ _ _ _
  refine p_weaken [0, 1, 5, 14] rfl ?_
  refine p_cond (.tmp 14) (by kernel_rfl) rfl (fun h14 => ?_) (fun h14 => ?_)
  rotate_left
  · replace h14 := kn h14
    refine p_exit 0 (by kernel_rfl) ?_
    change G _ _ _ _
    refine p_weaken [] rfl ?_
    refine p_seq0 ?_
    refine p_plain0 (0 :: []) ?_
    refine go_q0 4 (.assign (.const (.bool true))) 4 (qv_assign rfl) ?_
    refine go_nil ?_
    change G _ _ _ _
    refine p_ret0 ?_
    try dsimp only [thenQ, inBlockQ]
    try rw [if_pos rfl]
    refine ret_left (Gm) (.inr rfl) (.cons (res_tmp rfl) .nil) .auto ?_
    exact ⟨rfl, rfl⟩
  replace h14 := kn h14
  refine p_skip0 ?_
  change G _ _ _ _
  refine p_weaken [0, 1, 5] rfl ?_
  refine p_seq0 ?_
  refine p_block 1 (by kernel_rfl) ?_
  refine p_seq0 ?_
  refine p_seq0 ?_
  obtain ⟨b, cur, rfl, rfl, hc1, hc2, hc3, H⟩ := hO2.some_ (by omega)
  obtain ⟨b2, o2, cu2, e2, f2, rfl, mm, H2⟩ := hG.at_ (i := i) (by omega)
  obtain ⟨x, hx⟩ : ∃ x, l[i]? = some x := ⟨_, List.getElem?_eq_getElem (by omega)⟩
  have hx2 : l2[i]? = some x := by rw [hrest i (Nat.le_refl _)]; exact hx
  have hP := OwnL.put (e := 69) (b := b) spoilR hc1 hc2 hc3 H (show i < l2.length by omega)
  refine p_draw (by kernel_rfl) mixed 10 10 _ (fun _ h => h) (by kernel_rfl) ?_
  refine gd_all (0 :: 1 :: 2 :: 3 :: 4 :: 5 :: 6 :: 7 :: 8 :: 9 :: []) _ rfl (by kernel_rfl) (by decide) (fun _ h => h) rfl ?_
  refine sq_q0 17 (.move (.tmp 0)) 55 (qv_move rfl) ?_
  refine sq_q0 18 (.move (.tmp 5)) 3 (qv_move rfl) ?_
  refine sq_q0 19 (.indexAddr 55 (.tmp 17) (.tmp 18)) 0 (qv_index un55 sz69 rfl rfl rfl (by omega)) ?_
  refine sq_q0 20 (.load 69 (.tmp 19)) 69 (qv_load rfl .auto (ldv_els H hx2 (by decide) agg69 rfl)) ?_
  refine sq_p (d := 21) (op := .call { callee := .value (.func 41), args := #[.tmp 20], argTypes := #[69] }) (ty := 100) (g := none) (by kernel_rfl) trivial (pv_call en41 rfl (pu_docRecord x)) ?_
  refine sq_q0 22 (.move (.tmp 1)) 85 (qv_move rfl) ?_
  refine sq_q0 23 (.move (.tmp 5)) 3 (qv_move rfl) ?_
  refine sq_q0 24 (.indexAddr 85 (.tmp 22) (.tmp 23)) 0 (qv_index un85 sz100 rfl rfl rfl (by omega)) ?_
  refine sq_q0 25 (.load 100 (.tmp 24)) 100 (qv_load rfl (by repeat first | exact At.of_mem (List.mem_append_right _ mm) | apply At.next) (ldv_els H2 hx (by decide) agg100 rfl)) ?_
  refine sq_q0 26 (.binOp .neq 100 (.tmp 21) (.tmp 25) 100) 4 (qv_neq_100 (s := x) (t := x) (b := false) rfl rfl (by simp)) ?_
  refine SeqK.nil (fun β => ?_)
  refine gd_tail [] rfl (by kernel_rfl) (by kernel_rfl) ?_
  refine go_nil ?_
  change G _ _ _ _
  refine p_weaken [0, 1, 5, 26] rfl ?_
  refine p_condF (.tmp 26) (by kernel_rfl) rfl ?_
  refine p_skip0 ?_
  change G _ _ _ _
  refine p_weaken [0, 1, 5] rfl ?_
  refine p_plain0 (0 :: 1 :: 2 :: 3 :: 4 :: []) ?_
  refine go_q0 27 (.move (.tmp 0)) 55 (qv_move rfl) ?_
  refine go_q0 28 (.move (.tmp 5)) 3 (qv_move rfl) ?_
  refine go_q0 29 (.build 69 #[(6, .const (.int .u8 77))]) 69 (qv_build (v := .agg spoilR.c) rfl (fun w => by kernel_rfl)) ?_
  refine go_q0 30 (.indexAddr 55 (.tmp 27) (.tmp 28)) 0 (qv_index un55 sz69 rfl rfl rfl (by omega)) ?_
  refine go_s0 none (.store 69 (.tmp 30) (.tmp 29)) 0 ?_
  refine os_store rfl rfl sz69 rfl (one_Rec _) .auto (own_fit hc1 hc3 (show i < l2.length by omega)) rfl ?_
  refine go_nil ?_
  change G _ _ _ _
  refine p_weaken [0, 1, 5] rfl ?_
  refine p_plain0 (0 :: 1 :: 2 :: []) ?_
  refine go_q0 15 (.move (.tmp 5)) 3 (qv_move rfl) ?_
  refine go_q0 16 (.binOp .add 3 (.tmp 15) (.const (.int .i64 1)) 3) 3 (qv_add rfl rfl (by first | exact IntWalk.i64_in _ (by omega) | exact IntWalk.i64_in _ (by dsimp only; omega) | rfl)) ?_
  refine go_q0 5 (.assign (.tmp 16)) 3 (qv_assign rfl) ?_
  refine go_nil ?_
  exact ⟨_, ⟨i + 1, l2.set i spoilR, _, by omega, by rw [List.length_set]; exact hll, fun j hj => by rw [List.getElem?_set_ne (by omega)]; exact hrest j (by omega), hP, ⟨rfl, ⟨[0, 1, 5], rfl⟩, .auto⟩, rfl⟩, by omega⟩
end Go.Proofs.YtobmcpoejhhemaaGreat

namespace Go.Proofs.YtobmcpoejhhemaaGreat
open Go.E

theorem RI.ins {bd : Bnd} {X : List Rec} {k : Key} {cls tick : Int} (h : RI bd X) (hl : (X.length : Int) < bd.flows) (hk : k.Wf) (hr : k.right = true) (ht : InK .u64 tick) (hc : InK .u8 cls) (hn : k ∉ keysOf X) : RI bd (insAt X (startR k cls tick)) := by
  have hw : WfR (startR k cls tick) := ⟨startR_wf hk ht hc, hr⟩
  refine ⟨insAt_sort h.sort h.wf hw hn, fun r hr' => ?_, ?_, h.bw, h.most, h.least⟩
  · rcases List.mem_cons.1 (insAt_perm.mem_iff.1 hr') with rfl | h1
    · exact hw
    · exact h.wf r h1
  · rw [(insAt_perm (g := X) (r := startR k cls tick)).length_eq, List.length_cons]
    omega
theorem RI.set {bd : Bnd} {g : List Rec} {i : Nat} {r r' : Rec} (h : RI bd g) (hi : g[i]? = some r) (hk : r'.key = r.key) (hw : r'.Wf) : RI bd (g.set i r') := by
  refine ⟨set_sort h.sort hi hk, fun x hx => ?_, by rw [List.length_set]; exact h.le, h.bw, h.most, h.least⟩
  rcases List.mem_or_eq_of_mem_set hx with h1 | rfl
  · exact h.wf x h1
  · exact ⟨hw, by rw [hk]; exact (h.wf r (List.mem_of_getElem? hi)).2⟩
theorem okAt_mem {g : List Rec} {k : Key} (h : okAt g k = true) : k ∈ keysOf g := Decidable.byContradiction fun hn => by rw [okAt_F hn] at h; cases h
theorem okAt_not {g : List Rec} {k : Key} (hs : SortR g) (h : okAt g k = false) : k ∉ keysOf g := fun hn => by rw [okAt_T hs hn] at h; cases h
section
variable {br : Nat} {tick tick' cls : Int} {bd : Bnd} {g0 g1 g2 g out1 out2 : List Rec} {M : Mem} {r x : Rec} {p : Pkt} {k : Key}
theorem ct_rbegin (hM : RcM br tick bd g M) (hk : k.Wf) (hr : k.right = true) (hnew : k ∉ keysOf g) (ht : InK .u64 tick) (hcl : InK .u8 cls) :
    Ct Tryz.prog 68 [.pointer (some ⟨br, 0, none⟩), .agg k.c, .int .u8 cls].toArray M (fun v M' => ∃ X out q cq B M1, BegR bd g X out ∧ v = .slice q out.length cq ∧ OwnL eRec 100 q cq out B ∧ RcM br tick bd (insAt X (startR k cls tick)) M1 ∧ M' = B ++ M1) := by
  have hMc := hM
  have hIg := hM.ri
  have hle := hIg.le
  have hmost := hIg.most
  have hleast := hIg.least
  obtain ⟨p, c, A, hI, hO, rfl⟩ := hM
  refine ct_body (rv := [.tmp 6]) [(0, _), (1, _), (2, _)] Tryz.func68 (by kernel_rfl) Tryz.ntmps68 Tryz.results68 rfl rfl (fun w0 => ?_)
  refine p_seq0 ?_
  refine p_plain0 (0 :: 1 :: []) ?_
  refine go_s0 (some 4) (.box 92 (.tmp 1)) 0 ?_
  refine os_boxA rfl rfl (fun b4 => ?_)
  refine go_q0 6 (.assign (.const (.slice none 0 0))) 85 (qv_assign rfl) ?_
  refine go_nil ?_
  change G _ _ _ _
  refine p_weaken [0, 2, 4, 6] rfl ?_
  refine p_seq0 ?_
  refine p_plain0 (0 :: []) ?_
  refine go_q0 7 (.assign (.const (.slice none 0 0))) 85 (qv_assign rfl) ?_
  refine go_nil ?_
  change G _ _ _ _
  refine p_seqK [0, 2, 4, 6] rfl (fun frk Mk s => ∃ (X : List Rec) (out : List Rec) (q : Option Addr) (cq : Nat) (B : Mem) (M1 : Mem), (BegR bd g X out) ∧ (OwnL eRec 100 q cq out B) ∧ (RcM br tick bd X M1) ∧ Ge s ⟨[], (7, .slice q out.length cq) :: frk, B ++ ((b4, .cells k.c 92 (0, 0)) :: M1)⟩) (by kernel_rfl) ?_ ?_
  rotate_left
  · rintro s ⟨X, out, q, cq, B, M1, hB, hOo, hM1, hs⟩
    refine ge_ok hs ?_
    refine p_seq0 ?_
    have hF := ct_rfind hM1 hk
    have hnew1 : k ∉ keysOf X := fun h => by obtain ⟨x, hx, he⟩ := List.mem_map.1 h; exact hnew (List.mem_map.2 ⟨x, hB.sub x hx, he⟩)
    have hI2 := hM1.ri.ins (cls := cls) hB.less hk hr ht hcl hnew1
    have hless := hB.less
    refine p_plain0 (0 :: 1 :: 2 :: 3 :: 4 :: 5 :: 6 :: 7 :: []) ?_
    refine go_q0 58 (.move (.tmp 0)) 47 (qv_move rfl) ?_
    refine go_q0 59 (.load 92 (.tmp 4)) 92 (qv_load rfl .auto (ldv_agg agg92 (extw_Key _) (Nat.le_of_ble_eq_true rfl))) ?_
    refine go_s0 (some 60) (.call { callee := .value (.func 67), args := #[.tmp 58, .tmp 59], argTypes := #[47, 92] }) 131 ?_
    refine os_pv rfl (pv_callR en67 rfl (Sel.skipA (Sel.skip Sel.all)) (hF)) ?_
    refine go_q0 57 (.move (.tmp 60)) 131 (qv_move rfl) ?_
    refine go_q0 61 (.extract (.tmp 57) 0) 3 (qv_extract rfl rfl) ?_
    refine go_q0 62 (.extract (.tmp 57) 1) 4 (qv_extract rfl rfl) ?_
    refine go_q0 10 (.assign (.tmp 61)) 3 (qv_assign rfl) ?_
    refine go_q0 11 (.assign (.tmp 62)) 4 (qv_assign rfl) ?_
    refine go_nil ?_
    change G _ _ _ _
    refine p_weaken [0, 2, 4, 6, 7, 10] rfl ?_
    refine p_seq0 ?_
    refine p_plain0 (0 :: []) ?_
    refine go_q0 12 (.assign (.const (.slice none 0 0))) 85 (qv_assign rfl) ?_
    refine go_nil ?_
    change G _ _ _ _
    refine p_seq0 ?_
    obtain ⟨p1, c1, A1, hI1, hO1, rfl⟩ := hM1
    have hfa := (findAt_spec X k).1
    have hT := (hO1.cut (findAt X k)).vw
    have hD := hO1.vwDrop (h := findAt X k) (sz := 44) hfa rfl
    have hcap := hO1.len_cap
    have htl : (X.take (findAt X k)).length = findAt X k := by simp; omega
    refine p_plain0 (0 :: 1 :: 2 :: 3 :: 4 :: 5 :: 6 :: 7 :: 8 :: []) ?_
    refine go_q0 63 (.move (.tmp 12)) 85 (qv_move rfl) ?_
    refine go_q0 64 (.move (.tmp 0)) 47 (qv_move rfl) ?_
    refine go_q0 65 (.nilCheck (.tmp 64)) 0 (qv_nilCheck rfl) ?_
    refine go_q0 66 (.fieldAddr 87 (.tmp 65) 2) 0 (qv_field rfl fd87_2) ?_
    refine go_q0 67 (.load 85 (.tmp 66)) 85 (qv_load rfl .auto (ldv_sca sc85 (get_RCac_6 _))) ?_
    refine go_q0 68 (.move (.tmp 10)) 3 (qv_move rfl) ?_
    refine go_q0 69 (.slice 85 (.tmp 67) none (some (.tmp 68)) none) 85 (qv_cutO (h := findAt X k) hO1 un85 sz100 rfl rfl rfl (by omega)) ?_
    refine go_s0 (some 70) (.call { callee := .builtin .append, args := #[.tmp 63, .tmp 69], argTypes := #[85, 85] }) 85 ?_
    refine os_appendV (E := eRec) (l := []) (l2 := X.take (findAt X k)) rfl el85 rfl rfl rfl htl.symm OwnL.nil .nil hT (fun q hq => List.mem_append_right _ (.tail _ (.tail _ hq))) one_Rec (by rw [htl]; simp [maxLen]; omega) (by rw [htl]; simp; omega) (fun p70 c70 A70 h70 => ?_)
    rw [List.nil_append] at h70 ⊢
    refine go_q0 12 (.assign (.tmp 70)) 85 (qv_assign rfl) ?_
    refine go_nil ?_
    change G _ _ _ _
    refine p_weaken [0, 2, 4, 6, 7, 10, 12] rfl ?_
    refine p_seq0 ?_
    refine p_draw (by kernel_rfl) mixed 10 11 [(b4, .cells k.c 92 (0, 0)), rcO br tick bd p1 X.length c1] (by first | (simp; done) | (intro q hq; simp [hq]; done)) (by kernel_rfl) ?_
    refine gd_q (i := 0) (d := 71) (op := .move (.tmp 12)) (ty := 85) (g := none) (by kernel_rfl) trivial rfl (by kernel_rfl) (by kernel_rfl) (by kernel_rfl) (by kernel_rfl) (qv_move rfl) ?_
    refine gd_q (i := 1) (d := 72) (op := .load 92 (.tmp 4)) (ty := 92) (g := none) (by kernel_rfl) trivial rfl (by kernel_rfl) (by kernel_rfl) (by kernel_rfl) (by kernel_rfl) (qv_load rfl .auto (ldv_agg agg92 (extw_Key _) (Nat.le_of_ble_eq_true rfl))) ?_
    refine gd_q (i := 2) (d := 73) (op := .move (.tmp 2)) (ty := 5) (g := none) (by kernel_rfl) trivial rfl (by kernel_rfl) (by kernel_rfl) (by kernel_rfl) (by kernel_rfl) (qv_move rfl) ?_
    refine gd_q (i := 3) (d := 74) (op := .move (.tmp 0)) (ty := 47) (g := none) (by kernel_rfl) trivial rfl (by kernel_rfl) (by kernel_rfl) (by kernel_rfl) (by kernel_rfl) (qv_move rfl) ?_
    refine gd_q (i := 4) (d := 75) (op := .nilCheck (.tmp 74)) (ty := 0) (g := none) (by kernel_rfl) trivial rfl (by kernel_rfl) (by kernel_rfl) (by kernel_rfl) (by kernel_rfl) (qv_nilCheck rfl) ?_
    refine gd_q (i := 5) (d := 76) (op := .fieldAddr 87 (.tmp 75) 0) (ty := 0) (g := none) (by kernel_rfl) trivial rfl (by kernel_rfl) (by kernel_rfl) (by kernel_rfl) (by kernel_rfl) (qv_field rfl fd87_0) ?_
    refine gd_q (i := 6) (d := 77) (op := .load 23 (.tmp 76)) (ty := 23) (g := none) (by kernel_rfl) trivial rfl (by kernel_rfl) (by kernel_rfl) (by kernel_rfl) (by kernel_rfl) (qv_load rfl .auto (ldv_sca sc23 (get_RCac_0 _))) ?_
    refine gd_one (i := 7) (d := some 78) (op := .call { callee := .value (.func 92), args := #[.tmp 72, .tmp 73, .tmp 77], argTypes := #[92, 5, 23] }) (ty := 100) (g := none) (by kernel_rfl) trivial rfl (by kernel_rfl) ?_
    refine os_callP rfl en92 rfl (pu_refStart k cls tick) ?_
    refine ⟨fun _ h => by first | exact h | (cases h; done) | exact .tail _ h | exact .tail _ (.tail _ h) | exact List.mem_append_right _ (List.mem_append_right _ h) | exact List.mem_append_right _ h | (simp only [List.mem_cons, List.not_mem_nil, or_false] at h ⊢; first | exact .inl h | exact .inr (.inl h) | exact .inr (.inr (.inl h)) | exact .inr (.inr (.inr (.inl h))) | (subst h; simp; done) | grind), ?_⟩
    refine gd_one (i := 8) (d := some 79) (op := .buildSlice 85 1 #[(0, .tmp 78)]) (ty := 85) (g := none) (by kernel_rfl) trivial rfl (by kernel_rfl) ?_
    refine os_buildSlice (Nat.le_of_ble_eq_true rfl) rfl (bls85_1 _) (fun b79 => ?_)
    refine ⟨fun _ h => by first | exact h | (cases h; done) | exact .tail _ h | exact .tail _ (.tail _ h) | exact List.mem_append_right _ (List.mem_append_right _ h) | exact List.mem_append_right _ h | (simp only [List.mem_cons, List.not_mem_nil, or_false] at h ⊢; first | exact .inl h | exact .inr (.inl h) | exact .inr (.inr (.inl h)) | exact .inr (.inr (.inr (.inl h))) | (subst h; simp; done) | grind), ?_⟩
    refine gd_one (i := 9) (d := some 80) (op := .call { callee := .builtin .append, args := #[.tmp 71, .tmp 79], argTypes := #[85, 85] }) (ty := 85) (g := none) (by kernel_rfl) trivial rfl (by kernel_rfl) ?_
    refine os_appendK (E := eRec) (l := X.take (findAt X k)) (l2 := [startR k cls tick]) rfl el85 rfl rfl rfl rfl (h70) .auto .auto (Go.E.holds_one _) (one_Rec) (by simp [maxLen] <;> omega) (by simp <;> omega) (fun p80 c80 A80 h80 => ?_)
    refine ⟨fun _ h => by first | exact h | (cases h; done) | exact .tail _ h | exact .tail _ (.tail _ h) | exact List.mem_append_right _ (List.mem_append_right _ h) | exact List.mem_append_right _ h | (simp only [List.mem_cons, List.not_mem_nil, or_false] at h ⊢; first | exact .inl h | exact .inr (.inl h) | exact .inr (.inr (.inl h)) | exact .inr (.inr (.inr (.inl h))) | (subst h; simp; done) | grind), ?_⟩
    refine gd_tail [10] rfl (by kernel_rfl) (by kernel_rfl) ?_
    refine go_q0 12 (.assign (.tmp 80)) 85 (qv_assign rfl) ?_
    refine go_nil ?_
    change G _ _ _ _
    refine p_weaken [0, 6, 7, 10, 12] rfl ?_
    refine p_seq0 ?_
    refine p_plain0 (0 :: 1 :: 2 :: 3 :: 4 :: 5 :: 6 :: 7 :: 8 :: 9 :: 10 :: 11 :: []) ?_
    refine go_q0 81 (.move (.tmp 0)) 47 (qv_move rfl) ?_
    refine go_q0 82 (.move (.tmp 12)) 85 (qv_move rfl) ?_
    refine go_q0 83 (.move (.tmp 0)) 47 (qv_move rfl) ?_
    refine go_q0 84 (.nilCheck (.tmp 83)) 0 (qv_nilCheck rfl) ?_
    refine go_q0 85 (.fieldAddr 87 (.tmp 84) 2) 0 (qv_field rfl fd87_2) ?_
    refine go_q0 86 (.load 85 (.tmp 85)) 85 (qv_load rfl .auto (ldv_sca sc85 (get_RCac_6 _))) ?_
    refine go_q0 87 (.move (.tmp 10)) 3 (qv_move rfl) ?_
    refine go_q0 88 (.slice 85 (.tmp 86) (some (.tmp 87)) none none) 85 (qv_dropO (h := findAt X k) hO1 un85 sz100 rfl rfl rfl rfl hfa) ?_
    refine go_s0 (some 89) (.call { callee := .builtin .append, args := #[.tmp 82, .tmp 88], argTypes := #[85, 85] }) 85 ?_
    refine os_appendV (E := eRec) (l := X.take (findAt X k) ++ [startR k cls tick]) (l2 := X.drop (findAt X k)) rfl el85 rfl rfl rfl rfl h80 .auto hD (fun q hq => by simp [hq]) one_Rec (by simp [maxLen]; omega) (by simp; omega) (fun p89 c89 A89 h89 => ?_)
    have e89 : X.take (findAt X k) ++ [startR k cls tick] ++ X.drop (findAt X k) = insAt X (startR k cls tick) := by unfold insAt; rw [show (startR k cls tick).key = k from rfl]; simp
    rw [e89] at h89 ⊢
    refine go_q0 90 (.nilCheck (.tmp 81)) 0 (qv_nilCheck rfl) ?_
    refine go_q0 91 (.fieldAddr 87 (.tmp 90) 2) 0 (qv_field rfl fd87_2) ?_
    refine go_s0 none (.store 85 (.tmp 91) (.tmp 89)) 0 ?_
    refine os_store1 rfl rfl sz85 rfl rfl .auto (Nat.le_of_ble_eq_true rfl) (set_RCac_6 _ _) ?_
    refine go_nil ?_
    change G _ _ _ _
    refine p_weaken [6, 7] rfl ?_
    refine p_seq0 ?_
    refine p_plain0 (0 :: 1 :: []) ?_
    refine go_q0 92 (.move (.tmp 7)) 85 (qv_move rfl) ?_
    refine go_q0 6 (.assign (.tmp 92)) 85 (qv_assign rfl) ?_
    refine go_nil ?_
    change G _ _ _ _
    refine p_weaken [6] rfl ?_
    refine p_ret0 ?_
    try dsimp only [thenQ, inBlockQ]
    try rw [if_pos rfl]
    refine ret_left (B ++ ((br, .cells (⟨tick, bd, .slice p89 (insAt X (startR k cls tick)).length c89⟩ : RCac).c 87 (0, 0)) :: A89)) (.inr rfl) (.cons (res_tmp rfl) .nil) .auto ?_
    exact ⟨X, out, q, cq, B, _, hB, rfl, hOo, ⟨p89, c89, A89, hI2, h89, rfl⟩, rfl⟩
  refine p_seq0 ?_
  refine p_draw (by kernel_rfl) mixed 11 11 _ (fun _ h => h) (by kernel_rfl) ?_
  refine gd_all (0 :: 1 :: 2 :: 3 :: 4 :: 5 :: 6 :: 7 :: 8 :: 9 :: 10 :: []) _ rfl (by kernel_rfl) (by decide) (fun _ h => h) rfl ?_
  refine sq_q0 13 (.move (.tmp 0)) 47 (qv_move rfl) ?_
  refine sq_q0 14 (.nilCheck (.tmp 13)) 0 (qv_nilCheck rfl) ?_
  refine sq_q0 15 (.fieldAddr 87 (.tmp 14) 2) 0 (qv_field rfl fd87_2) ?_
  refine sq_q0 16 (.load 85 (.tmp 15)) 85 (qv_load rfl .auto (ldv_sca sc85 (get_RCac_6 _))) ?_
  refine sq_q0 17 (.call { callee := .builtin .len, args := #[.tmp 16], argTypes := #[85] }) 3 (qv_lenS un85 rfl) ?_
  refine sq_q0 18 (.move (.tmp 0)) 47 (qv_move rfl) ?_
  refine sq_q0 19 (.nilCheck (.tmp 18)) 0 (qv_nilCheck rfl) ?_
  refine sq_q0 20 (.fieldAddr 87 (.tmp 19) 1) 0 (qv_field rfl fd87_1) ?_
  refine sq_q0 21 (.fieldAddr 50 (.tmp 20) 0) 0 (qv_field rfl fd50_0) ?_
  refine sq_q0 22 (.load 3 (.tmp 21)) 3 (qv_load rfl .auto (ldv_sca sc3 (get_RCac_1 _))) ?_
  refine sq_q0 23 (.binOp .eql 3 (.tmp 17) (.tmp 22) 3) 4 (qv_eql rfl rfl rfl) ?_
  refine SeqK.nil (fun β => ?_)
  refine gd_tail [] rfl (by kernel_rfl) (by kernel_rfl) ?_
  refine go_nil ?_
  change G _ _ _ _
  refine p_weaken [0, 2, 4, 6, 7, 23] rfl ?_
  refine p_cond (.tmp 23) (by kernel_rfl) rfl (fun h23 => ?_) (fun h23 => ?_)
  rotate_left
  · replace h23 := kn h23
    have h23' : (g.length : Int) < bd.flows := by have : ¬ (g.length : Int) = bd.flows := h23; omega
    have hBn : BegR bd g g [] := .inr ⟨h23', rfl, rfl⟩
    have hOn : OwnL eRec 100 none 0 ([] : List Rec) [] := OwnL.nil
    have hMn := hMc
    refine p_skip0 ?_
    exact ⟨_, _, _, _, _, _, hBn, hOn, hMn, ⟨rfl, ⟨[7, 0, 2, 4, 6], rfl⟩, .auto⟩⟩
  replace h23 := kn h23
  have h23' : (g.length : Int) = bd.flows := h23
  obtain ⟨u0, hu0⟩ : ∃ u, g[0]? = some u := ⟨_, List.getElem?_eq_getElem (by omega)⟩
  refine p_seq0 ?_
  refine p_plain0 (0 :: []) ?_
  refine go_q0 8 (.assign (.const (.int .i64 0))) 3 (qv_assign rfl) ?_
  refine go_nil ?_
  change G _ _ _ _
  refine p_weaken [0, 2, 4, 6, 7, 8] rfl ?_
  refine p_seq0 ?_
  refine p_seq0 ?_
  refine p_plain0 (0 :: []) ?_
  refine go_q0 9 (.assign (.const (.int .i64 1))) 3 (qv_assign rfl) ?_
  refine go_nil ?_
  change G _ _ _ _
  refine p_block 0 (by kernel_rfl) ?_
  refine p_loopE (by kernel_rfl) (fun s m => ∃ (i : Nat) (j : Nat) (u : Rec), (1 ≤ i) ∧ (i ≤ g.length) ∧ (j < i) ∧ (g[j]? = some u) ∧ (∀ (q : Nat) (y : Rec), q < i → g[q]? = some y → u.last ≤ y.last) ∧ (∀ (q : Nat) (y : Rec), q < j → g[q]? = some y → u.last < y.last) ∧ Ge s ⟨[], [(0, .pointer (some ⟨br, 0, none⟩)), (2, .int .u8 cls), (4, .pointer (some ⟨b4, 0, none⟩)), (6, .slice none 0 0), (7, .slice none 0 0), (8, .int .i64 j), (9, .int .i64 i)], (b4, .cells k.c 92 (0, 0)) :: rcO br tick bd p g.length c :: A⟩ ∧ m = g.length + 1 - i) ?_ ?_
  · exact ⟨_, ⟨1, 0, u0, by omega, by omega, by omega, hu0, fun q y hq hy => by have : q = 0 := (by omega); subst this; rw [hu0] at hy; cases hy; omega, fun q y hq => absurd hq (Nat.not_lt_zero _), ⟨rfl, ⟨[0, 2, 4, 6, 7, 8, 9], rfl⟩, .auto⟩, rfl⟩⟩
  rintro s m ⟨i, j, u, hi1, hi2, hji, hu, hmin, hfst, hs, rfl⟩
  refine ge_ok hs ?_
  refine p_seq0 ?_
  refine p_seq0 ?_
  refine p_plain0 (0 :: 1 :: 2 :: 3 :: 4 :: 5 :: 6 :: []) ?_
  refine go_q0 24 (.move (.tmp 9)) 3 (qv_move rfl) ?_
  refine go_q0 25 (.move (.tmp 0)) 47 (qv_move rfl) ?_
  refine go_q0 26 (.nilCheck (.tmp 25)) 0 (qv_nilCheck rfl) ?_
  refine go_q0 27 (.fieldAddr 87 (.tmp 26) 2) 0 (qv_field rfl fd87_2) ?_
  refine go_q0 28 (.load 85 (.tmp 27)) 85 (qv_load rfl .auto (ldv_sca sc85 (get_RCac_6 _))) ?_
  refine go_q0 29 (.call { callee := .builtin .len, args := #[.tmp 28], argTypes := #[85] }) 3 (qv_lenS un85 rfl) ?_
  refine go_q0 30 (.binOp .lss 3 (.tmp 24) (.tmp 29) 3) 4 (qv_lss rfl rfl rfl) ?_
  refine go_nil ?_
  change G _ _ _ _
  refine p_weaken [0, 2, 4, 6, 7, 8, 9, 30] rfl ?_
  refine p_cond (.tmp 30) (by kernel_rfl) rfl (fun h30 => ?_) (fun h30 => ?_)
  rotate_left
  · replace h30 := kn h30
    refine p_exit 0 (by kernel_rfl) ?_
    change G _ _ _ _
    refine p_weaken [0, 2, 4, 6, 7, 8] rfl ?_
    have hBn := beg_min hIg.sort h23' hu (fun y hy => by obtain ⟨q, hq, rfl⟩ := List.getElem_of_mem hy; exact hmin q _ (by omega) (List.getElem?_eq_getElem hq)) hfst
    have hE := ct_rend 5 hMc hu
    refine p_plain0 (0 :: 1 :: 2 :: 3 :: 4 :: 5 :: 6 :: []) ?_
    refine go_q0 51 (.move (.tmp 7)) 85 (qv_move rfl) ?_
    refine go_q0 52 (.move (.tmp 0)) 47 (qv_move rfl) ?_
    refine go_q0 53 (.move (.tmp 8)) 3 (qv_move rfl) ?_
    refine go_s0 (some 54) (.call { callee := .value (.func 70), args := #[.tmp 52, .tmp 53, .const (.int .u8 5)], argTypes := #[47, 3, 5] }) 100 ?_
    refine os_call (Nat.le_of_ble_eq_true rfl) en70 rfl (Sel.skip Sel.all) (hE) ?_
    rintro v54 A54 ⟨rfl, hMn⟩
    try dsimp only [List.nil_append, List.cons_append]
    refine go_s0 (some 55) (.buildSlice 85 1 #[(0, .tmp 54)]) 85 ?_
    refine os_buildSlice (Nat.le_of_ble_eq_true rfl) rfl (bls85_1 _) (fun b55 => ?_)
    refine go_s0 (some 56) (.call { callee := .builtin .append, args := #[.tmp 51, .tmp 55], argTypes := #[85, 85] }) 85 ?_
    refine os_appendK (E := eRec) (l := []) (l2 := [{ u with reason := 5 }]) rfl el85 rfl rfl rfl rfl (OwnL.nil) .auto .auto (Go.E.holds_one _) (one_Rec) (by simp [maxLen] <;> omega) (by simp <;> omega) (fun p56 c56 A56 h56 => ?_)
    have hOn := h56
    refine go_q0 7 (.assign (.tmp 56)) 85 (qv_assign rfl) ?_
    refine go_nil ?_
    exact ⟨_, _, _, _, _, _, hBn, hOn, hMn, ⟨rfl, ⟨[7, 0, 2, 4, 6], rfl⟩, .auto⟩⟩
  replace h30 := kn h30
  refine p_skip0 ?_
  change G _ _ _ _
  refine p_weaken [0, 2, 4, 6, 7, 8, 9] rfl ?_
  refine p_seq0 ?_
  refine p_block 1 (by kernel_rfl) ?_
  refine p_seq0 ?_
  obtain ⟨bb, oo, cu, ee, ff, hpe, mm, H⟩ := hO.lst.at_ (i := i) (by omega)
  obtain ⟨y, hy⟩ : ∃ y, g[i]? = some y := ⟨_, List.getElem?_eq_getElem (by omega)⟩
  subst hpe
  refine p_draw (by kernel_rfl) mixed 17 17 _ (fun _ h => h) (by kernel_rfl) ?_
  refine gd_all (0 :: 1 :: 2 :: 3 :: 4 :: 5 :: 6 :: 7 :: 8 :: 9 :: 10 :: 11 :: 12 :: 13 :: 14 :: 15 :: 16 :: []) _ rfl (by kernel_rfl) (by decide) (fun _ h => h) rfl ?_
  refine sq_q0 33 (.move (.tmp 0)) 47 (qv_move rfl) ?_
  refine sq_q0 34 (.nilCheck (.tmp 33)) 0 (qv_nilCheck rfl) ?_
  refine sq_q0 35 (.fieldAddr 87 (.tmp 34) 2) 0 (qv_field rfl fd87_2) ?_
  refine sq_q0 36 (.load 85 (.tmp 35)) 85 (qv_load rfl .auto (ldv_sca sc85 (get_RCac_6 _))) ?_
  refine sq_q0 37 (.move (.tmp 9)) 3 (qv_move rfl) ?_
  refine sq_q0 38 (.indexAddr 85 (.tmp 36) (.tmp 37)) 0 (qv_index un85 sz100 rfl rfl rfl (by omega)) ?_
  refine sq_q0 39 (.fieldAddr 100 (.tmp 38) 4) 0 (qv_field rfl fd100_4) ?_
  refine sq_q0 40 (.load 23 (.tmp 39)) 23 (qv_load rfl (At.of_mem (by repeat first | exact mm | exact List.mem_append_left _ mm | apply List.mem_cons_of_mem | apply List.mem_append_right)) (ldv_el H hy sc23 (get_Rec_40 _) rfl)) ?_
  refine sq_q0 41 (.move (.tmp 0)) 47 (qv_move rfl) ?_
  refine sq_q0 42 (.nilCheck (.tmp 41)) 0 (qv_nilCheck rfl) ?_
  refine sq_q0 43 (.fieldAddr 87 (.tmp 42) 2) 0 (qv_field rfl fd87_2) ?_
  refine sq_q0 44 (.load 85 (.tmp 43)) 85 (qv_load rfl .auto (ldv_sca sc85 (get_RCac_6 _))) ?_
  refine sq_q0 45 (.move (.tmp 8)) 3 (qv_move rfl) ?_
  refine sq_q0 46 (.indexAddr 85 (.tmp 44) (.tmp 45)) 0 (qv_index un85 sz100 rfl rfl rfl (by omega)) ?_
  refine sq_q0 47 (.fieldAddr 100 (.tmp 46) 4) 0 (qv_field rfl fd100_4) ?_
  refine sq_q0 48 (.load 23 (.tmp 47)) 23 (qv_load rfl (At.of_mem (by repeat first | exact mm | exact List.mem_append_left _ mm | apply List.mem_cons_of_mem | apply List.mem_append_right)) (ldv_el H hu sc23 (get_Rec_40 _) rfl)) ?_
  refine sq_q0 49 (.binOp .lss 23 (.tmp 40) (.tmp 48) 23) 4 (qv_lss rfl rfl rfl) ?_
  refine SeqK.nil (fun β => ?_)
  refine gd_tail [] rfl (by kernel_rfl) (by kernel_rfl) ?_
  refine go_nil ?_
  change G _ _ _ _
  refine p_weaken [0, 2, 4, 6, 7, 8, 9, 49] rfl ?_
  refine p_cond (.tmp 49) (by kernel_rfl) rfl (fun h49 => ?_) (fun h49 => ?_)
  rotate_left
  · replace h49 := kn h49
    have h49' : ¬ y.last < u.last := h49
    have hjn : j < i + 1 := by omega
    have hun := hu
    have hfn := hfst
    have hminn : ∀ (q : Nat) (z : Rec), q < i + 1 → g[q]? = some z → u.last ≤ z.last := fun q z hq hz => by
      rcases Nat.lt_or_ge q i with h1 | h1
      · exact hmin q z h1 hz
      · have : q = i := by omega
        subst this; rw [hy] at hz; cases hz; omega
    refine p_skip0 ?_
    change G _ _ _ _
    refine p_weaken [0, 2, 4, 6, 7, 8, 9] rfl ?_
    refine p_plain0 (0 :: 1 :: 2 :: []) ?_
    refine go_q0 31 (.move (.tmp 9)) 3 (qv_move rfl) ?_
    refine go_q0 32 (.binOp .add 3 (.tmp 31) (.const (.int .i64 1)) 3) 3 (qv_add rfl rfl (by first | exact IntWalk.i64_in _ (by omega) | exact IntWalk.i64_in _ (by dsimp only; omega) | rfl)) ?_
    refine go_q0 9 (.assign (.tmp 32)) 3 (qv_assign rfl) ?_
    refine go_nil ?_
    exact ⟨_, ⟨i + 1, _, _, by omega, by omega, hjn, hun, hminn, hfn, ⟨rfl, ⟨[0, 2, 4, 6, 7, 8, 9], rfl⟩, .auto⟩, rfl⟩, by omega⟩
  replace h49 := kn h49
  have h49' : y.last < u.last := h49
  have hjn : i < i + 1 := by omega
  have hun := hy
  have hminn : ∀ (q : Nat) (z : Rec), q < i + 1 → g[q]? = some z → y.last ≤ z.last := fun q z hq hz => by
    rcases Nat.lt_or_ge q i with h1 | h1
    · have := hmin q z h1 hz; omega
    · have : q = i := by omega
      subst this; rw [hy] at hz; cases hz; omega
  have hfn : ∀ (q : Nat) (z : Rec), q < i → g[q]? = some z → y.last < z.last := fun q z hq hz => by have := hmin q z hq hz; omega
  refine p_plain0 (0 :: 1 :: []) ?_
  refine go_q0 50 (.move (.tmp 9)) 3 (qv_move rfl) ?_
  refine go_q0 8 (.assign (.tmp 50)) 3 (qv_assign rfl) ?_
  refine go_nil ?_
  change G _ _ _ _
  refine p_weaken [0, 2, 4, 6, 7, 8, 9] rfl ?_
  refine p_plain0 (0 :: 1 :: 2 :: []) ?_
  refine go_q0 31 (.move (.tmp 9)) 3 (qv_move rfl) ?_
  refine go_q0 32 (.binOp .add 3 (.tmp 31) (.const (.int .i64 1)) 3) 3 (qv_add rfl rfl (by first | exact IntWalk.i64_in _ (by omega) | exact IntWalk.i64_in _ (by dsimp only; omega) | rfl)) ?_
  refine go_q0 9 (.assign (.tmp 32)) 3 (qv_assign rfl) ?_
  refine go_nil ?_
  exact ⟨_, ⟨i + 1, _, _, by omega, by omega, hjn, hun, hminn, hfn, ⟨rfl, ⟨[0, 2, 4, 6, 7, 8, 9], rfl⟩, .auto⟩, rfl⟩, by omega⟩
theorem ct_rAccountBad (hM : RcM br tick bd g M) (hr : p.key.right = false) :
    Ct Tryz.prog 33 [.pointer (some ⟨br, 0, none⟩), .agg p.c, .int .u8 cls, .int .u64 tick'].toArray M (fun v M' => v = .tuple #[.slice none 0 0, .int .i64 2] ∧ M' = M) := by
  have hR := hr ▸ pu_refKeyRight p.key
  refine ct_body (rv := [.tmp 8, .tmp 9]) [(0, _), (1, _), (2, _), (3, _)] Tryz.func33 (by kernel_rfl) Tryz.ntmps33 Tryz.results33 rfl rfl (fun w0 => ?_)
  refine p_seq0 ?_
  refine p_plain0 (0 :: 1 :: 2 :: []) ?_
  refine go_s0 (some 5) (.box 94 (.tmp 1)) 0 ?_
  refine os_boxA rfl rfl (fun b5 => ?_)
  refine go_q0 8 (.assign (.const (.slice none 0 0))) 85 (qv_assign rfl) ?_
  refine go_q0 9 (.assign (.const (.int .i64 0))) 44 (qv_assign rfl) ?_
  refine go_nil ?_
  change G _ _ _ _
  refine p_weaken [0, 2, 3, 5, 8, 9] rfl ?_
  refine p_seq0 ?_
  refine p_seq0 ?_
  refine p_plain0 (0 :: 1 :: 2 :: 3 :: []) ?_
  refine go_q0 16 (.fieldAddr 94 (.tmp 5) 0) 0 (qv_field rfl fd94_0) ?_
  refine go_q0 17 (.load 92 (.tmp 16)) 92 (qv_load rfl .auto (ldv_agg agg92 (ext_Pkt_0_37 _) (Nat.le_of_ble_eq_true rfl))) ?_
  refine go_s0 (some 18) (.call { callee := .value (.func 66), args := #[.tmp 17], argTypes := #[92] }) 4 ?_
  refine os_callP rfl en66 rfl (hR) ?_
  refine go_q0 19 (.unOp .not 4 (.tmp 18)) 4 (qv_not rfl) ?_
  refine go_nil ?_
  change G _ _ _ _
  refine p_weaken [0, 2, 3, 5, 8, 9, 19] rfl ?_
  refine p_condT (.tmp 19) (by kernel_rfl) rfl ?_
  refine p_seq0 ?_
  refine p_plain0 (0 :: 1 :: []) ?_
  refine go_q0 8 (.assign (.const (.slice none 0 0))) 85 (qv_assign rfl) ?_
  refine go_q0 9 (.assign (.const (.int .i64 2))) 44 (qv_assign rfl) ?_
  refine go_nil ?_
  change G _ _ _ _
  refine p_weaken [0, 2, 3, 5, 8, 9] rfl ?_
  refine p_ret0 ?_
  try dsimp only [thenQ, inBlockQ]
  try rw [if_pos rfl]
  refine ret_left (M) (.inr rfl) (.cons (res_tmp rfl) (.cons (res_tmp rfl) .nil)) .auto ?_
  exact ⟨rfl, rfl⟩
theorem flag_bits : ∀ f : Fin 256, decide (0 < bits .and .u8 (f.val : Int) 5) = (decide ((f.val : Int).tmod 2 = 1) || decide (((f.val : Int).tdiv 4).tmod 2 = 1)) := by decide +kernel
theorem seen_ref (hf : InK .u8 p.flags) : seenB p = (decide (p.key.proto = 6) && !p.fragment && (decide (p.flags.tmod 2 = 1) || decide ((p.flags.tdiv 4).tmod 2 = 1))) := by
  have h0 : 0 ≤ p.flags := hf.1
  have h1 : p.flags ≤ 255 := hf.2
  have h := flag_bits ⟨p.flags.toNat, by omega⟩
  rw [show ((p.flags.toNat : Nat) : Int) = p.flags by omega] at h
  unfold seenB
  rw [h, Bool.and_assoc]
theorem mid_end {i : Nat} {z : Int} (hA : AdvAny bd tick tick' g0 g1 out1) (h : MidR bd (tickTo tick tick') p cls g1 g2 out2) (hs : SortR g2) (hi : g2[i]? = some r) (hk : r.key = p.key) (hz : endZ bd p (r.with_ p (tickTo tick tick')) = z) (h0 : z ≠ 0) :
    AccP bd tick tick' p cls g0 (cutAt (g2.set i (r.with_ p (tickTo tick tick'))) i) (out1 ++ out2 ++ [{ r.with_ p (tickTo tick tick') with reason := z }]) := by
  subst hz
  exact h.acc hA hs hi hk (.inr ⟨h0, rfl, rfl⟩)
theorem mid_stay {i : Nat} (hA : AdvAny bd tick tick' g0 g1 out1) (h : MidR bd (tickTo tick tick') p cls g1 g2 out2) (hs : SortR g2) (hi : g2[i]? = some r) (hk : r.key = p.key) (hz : endZ bd p (r.with_ p (tickTo tick tick')) = 0) :
    AccP bd tick tick' p cls g0 (g2.set i (r.with_ p (tickTo tick tick'))) (out1 ++ out2) := h.acc hA hs hi hk (.inl ⟨hz, rfl, rfl⟩)
theorem radv_len (h : AdvAny bd tick tick' g0 g1 out1) (hI : RI bd g0) : out1.length ≤ 4096 := by
  have hle := hI.le
  have hmost := hI.most
  rcases h with ⟨_, rfl, _⟩ | ⟨_, srt, hp, _, rfl, _⟩
  · simp
  · unfold told
    rw [List.length_map, hp.length_eq]
    have := List.length_filter_le (fun r => decide (dueR bd r ≤ tick')) g0
    unfold dueBy
    omega
theorem mid_len (h : MidR bd tick p cls g1 g2 out2) : out2.length ≤ 1 := by
  rcases h with ⟨_, _, rfl⟩ | ⟨_, X, hB, _⟩
  · simp
  · exact hB.out_len
theorem ct_rAccount (hM : RcM br tick bd g0 M) (hp : p.Wf) (hr : p.key.right = true) (ht : InK .u64 tick) (ht' : InK .u64 tick') (hcl : InK .u8 cls) :
    Ct Tryz.prog 33 [.pointer (some ⟨br, 0, none⟩), .agg p.c, .int .u8 cls, .int .u64 tick'].toArray M (fun v M' => ∃ g' out q cq B M1, AccP bd tick tick' p cls g0 g' out ∧ v = .tuple #[.slice q out.length cq, .int .i64 0] ∧ OwnL eRec 100 q cq out B ∧ RcM br (tickTo tick tick') bd g' M1 ∧ M' = B ++ M1) := by
  have hR := hr ▸ pu_refKeyRight p.key
  have hT := tickTo_in ht ht'
  have hfl0 : 0 ≤ p.flags := hp.flags_.1
  have hfl1 : p.flags ≤ 255 := hp.flags_.2
  have hq4 : IntKind.u8.wrap (p.flags.tdiv 4) = p.flags.tdiv 4 := by rw [Int.tdiv_eq_ediv_of_nonneg hfl0]; exact IntWalk.u8_in _ (by omega)
  refine ct_body (rv := [.tmp 8, .tmp 9]) [(0, _), (1, _), (2, _), (3, _)] Tryz.func33 (by kernel_rfl) Tryz.ntmps33 Tryz.results33 rfl rfl (fun w0 => ?_)
  refine p_seq0 ?_
  refine p_plain0 (0 :: 1 :: 2 :: []) ?_
  refine go_s0 (some 5) (.box 94 (.tmp 1)) 0 ?_
  refine os_boxA rfl rfl (fun b5 => ?_)
  refine go_q0 8 (.assign (.const (.slice none 0 0))) 85 (qv_assign rfl) ?_
  refine go_q0 9 (.assign (.const (.int .i64 0))) 44 (qv_assign rfl) ?_
  refine go_nil ?_
  change G _ _ _ _
  refine p_weaken [0, 2, 3, 5, 8, 9] rfl ?_
  refine p_seq0 ?_
  refine p_seq0 ?_
  refine p_plain0 (0 :: 1 :: 2 :: 3 :: []) ?_
  refine go_q0 16 (.fieldAddr 94 (.tmp 5) 0) 0 (qv_field rfl fd94_0) ?_
  refine go_q0 17 (.load 92 (.tmp 16)) 92 (qv_load rfl .auto (ldv_agg agg92 (ext_Pkt_0_37 _) (Nat.le_of_ble_eq_true rfl))) ?_
  refine go_s0 (some 18) (.call { callee := .value (.func 66), args := #[.tmp 17], argTypes := #[92] }) 4 ?_
  refine os_callP rfl en66 rfl (hR) ?_
  refine go_q0 19 (.unOp .not 4 (.tmp 18)) 4 (qv_not rfl) ?_
  refine go_nil ?_
  change G _ _ _ _
  refine p_weaken [0, 2, 3, 5, 8, 9, 19] rfl ?_
  refine p_condF (.tmp 19) (by kernel_rfl) rfl ?_
  refine p_skip0 ?_
  change G _ _ _ _
  refine p_weaken [0, 2, 3, 5, 8, 9] rfl ?_
  refine p_seq0 ?_
  refine p_plain0 (0 :: 1 :: 2 :: 3 :: []) ?_
  refine go_q0 20 (.move (.tmp 0)) 47 (qv_move rfl) ?_
  refine go_q0 21 (.move (.tmp 3)) 23 (qv_move rfl) ?_
  refine go_s0 (some 22) (.call { callee := .value (.func 36), args := #[.tmp 20, .tmp 21], argTypes := #[47, 23] }) 85 ?_
  refine os_call (Nat.le_of_ble_eq_true rfl) en36 rfl (Sel.skip Sel.all) (ct_rAdvanceAny tick' hM) ?_
  rintro v22 A22 ⟨g1, out1, q1, c1, B1, M1, hA, rfl, hO1, hM1, rfl⟩
  try dsimp only [List.nil_append, List.cons_append]
  refine go_q0 10 (.assign (.tmp 22)) 85 (qv_assign rfl) ?_
  refine go_nil ?_
  change G _ _ _ _
  refine p_weaken [0, 2, 5, 8, 9, 10] rfl ?_
  refine p_seq0 ?_
  have hF1 := ct_rfind hM1 hp.key_
  have hol1 := radv_len hA hM.ri
  refine p_drop (B1 ++ ((b5, .cells p.c 94 (0, 0)) :: M1)) .auto ?_
  refine p_plain0 (0 :: 1 :: 2 :: 3 :: 4 :: 5 :: 6 :: 7 :: 8 :: []) ?_
  refine go_q0 24 (.move (.tmp 0)) 47 (qv_move rfl) ?_
  refine go_q0 25 (.fieldAddr 94 (.tmp 5) 0) 0 (qv_field rfl fd94_0) ?_
  refine go_q0 26 (.load 92 (.tmp 25)) 92 (qv_load rfl .auto (ldv_agg agg92 (ext_Pkt_0_37 _) (Nat.le_of_ble_eq_true rfl))) ?_
  refine go_s0 (some 27) (.call { callee := .value (.func 67), args := #[.tmp 24, .tmp 26], argTypes := #[47, 92] }) 131 ?_
  refine os_pv rfl (pv_callR en67 rfl (Sel.skipA (Sel.skip Sel.all)) (hF1)) ?_
  refine go_q0 23 (.move (.tmp 27)) 131 (qv_move rfl) ?_
  refine go_q0 28 (.extract (.tmp 23) 0) 3 (qv_extract rfl rfl) ?_
  refine go_q0 29 (.extract (.tmp 23) 1) 4 (qv_extract rfl rfl) ?_
  refine go_q0 11 (.assign (.tmp 28)) 3 (qv_assign rfl) ?_
  refine go_q0 12 (.assign (.tmp 29)) 4 (qv_assign rfl) ?_
  refine go_nil ?_
  change G _ _ _ _
  refine p_weaken [0, 2, 5, 8, 9, 10, 12] rfl ?_
  refine p_seqK [0, 5, 8, 9] rfl (fun frk Mk s => ∃ (g2 : List Rec) (o12 : List Rec) (q : Option Addr) (cq : Nat) (B : Mem) (M2 : Mem), (∃ out2, o12 = out1 ++ out2 ∧ MidR bd (tickTo tick tick') p cls g1 g2 out2) ∧ (OwnL eRec 100 q cq o12 B) ∧ (RcM br (tickTo tick tick') bd g2 M2) ∧ Ge s ⟨[], (10, .slice q o12.length cq) :: frk, B ++ ((b5, .cells p.c 94 (0, 0)) :: M2)⟩) (by kernel_rfl) ?_ ?_
  · refine p_seq0 ?_
    refine p_plain0 (0 :: 1 :: []) ?_
    refine go_q0 30 (.move (.tmp 12)) 4 (qv_move rfl) ?_
    refine go_q0 31 (.unOp .not 4 (.tmp 30)) 4 (qv_not rfl) ?_
    refine go_nil ?_
    change G _ _ _ _
    refine p_weaken [0, 2, 5, 8, 9, 10, 31] rfl ?_
    refine p_cond (.tmp 31) (by kernel_rfl) rfl (fun h31 => ?_) (fun h31 => ?_)
    rotate_left
    · replace h31 := kn h31
      have hCn : ∃ out2, out1 = out1 ++ out2 ∧ MidR bd (tickTo tick tick') p cls g1 g1 out2 := ⟨[], by simp, .inl ⟨okAt_mem h31, rfl, rfl⟩⟩
      have hOn := hO1
      have hMn := hM1
      refine p_skip0 ?_
      exact ⟨_, _, _, _, _, _, hCn, hOn, hMn, ⟨rfl, ⟨[10, 0, 5, 8, 9], rfl⟩, .auto⟩⟩
    replace h31 := kn h31
    have hno := okAt_not hM1.ri.sort h31
    have hBeg := ct_rbegin hM1 hp.key_ hr hno hT hcl
    refine p_plain0 (0 :: 1 :: 2 :: 3 :: 4 :: 5 :: 6 :: 7 :: []) ?_
    refine go_q0 32 (.move (.tmp 10)) 85 (qv_move rfl) ?_
    refine go_q0 33 (.move (.tmp 0)) 47 (qv_move rfl) ?_
    refine go_q0 34 (.fieldAddr 94 (.tmp 5) 0) 0 (qv_field rfl fd94_0) ?_
    refine go_q0 35 (.load 92 (.tmp 34)) 92 (qv_load rfl .auto (ldv_agg agg92 (ext_Pkt_0_37 _) (Nat.le_of_ble_eq_true rfl))) ?_
    refine go_q0 36 (.move (.tmp 2)) 5 (qv_move rfl) ?_
    refine go_s0 (some 37) (.call { callee := .value (.func 68), args := #[.tmp 33, .tmp 35, .tmp 36], argTypes := #[47, 92, 5] }) 85 ?_
    refine os_call (Nat.le_of_ble_eq_true rfl) en68 rfl (Sel.skipA (Sel.skip Sel.all)) (hBeg) ?_
    rintro v37 A37 ⟨X, out2, q2, c2, B2, M2, hBg, rfl, hO2, hM2, rfl⟩
    try dsimp only [List.nil_append, List.cons_append]
    have hol2 := hBg.out_len
    refine go_s0 (some 38) (.call { callee := .builtin .append, args := #[.tmp 32, .tmp 37], argTypes := #[85, 85] }) 85 ?_
    refine os_appendO (E := eRec) (l := out1) (l2 := out2) rfl el85 rfl rfl rfl rfl hO1 (Sel.skipA Sel.app) hO2 (fun q hq => List.mem_append_left _ (List.mem_append_left _ hq)) one_Rec (by simp [maxLen] <;> omega) (by omega) (fun p38 c38 A38 h38 => ?_)
    have hOn := h38
    have hMn := hM2
    have hCn : ∃ o2, out1 ++ out2 = out1 ++ o2 ∧ MidR bd (tickTo tick tick') p cls g1 (insAt X (startR p.key cls (tickTo tick tick'))) o2 := ⟨out2, rfl, .inr ⟨hno, X, hBg, rfl⟩⟩
    refine go_q0 10 (.assign (.tmp 38)) 85 (qv_assign rfl) ?_
    refine go_nil ?_
    exact ⟨_, _, _, _, _, _, hCn, hOn, hMn, ⟨rfl, ⟨[10, 0, 5, 8, 9], rfl⟩, .auto⟩⟩
  rintro s ⟨g2, o12, q, cq, B, M2, hC2, hOo, hM2, hs⟩
  refine ge_ok hs ?_
  refine p_seq0 ?_
  obtain ⟨out2, rfl, hMid⟩ := hC2
  have hF2 := ct_rfind hM2 hp.key_
  obtain ⟨i, r, hir, hrk⟩ := key_at hMid.key_
  have hI2 := hM2.ri
  rw [find_in hI2.sort hir hrk] at hF2
  have hil := (List.getElem?_eq_some_iff.1 hir).1
  have hrw := (hI2.wf r (List.mem_of_getElem? hir)).1
  have hww := with_wf (p := p) hrw hp hT
  have hol := mid_len hMid
  refine p_plain0 (0 :: 1 :: 2 :: 3 :: 4 :: 5 :: 6 :: 7 :: 8 :: []) ?_
  refine go_q0 40 (.move (.tmp 0)) 47 (qv_move rfl) ?_
  refine go_q0 41 (.fieldAddr 94 (.tmp 5) 0) 0 (qv_field rfl fd94_0) ?_
  refine go_q0 42 (.load 92 (.tmp 41)) 92 (qv_load rfl .auto (ldv_agg agg92 (ext_Pkt_0_37 _) (Nat.le_of_ble_eq_true rfl))) ?_
  refine go_s0 (some 43) (.call { callee := .value (.func 67), args := #[.tmp 40, .tmp 42], argTypes := #[47, 92] }) 131 ?_
  refine os_pv rfl (pv_callR en67 rfl (Sel.skipA (Sel.skip Sel.all)) (hF2)) ?_
  refine go_q0 39 (.move (.tmp 43)) 131 (qv_move rfl) ?_
  refine go_q0 44 (.extract (.tmp 39) 0) 3 (qv_extract rfl rfl) ?_
  refine go_q0 45 (.extract (.tmp 39) 1) 4 (qv_extract rfl rfl) ?_
  refine go_q0 13 (.assign (.tmp 44)) 3 (qv_assign rfl) ?_
  refine go_q0 14 (.assign (.tmp 45)) 4 (qv_assign rfl) ?_
  refine go_nil ?_
  change G _ _ _ _
  refine p_weaken [0, 5, 8, 9, 10, 13] rfl ?_
  refine p_seq0 ?_
  obtain ⟨p2, c2, A2, _, hO2, rfl⟩ := hM2
  obtain ⟨bf, cur, rfl, rfl, hc1, hc2, hc3, H⟩ := hO2.some_ (by omega)
  refine p_draw (by kernel_rfl) mixed 14 15 _ (fun _ h => h) (by kernel_rfl) ?_
  refine gd_all (0 :: 1 :: 2 :: 3 :: 4 :: 5 :: 6 :: 7 :: 8 :: 9 :: 10 :: 11 :: 12 :: 13 :: []) _ rfl (by kernel_rfl) (by decide) (fun _ h => h) rfl ?_
  refine sq_q0 46 (.move (.tmp 0)) 47 (qv_move rfl) ?_
  refine sq_q0 47 (.nilCheck (.tmp 46)) 0 (qv_nilCheck rfl) ?_
  refine sq_q0 48 (.fieldAddr 87 (.tmp 47) 2) 0 (qv_field rfl fd87_2) ?_
  refine sq_q0 49 (.load 85 (.tmp 48)) 85 (qv_load rfl .auto (ldv_sca sc85 (get_RCac_6 _))) ?_
  refine sq_q0 50 (.move (.tmp 13)) 3 (qv_move rfl) ?_
  refine sq_q0 51 (.indexAddr 85 (.tmp 49) (.tmp 50)) 0 (qv_index un85 sz100 rfl rfl rfl hil) ?_
  refine sq_q0 52 (.load 100 (.tmp 51)) 100 (qv_load rfl .auto (ldv_els H hir (by decide) agg100 rfl)) ?_
  refine sq_q0 53 (.load 94 (.tmp 5)) 94 (qv_load rfl .auto (ldv_agg agg94 (extw_Pkt _) (Nat.le_of_ble_eq_true rfl))) ?_
  refine sq_q0 54 (.move (.tmp 0)) 47 (qv_move rfl) ?_
  refine sq_q0 55 (.nilCheck (.tmp 54)) 0 (qv_nilCheck rfl) ?_
  refine sq_q0 56 (.fieldAddr 87 (.tmp 55) 0) 0 (qv_field rfl fd87_0) ?_
  refine sq_q0 57 (.load 23 (.tmp 56)) 23 (qv_load rfl .auto (ldv_sca sc23 (get_RCac_0 _))) ?_
  refine sq_p (d := 58) (op := .call { callee := .value (.func 69), args := #[.tmp 52, .tmp 53, .tmp 57], argTypes := #[100, 94, 23] }) (ty := 100) (g := none) (by kernel_rfl) trivial (pv_call en69 rfl (pu_refWith (p := p) (tick := tickTo tick tick') hrw.packets_ hrw.bytes_ hp.length_)) ?_
  refine sq_a (d := 15) (t := 100) (ty := 0) (by kernel_rfl) ze100 rfl ?_
  refine SeqK.nil (fun β => ?_)
  generalize β 13 = b15
  refine gd_tail [14] rfl (by kernel_rfl) (by kernel_rfl) ?_
  refine go_s0 none (.store 100 (.tmp 15) (.tmp 58)) 0 ?_
  refine os_store rfl rfl sz100 rfl (one_Rec _) .auto (Nat.le_of_ble_eq_true rfl) (splw_Rec _ _ (siz_Rec _)) ?_
  refine go_nil ?_
  change G _ _ _ _
  refine p_weaken [0, 5, 8, 9, 10, 13, 15] rfl ?_
  refine p_seq0 ?_
  refine p_draw (by kernel_rfl) mixed 7 8 _ (fun _ h => h) (by kernel_rfl) ?_
  refine gd_all (0 :: 1 :: 2 :: 3 :: 4 :: 5 :: 6 :: []) _ rfl (by kernel_rfl) (by decide) (fun _ h => h) rfl ?_
  refine sq_q0 59 (.move (.tmp 0)) 47 (qv_move rfl) ?_
  refine sq_q0 60 (.nilCheck (.tmp 59)) 0 (qv_nilCheck rfl) ?_
  refine sq_q0 61 (.fieldAddr 87 (.tmp 60) 2) 0 (qv_field rfl fd87_2) ?_
  refine sq_q0 62 (.load 85 (.tmp 61)) 85 (qv_load rfl .auto (ldv_sca sc85 (get_RCac_6 _))) ?_
  refine sq_q0 63 (.move (.tmp 13)) 3 (qv_move rfl) ?_
  refine sq_q0 64 (.load 100 (.tmp 15)) 100 (qv_load rfl .auto (ldv_agg agg100 (extw_Rec _) (Nat.le_of_ble_eq_true rfl))) ?_
  refine sq_q0 65 (.indexAddr 85 (.tmp 62) (.tmp 63)) 0 (qv_index un85 sz100 rfl rfl rfl hil) ?_
  refine SeqK.nil (fun β => ?_)
  refine gd_tail [7] rfl (by kernel_rfl) (by kernel_rfl) ?_
  refine go_s0 none (.store 100 (.tmp 65) (.tmp 64)) 0 ?_
  refine os_store rfl rfl sz100 rfl (one_Rec _) .auto (own_fit hc1 hc3 hil) rfl ?_
  have hMs : RcM br (tickTo tick tick') bd (g2.set i (r.with_ p (tickTo tick tick'))) (rcO br (tickTo tick tick') bd (some ⟨bf, 0, none⟩) g2.length c2 :: [_]) := ⟨_, c2, _, hI2.set hir rfl hww, OwnL.put (e := 100) (b := bf) (r.with_ p (tickTo tick tick')) hc1 hc2 hc3 H hil, by rw [List.length_set]⟩
  have hir' : (g2.set i (r.with_ p (tickTo tick tick')))[i]? = some (r.with_ p (tickTo tick tick')) := List.getElem?_set_self hil
  refine go_nil ?_
  change G _ _ _ _
  refine p_weaken [0, 5, 8, 9, 10, 13, 15] rfl ?_
  refine p_seqJ (fun s => ∃ (g' : List Rec) (out : List Rec) (q : Option Addr) (cq : Nat) (B : Mem) (M1 : Mem), (AccP bd tick tick' p cls g0 g' out) ∧ (OwnL eRec 100 q cq out B) ∧ (RcM br (tickTo tick tick') bd g' M1) ∧ Ge s ⟨[], [(10, .slice q out.length cq)], B ++ M1⟩) (by kernel_rfl) ?_ ?_
  rotate_left
  · rintro s ⟨g', out, q, cq, B, M1, hRR, hOO, hMM, hs⟩
    refine ge_ok hs ?_
    refine p_seq0 ?_
    refine p_plain0 (0 :: 1 :: 2 :: []) ?_
    refine go_q0 118 (.move (.tmp 10)) 85 (qv_move rfl) ?_
    refine go_q0 8 (.assign (.tmp 118)) 85 (qv_assign rfl) ?_
    refine go_q0 9 (.assign (.const (.int .i64 0))) 44 (qv_assign rfl) ?_
    refine go_nil ?_
    change G _ _ _ _
    refine p_weaken [8, 9] rfl ?_
    refine p_ret0 ?_
    try dsimp only [thenQ, inBlockQ]
    try rw [if_pos rfl]
    refine ret_left (B ++ M1) (.inr rfl) (.cons (res_tmp rfl) (.cons (res_tmp rfl) .nil)) .auto ?_
    exact ⟨g', out, q, cq, B, M1, hRR, rfl, hOO, hMM, rfl⟩
  refine p_seqK [0, 8, 9, 10, 13, 15] rfl (fun frk Mk s => ∃ (z : Bool), (z = seenB p) ∧ Ge s ⟨[], (87, .bool z) :: frk, B ++ ((b5, .cells p.c 94 (0, 0)) :: (b15, .cells (r.with_ p (tickTo tick tick')).c 100 (0, 0)) :: [rcO br (tickTo tick tick') bd (some ⟨bf, 0, none⟩) g2.length c2, (bf, .cells (splice cur (0 + i * 44) (Value.agg (r.with_ p (tickTo tick tick')).c).cells) 100 (0, 0))])⟩) (by kernel_rfl) ?_ ?_
  · refine p_plain0 (0 :: 1 :: 2 :: 3 :: 4 :: 5 :: 6 :: 7 :: 8 :: 9 :: 10 :: 11 :: 12 :: 13 :: 14 :: 15 :: 16 :: 17 :: 18 :: 19 :: 20 :: 21 :: []) ?_
    refine go_q0 66 (.fieldAddr 94 (.tmp 5) 0) 0 (qv_field rfl fd94_0) ?_
    refine go_q0 67 (.fieldAddr 92 (.tmp 66) 2) 0 (qv_field rfl fd92_2) ?_
    refine go_q0 68 (.load 5 (.tmp 67)) 5 (qv_load rfl .auto (ldv_sca sc5 (get_Pkt_34 _))) ?_
    refine go_q0 69 (.binOp .eql 5 (.tmp 68) (.const (.int .u8 6)) 5) 4 (qv_eql rfl rfl rfl) ?_
    refine go_q0 70 (.move (.tmp 69)) 4 (qv_move rfl) ?_
    refine go_case (d := 70) rfl (fun g70 => ?_) (fun g70 => ?_)
    rotate_left
    · replace g70 := kn g70
      refine go_n (d := 71) (op := .fieldAddr 94 (.tmp 5) 3) (ty := 0) (g := some (4, true)) (by kernel_rfl) ⟨70, _, by kernel_rfl, rfl, rfl⟩ rfl ?_
      refine go_n (d := 72) (op := .load 4 (.tmp 71)) (ty := 4) (g := some (4, true)) (by kernel_rfl) ⟨70, _, by kernel_rfl, rfl, rfl⟩ rfl ?_
      refine go_n (d := 73) (op := .unOp .not 4 (.tmp 72)) (ty := 4) (g := some (4, true)) (by kernel_rfl) ⟨70, _, by kernel_rfl, rfl, rfl⟩ rfl ?_
      refine go_q0 74 (.pick (.tmp 70) (.tmp 73) (.const (.bool false))) 4 (qv_pick_f rfl rfl) ?_
      refine go_q0 75 (.move (.tmp 74)) 4 (qv_move rfl) ?_
      refine go_n (d := 76) (op := .fieldAddr 94 (.tmp 5) 2) (ty := 0) (g := some (9, true)) (by kernel_rfl) ⟨75, _, by kernel_rfl, rfl, rfl⟩ rfl ?_
      refine go_n (d := 77) (op := .load 5 (.tmp 76)) (ty := 5) (g := some (9, true)) (by kernel_rfl) ⟨75, _, by kernel_rfl, rfl, rfl⟩ rfl ?_
      refine go_n (d := 78) (op := .binOp .rem 5 (.tmp 77) (.const (.int .u8 2)) 5) (ty := 5) (g := some (9, true)) (by kernel_rfl) ⟨75, _, by kernel_rfl, rfl, rfl⟩ rfl ?_
      refine go_n (d := 79) (op := .binOp .eql 5 (.tmp 78) (.const (.int .u8 1)) 5) (ty := 4) (g := some (9, true)) (by kernel_rfl) ⟨75, _, by kernel_rfl, rfl, rfl⟩ rfl ?_
      refine go_n (d := 80) (op := .move (.tmp 79)) (ty := 4) (g := some (9, true)) (by kernel_rfl) ⟨75, _, by kernel_rfl, rfl, rfl⟩ rfl ?_
      refine go_n (d := 81) (op := .fieldAddr 94 (.tmp 5) 2) (ty := 0) (g := some (14, false)) (by kernel_rfl) ⟨80, _, by kernel_rfl, rfl, rfl⟩ rfl ?_
      refine go_n (d := 82) (op := .load 5 (.tmp 81)) (ty := 5) (g := some (14, false)) (by kernel_rfl) ⟨80, _, by kernel_rfl, rfl, rfl⟩ rfl ?_
      refine go_n (d := 83) (op := .binOp .quo 5 (.tmp 82) (.const (.int .u8 4)) 5) (ty := 5) (g := some (14, false)) (by kernel_rfl) ⟨80, _, by kernel_rfl, rfl, rfl⟩ rfl ?_
      refine go_n (d := 84) (op := .binOp .rem 5 (.tmp 83) (.const (.int .u8 2)) 5) (ty := 5) (g := some (14, false)) (by kernel_rfl) ⟨80, _, by kernel_rfl, rfl, rfl⟩ rfl ?_
      refine go_n (d := 85) (op := .binOp .eql 5 (.tmp 84) (.const (.int .u8 1)) 5) (ty := 4) (g := some (14, false)) (by kernel_rfl) ⟨80, _, by kernel_rfl, rfl, rfl⟩ rfl ?_
      refine go_n (d := 86) (op := .pick (.tmp 80) (.const (.bool true)) (.tmp 85)) (ty := 4) (g := some (9, true)) (by kernel_rfl) ⟨75, _, by kernel_rfl, rfl, rfl⟩ rfl ?_
      refine go_q0 87 (.pick (.tmp 75) (.tmp 86) (.const (.bool false))) 4 (qv_pick_f rfl rfl) ?_
      refine go_nil ?_
      exact ⟨_, by rw [seen_ref hp.flags_]; first | (simp [*]; done) | (simp [*]; rfl), ⟨rfl, ⟨[87, 0, 8, 9, 10, 13, 15], rfl⟩, .auto⟩⟩
    replace g70 := kn g70
    refine go_q (d := 71) (op := .fieldAddr 94 (.tmp 5) 3) (ty := 0) (g := some (4, true)) (by kernel_rfl) ⟨70, by kernel_rfl, rfl⟩ rfl (qv_field rfl fd94_3) ?_
    refine go_q (d := 72) (op := .load 4 (.tmp 71)) (ty := 4) (g := some (4, true)) (by kernel_rfl) ⟨70, by kernel_rfl, rfl⟩ rfl (qv_load rfl .auto (ldv_sca sc4 (get_Pkt_39 _))) ?_
    refine go_q (d := 73) (op := .unOp .not 4 (.tmp 72)) (ty := 4) (g := some (4, true)) (by kernel_rfl) ⟨70, by kernel_rfl, rfl⟩ rfl (qv_not rfl) ?_
    refine go_q0 74 (.pick (.tmp 70) (.tmp 73) (.const (.bool false))) 4 (qv_pick_t rfl rfl) ?_
    refine go_q0 75 (.move (.tmp 74)) 4 (qv_move rfl) ?_
    refine go_case (d := 75) rfl (fun g75 => ?_) (fun g75 => ?_)
    rotate_left
    · replace g75 := kn g75
      refine go_n (d := 76) (op := .fieldAddr 94 (.tmp 5) 2) (ty := 0) (g := some (9, true)) (by kernel_rfl) ⟨75, _, by kernel_rfl, rfl, rfl⟩ rfl ?_
      refine go_n (d := 77) (op := .load 5 (.tmp 76)) (ty := 5) (g := some (9, true)) (by kernel_rfl) ⟨75, _, by kernel_rfl, rfl, rfl⟩ rfl ?_
      refine go_n (d := 78) (op := .binOp .rem 5 (.tmp 77) (.const (.int .u8 2)) 5) (ty := 5) (g := some (9, true)) (by kernel_rfl) ⟨75, _, by kernel_rfl, rfl, rfl⟩ rfl ?_
      refine go_n (d := 79) (op := .binOp .eql 5 (.tmp 78) (.const (.int .u8 1)) 5) (ty := 4) (g := some (9, true)) (by kernel_rfl) ⟨75, _, by kernel_rfl, rfl, rfl⟩ rfl ?_
      refine go_n (d := 80) (op := .move (.tmp 79)) (ty := 4) (g := some (9, true)) (by kernel_rfl) ⟨75, _, by kernel_rfl, rfl, rfl⟩ rfl ?_
      refine go_n (d := 81) (op := .fieldAddr 94 (.tmp 5) 2) (ty := 0) (g := some (14, false)) (by kernel_rfl) ⟨80, _, by kernel_rfl, rfl, rfl⟩ rfl ?_
      refine go_n (d := 82) (op := .load 5 (.tmp 81)) (ty := 5) (g := some (14, false)) (by kernel_rfl) ⟨80, _, by kernel_rfl, rfl, rfl⟩ rfl ?_
      refine go_n (d := 83) (op := .binOp .quo 5 (.tmp 82) (.const (.int .u8 4)) 5) (ty := 5) (g := some (14, false)) (by kernel_rfl) ⟨80, _, by kernel_rfl, rfl, rfl⟩ rfl ?_
      refine go_n (d := 84) (op := .binOp .rem 5 (.tmp 83) (.const (.int .u8 2)) 5) (ty := 5) (g := some (14, false)) (by kernel_rfl) ⟨80, _, by kernel_rfl, rfl, rfl⟩ rfl ?_
      refine go_n (d := 85) (op := .binOp .eql 5 (.tmp 84) (.const (.int .u8 1)) 5) (ty := 4) (g := some (14, false)) (by kernel_rfl) ⟨80, _, by kernel_rfl, rfl, rfl⟩ rfl ?_
      refine go_n (d := 86) (op := .pick (.tmp 80) (.const (.bool true)) (.tmp 85)) (ty := 4) (g := some (9, true)) (by kernel_rfl) ⟨75, _, by kernel_rfl, rfl, rfl⟩ rfl ?_
      refine go_q0 87 (.pick (.tmp 75) (.tmp 86) (.const (.bool false))) 4 (qv_pick_f rfl rfl) ?_
      refine go_nil ?_
      exact ⟨_, by rw [seen_ref hp.flags_]; first | (simp [*]; done) | (simp [*]; rfl), ⟨rfl, ⟨[87, 0, 8, 9, 10, 13, 15], rfl⟩, .auto⟩⟩
    replace g75 := kn g75
    refine go_q (d := 76) (op := .fieldAddr 94 (.tmp 5) 2) (ty := 0) (g := some (9, true)) (by kernel_rfl) ⟨75, by kernel_rfl, rfl⟩ rfl (qv_field rfl fd94_2) ?_
    refine go_q (d := 77) (op := .load 5 (.tmp 76)) (ty := 5) (g := some (9, true)) (by kernel_rfl) ⟨75, by kernel_rfl, rfl⟩ rfl (qv_load rfl .auto (ldv_sca sc5 (get_Pkt_38 _))) ?_
    refine go_q (d := 78) (op := .binOp .rem 5 (.tmp 77) (.const (.int .u8 2)) 5) (ty := 5) (g := some (9, true)) (by kernel_rfl) ⟨75, by kernel_rfl, rfl⟩ rfl (qv_rem rfl rfl (by omega) (rfl)) ?_
    refine go_q (d := 79) (op := .binOp .eql 5 (.tmp 78) (.const (.int .u8 1)) 5) (ty := 4) (g := some (9, true)) (by kernel_rfl) ⟨75, by kernel_rfl, rfl⟩ rfl (qv_eql rfl rfl rfl) ?_
    refine go_q (d := 80) (op := .move (.tmp 79)) (ty := 4) (g := some (9, true)) (by kernel_rfl) ⟨75, by kernel_rfl, rfl⟩ rfl (qv_move rfl) ?_
    refine go_case (d := 80) rfl (fun g80 => ?_) (fun g80 => ?_)
    · replace g80 := kn g80
      refine go_n (d := 81) (op := .fieldAddr 94 (.tmp 5) 2) (ty := 0) (g := some (14, false)) (by kernel_rfl) ⟨80, _, by kernel_rfl, rfl, rfl⟩ rfl ?_
      refine go_n (d := 82) (op := .load 5 (.tmp 81)) (ty := 5) (g := some (14, false)) (by kernel_rfl) ⟨80, _, by kernel_rfl, rfl, rfl⟩ rfl ?_
      refine go_n (d := 83) (op := .binOp .quo 5 (.tmp 82) (.const (.int .u8 4)) 5) (ty := 5) (g := some (14, false)) (by kernel_rfl) ⟨80, _, by kernel_rfl, rfl, rfl⟩ rfl ?_
      refine go_n (d := 84) (op := .binOp .rem 5 (.tmp 83) (.const (.int .u8 2)) 5) (ty := 5) (g := some (14, false)) (by kernel_rfl) ⟨80, _, by kernel_rfl, rfl, rfl⟩ rfl ?_
      refine go_n (d := 85) (op := .binOp .eql 5 (.tmp 84) (.const (.int .u8 1)) 5) (ty := 4) (g := some (14, false)) (by kernel_rfl) ⟨80, _, by kernel_rfl, rfl, rfl⟩ rfl ?_
      refine go_q (d := 86) (op := .pick (.tmp 80) (.const (.bool true)) (.tmp 85)) (ty := 4) (g := some (9, true)) (by kernel_rfl) ⟨75, by kernel_rfl, rfl⟩ rfl (qv_pick_t rfl rfl) ?_
      refine go_q0 87 (.pick (.tmp 75) (.tmp 86) (.const (.bool false))) 4 (qv_pick_t rfl rfl) ?_
      refine go_nil ?_
      exact ⟨_, by rw [seen_ref hp.flags_]; first | (simp [*]; done) | (simp [*]; rfl), ⟨rfl, ⟨[87, 0, 8, 9, 10, 13, 15], rfl⟩, .auto⟩⟩
    replace g80 := kn g80
    refine go_q (d := 81) (op := .fieldAddr 94 (.tmp 5) 2) (ty := 0) (g := some (14, false)) (by kernel_rfl) ⟨80, by kernel_rfl, rfl⟩ rfl (qv_field rfl fd94_2) ?_
    refine go_q (d := 82) (op := .load 5 (.tmp 81)) (ty := 5) (g := some (14, false)) (by kernel_rfl) ⟨80, by kernel_rfl, rfl⟩ rfl (qv_load rfl .auto (ldv_sca sc5 (get_Pkt_38 _))) ?_
    refine go_q (d := 83) (op := .binOp .quo 5 (.tmp 82) (.const (.int .u8 4)) 5) (ty := 5) (g := some (14, false)) (by kernel_rfl) ⟨80, by kernel_rfl, rfl⟩ rfl (qv_quo rfl rfl (by omega) (hq4)) ?_
    refine go_q (d := 84) (op := .binOp .rem 5 (.tmp 83) (.const (.int .u8 2)) 5) (ty := 5) (g := some (14, false)) (by kernel_rfl) ⟨80, by kernel_rfl, rfl⟩ rfl (qv_rem rfl rfl (by omega) (rfl)) ?_
    refine go_q (d := 85) (op := .binOp .eql 5 (.tmp 84) (.const (.int .u8 1)) 5) (ty := 4) (g := some (14, false)) (by kernel_rfl) ⟨80, by kernel_rfl, rfl⟩ rfl (qv_eql rfl rfl rfl) ?_
    refine go_q (d := 86) (op := .pick (.tmp 80) (.const (.bool true)) (.tmp 85)) (ty := 4) (g := some (9, true)) (by kernel_rfl) ⟨75, by kernel_rfl, rfl⟩ rfl (qv_pick_f rfl rfl) ?_
    refine go_q0 87 (.pick (.tmp 75) (.tmp 86) (.const (.bool false))) 4 (qv_pick_t rfl rfl) ?_
    refine go_nil ?_
    exact ⟨_, by rw [seen_ref hp.flags_]; first | (simp [*]; done) | (simp [*]; rfl), ⟨rfl, ⟨[87, 0, 8, 9, 10, 13, 15], rfl⟩, .auto⟩⟩
  rintro s ⟨z, hz, hs⟩
  refine ge_ok hs ?_
  refine p_cond (.tmp 87) (by kernel_rfl) rfl (fun h87 => ?_) (fun h87 => ?_)
  · replace h87 := kn h87
    have hs3 : seenB p = true := by rw [← hz]; exact h87
    have hE := ct_rend 3 hMs hir'
    have hz3 : endZ bd p (r.with_ p (tickTo tick tick')) = 3 := by unfold endZ; rw [if_pos hs3]
    refine p_plain0 (0 :: 1 :: 2 :: 3 :: 4 :: 5 :: 6 :: []) ?_
    refine go_q0 88 (.move (.tmp 10)) 85 (qv_move rfl) ?_
    refine go_q0 89 (.move (.tmp 0)) 47 (qv_move rfl) ?_
    refine go_q0 90 (.move (.tmp 13)) 3 (qv_move rfl) ?_
    refine go_s0 (some 91) (.call { callee := .value (.func 70), args := #[.tmp 89, .tmp 90, .const (.int .u8 3)], argTypes := #[47, 3, 5] }) 100 ?_
    refine os_call (Nat.le_of_ble_eq_true rfl) en70 rfl (by exact .auto) (hE) ?_
    rintro v91 A91 ⟨rfl, hMn⟩
    try dsimp only [List.nil_append, List.cons_append]
    refine go_s0 (some 92) (.buildSlice 85 1 #[(0, .tmp 91)]) 85 ?_
    refine os_buildSlice (Nat.le_of_ble_eq_true rfl) rfl (bls85_1 _) (fun b92 => ?_)
    refine go_s0 (some 93) (.call { callee := .builtin .append, args := #[.tmp 88, .tmp 92], argTypes := #[85, 85] }) 85 ?_
    refine os_appendK (E := eRec) (l := out1 ++ out2) (l2 := [{ r.with_ p (tickTo tick tick') with reason := 3 }]) rfl el85 rfl rfl rfl rfl (hOo) .auto .auto (Go.E.holds_one _) (one_Rec) (by simp [maxLen] <;> omega) (by simp <;> omega) (fun p93 c93 A93 h93 => ?_)
    have hOn := h93
    have hRn := mid_end hA hMid hI2.sort hir hrk hz3 (by decide)
    refine go_q0 10 (.assign (.tmp 93)) 85 (qv_assign rfl) ?_
    refine go_nil ?_
    exact ⟨_, _, _, _, _, _, hRn, hOn, hMn, ⟨rfl, ⟨[10], rfl⟩, .auto⟩⟩
  replace h87 := kn h87
  have hs3 : seenB p = false := by rw [← hz]; exact h87
  refine p_seq0 ?_
  refine p_draw (by kernel_rfl) mixed 18 18 _ (fun _ h => h) (by kernel_rfl) ?_
  refine gd_all (0 :: 1 :: 2 :: 3 :: 4 :: 5 :: 6 :: 7 :: 8 :: 9 :: 10 :: 11 :: 12 :: 13 :: 14 :: 15 :: 16 :: 17 :: []) _ rfl (by kernel_rfl) (by decide) (fun _ h => h) rfl ?_
  refine sq_q0 94 (.fieldAddr 100 (.tmp 15) 1) 0 (qv_field rfl fd100_1) ?_
  refine sq_q0 95 (.load 23 (.tmp 94)) 23 (qv_load rfl .auto (ldv_sca sc23 (get_Rec_37 _))) ?_
  refine sq_q0 96 (.move (.tmp 0)) 47 (qv_move rfl) ?_
  refine sq_q0 97 (.nilCheck (.tmp 96)) 0 (qv_nilCheck rfl) ?_
  refine sq_q0 98 (.fieldAddr 87 (.tmp 97) 1) 0 (qv_field rfl fd87_1) ?_
  refine sq_q0 99 (.fieldAddr 50 (.tmp 98) 3) 0 (qv_field rfl fd50_3) ?_
  refine sq_q0 100 (.load 23 (.tmp 99)) 23 (qv_load rfl .auto (ldv_sca sc23 (get_RCac_4 _))) ?_
  refine sq_q0 101 (.binOp .geq 23 (.tmp 95) (.tmp 100) 23) 4 (qv_geq rfl rfl rfl) ?_
  refine sq_q0 102 (.move (.tmp 101)) 4 (qv_move rfl) ?_
  refine sq_case (d := 102) rfl (fun _ => rfl) (fun g102 => ?_) (fun g102 => ?_)
  · replace g102 := kn g102
    refine sq_n (d := 103) (op := .fieldAddr 100 (.tmp 15) 2) (ty := 0) (g := some (8, false)) (by kernel_rfl) ⟨102, _, by kernel_rfl, rfl, rfl⟩ ?_
    refine sq_n (d := 104) (op := .load 23 (.tmp 103)) (ty := 23) (g := some (8, false)) (by kernel_rfl) ⟨102, _, by kernel_rfl, rfl, rfl⟩ ?_
    refine sq_n (d := 105) (op := .move (.tmp 0)) (ty := 47) (g := some (8, false)) (by kernel_rfl) ⟨102, _, by kernel_rfl, rfl, rfl⟩ ?_
    refine sq_n (d := 106) (op := .nilCheck (.tmp 105)) (ty := 0) (g := some (8, false)) (by kernel_rfl) ⟨102, _, by kernel_rfl, rfl, rfl⟩ ?_
    refine sq_n (d := 107) (op := .fieldAddr 87 (.tmp 106) 1) (ty := 0) (g := some (8, false)) (by kernel_rfl) ⟨102, _, by kernel_rfl, rfl, rfl⟩ ?_
    refine sq_n (d := 108) (op := .fieldAddr 50 (.tmp 107) 4) (ty := 0) (g := some (8, false)) (by kernel_rfl) ⟨102, _, by kernel_rfl, rfl, rfl⟩ ?_
    refine sq_n (d := 109) (op := .load 23 (.tmp 108)) (ty := 23) (g := some (8, false)) (by kernel_rfl) ⟨102, _, by kernel_rfl, rfl, rfl⟩ ?_
    refine sq_n (d := 110) (op := .binOp .geq 23 (.tmp 104) (.tmp 109) 23) (ty := 4) (g := some (8, false)) (by kernel_rfl) ⟨102, _, by kernel_rfl, rfl, rfl⟩ ?_
    refine sq_q0 111 (.pick (.tmp 102) (.const (.bool true)) (.tmp 110)) 4 (qv_pick_t rfl rfl) ?_
    refine SeqK.nil (fun β => ?_)
    refine gd_tail [] rfl (by kernel_rfl) (by kernel_rfl) ?_
    refine go_nil ?_
    change G _ _ _ _
    refine p_weaken [0, 8, 9, 10, 13, 111] rfl ?_
    refine p_condT (.tmp 111) (by kernel_rfl) rfl ?_
    have hE := ct_rend 4 hMs hir'
    have hz4 : endZ bd p (r.with_ p (tickTo tick tick')) = 4 := endZ4 hs3 (by first | exact .inl g102 | exact .inr h111)
    refine p_plain0 (0 :: 1 :: 2 :: 3 :: 4 :: 5 :: 6 :: []) ?_
    refine go_q0 112 (.move (.tmp 10)) 85 (qv_move rfl) ?_
    refine go_q0 113 (.move (.tmp 0)) 47 (qv_move rfl) ?_
    refine go_q0 114 (.move (.tmp 13)) 3 (qv_move rfl) ?_
    refine go_s0 (some 115) (.call { callee := .value (.func 70), args := #[.tmp 113, .tmp 114, .const (.int .u8 4)], argTypes := #[47, 3, 5] }) 100 ?_
    refine os_call (Nat.le_of_ble_eq_true rfl) en70 rfl (by exact .auto) (hE) ?_
    rintro v115 A115 ⟨rfl, hMn⟩
    try dsimp only [List.nil_append, List.cons_append]
    refine go_s0 (some 116) (.buildSlice 85 1 #[(0, .tmp 115)]) 85 ?_
    refine os_buildSlice (Nat.le_of_ble_eq_true rfl) rfl (bls85_1 _) (fun b116 => ?_)
    refine go_s0 (some 117) (.call { callee := .builtin .append, args := #[.tmp 112, .tmp 116], argTypes := #[85, 85] }) 85 ?_
    refine os_appendK (E := eRec) (l := out1 ++ out2) (l2 := [{ r.with_ p (tickTo tick tick') with reason := 4 }]) rfl el85 rfl rfl rfl rfl (hOo) .auto .auto (Go.E.holds_one _) (one_Rec) (by simp [maxLen] <;> omega) (by simp <;> omega) (fun p117 c117 A117 h117 => ?_)
    have hOn := h117
    have hRn := mid_end hA hMid hI2.sort hir hrk hz4 (by decide)
    refine go_q0 10 (.assign (.tmp 117)) 85 (qv_assign rfl) ?_
    refine go_nil ?_
    exact ⟨_, _, _, _, _, _, hRn, hOn, hMn, ⟨rfl, ⟨[10], rfl⟩, .auto⟩⟩
  replace g102 := kn g102
  refine sq_q (d := 103) (op := .fieldAddr 100 (.tmp 15) 2) (ty := 0) (g := some (8, false)) (by kernel_rfl) ⟨102, by kernel_rfl, rfl⟩ (fun _ h => nomatch h) (qv_field rfl fd100_2) ?_
  refine sq_q (d := 104) (op := .load 23 (.tmp 103)) (ty := 23) (g := some (8, false)) (by kernel_rfl) ⟨102, by kernel_rfl, rfl⟩ (fun _ h => nomatch h) (qv_load rfl .auto (ldv_sca sc23 (get_Rec_38 _))) ?_
  refine sq_q (d := 105) (op := .move (.tmp 0)) (ty := 47) (g := some (8, false)) (by kernel_rfl) ⟨102, by kernel_rfl, rfl⟩ (fun _ h => nomatch h) (qv_move rfl) ?_
  refine sq_q (d := 106) (op := .nilCheck (.tmp 105)) (ty := 0) (g := some (8, false)) (by kernel_rfl) ⟨102, by kernel_rfl, rfl⟩ (fun _ h => nomatch h) (qv_nilCheck rfl) ?_
  refine sq_q (d := 107) (op := .fieldAddr 87 (.tmp 106) 1) (ty := 0) (g := some (8, false)) (by kernel_rfl) ⟨102, by kernel_rfl, rfl⟩ (fun _ h => nomatch h) (qv_field rfl fd87_1) ?_
  refine sq_q (d := 108) (op := .fieldAddr 50 (.tmp 107) 4) (ty := 0) (g := some (8, false)) (by kernel_rfl) ⟨102, by kernel_rfl, rfl⟩ (fun _ h => nomatch h) (qv_field rfl fd50_4) ?_
  refine sq_q (d := 109) (op := .load 23 (.tmp 108)) (ty := 23) (g := some (8, false)) (by kernel_rfl) ⟨102, by kernel_rfl, rfl⟩ (fun _ h => nomatch h) (qv_load rfl .auto (ldv_sca sc23 (get_RCac_5 _))) ?_
  refine sq_q (d := 110) (op := .binOp .geq 23 (.tmp 104) (.tmp 109) 23) (ty := 4) (g := some (8, false)) (by kernel_rfl) ⟨102, by kernel_rfl, rfl⟩ (fun _ h => nomatch h) (qv_geq rfl rfl rfl) ?_
  refine sq_q0 111 (.pick (.tmp 102) (.const (.bool true)) (.tmp 110)) 4 (qv_pick_f rfl rfl) ?_
  refine SeqK.nil (fun β => ?_)
  refine gd_tail [] rfl (by kernel_rfl) (by kernel_rfl) ?_
  refine go_nil ?_
  change G _ _ _ _
  refine p_weaken [0, 8, 9, 10, 13, 111] rfl ?_
  refine p_cond (.tmp 111) (by kernel_rfl) rfl (fun h111 => ?_) (fun h111 => ?_)
  rotate_left
  · replace h111 := kn h111
    have hz0 : endZ bd p (r.with_ p (tickTo tick tick')) = 0 := endZ0 hs3 (fun h => h.elim g102 h111)
    have hRn := mid_stay hA hMid hI2.sort hir hrk hz0
    have hOn := hOo
    have hMn := hMs
    refine p_skip0 ?_
    exact ⟨_, _, _, _, _, _, hRn, hOn, hMn, ⟨rfl, ⟨[10], rfl⟩, .auto⟩⟩
  replace h111 := kn h111
  have hE := ct_rend 4 hMs hir'
  have hz4 : endZ bd p (r.with_ p (tickTo tick tick')) = 4 := endZ4 hs3 (by first | exact .inl g102 | exact .inr h111)
  refine p_plain0 (0 :: 1 :: 2 :: 3 :: 4 :: 5 :: 6 :: []) ?_
  refine go_q0 112 (.move (.tmp 10)) 85 (qv_move rfl) ?_
  refine go_q0 113 (.move (.tmp 0)) 47 (qv_move rfl) ?_
  refine go_q0 114 (.move (.tmp 13)) 3 (qv_move rfl) ?_
  refine go_s0 (some 115) (.call { callee := .value (.func 70), args := #[.tmp 113, .tmp 114, .const (.int .u8 4)], argTypes := #[47, 3, 5] }) 100 ?_
  refine os_call (Nat.le_of_ble_eq_true rfl) en70 rfl (by exact .auto) (hE) ?_
  rintro v115 A115 ⟨rfl, hMn⟩
  try dsimp only [List.nil_append, List.cons_append]
  refine go_s0 (some 116) (.buildSlice 85 1 #[(0, .tmp 115)]) 85 ?_
  refine os_buildSlice (Nat.le_of_ble_eq_true rfl) rfl (bls85_1 _) (fun b116 => ?_)
  refine go_s0 (some 117) (.call { callee := .builtin .append, args := #[.tmp 112, .tmp 116], argTypes := #[85, 85] }) 85 ?_
  refine os_appendK (E := eRec) (l := out1 ++ out2) (l2 := [{ r.with_ p (tickTo tick tick') with reason := 4 }]) rfl el85 rfl rfl rfl rfl (hOo) .auto .auto (Go.E.holds_one _) (one_Rec) (by simp [maxLen] <;> omega) (by simp <;> omega) (fun p117 c117 A117 h117 => ?_)
  have hOn := h117
  have hRn := mid_end hA hMid hI2.sort hir hrk hz4 (by decide)
  refine go_q0 10 (.assign (.tmp 117)) 85 (qv_assign rfl) ?_
  refine go_nil ?_
  exact ⟨_, _, _, _, _, _, hRn, hOn, hMn, ⟨rfl, ⟨[10], rfl⟩, .auto⟩⟩
/-- An Account of any packet. -/
theorem ct_rAccountA (hM : RcM br tick bd g M) (hp : p.Wf) (ht : InK .u64 tick) (ht' : InK .u64 tick') (hcl : InK .u8 cls) :
    Ct Tryz.prog 33 [.pointer (some ⟨br, 0, none⟩), .agg p.c, .int .u8 cls, .int .u64 tick'].toArray M (fun v M' => ∃ g' out q cq B M1 tk e, AccQ bd tick tick' p cls g g' out tk e ∧ v = .tuple #[.slice q out.length cq, .int .i64 e] ∧ OwnL eRec 100 q cq out B ∧ RcM br tk bd g' M1 ∧ M' = B ++ M1) := by
  cases hr : p.key.right with
  | true =>
    refine (ct_rAccount hM hp hr ht ht' hcl).mono ?_
    rintro v M' ⟨fl', out, q, cq, B, M1, hA, hv, hO, hM1, hM'⟩
    exact ⟨fl', out, q, cq, B, M1, _, 0, .inl ⟨hr, hA, rfl, rfl⟩, hv, hO, hM1, hM'⟩
  | false =>
    refine (ct_rAccountBad hM hr).mono ?_
    rintro v M' ⟨hv, hM'⟩
    exact ⟨g, [], none, 0, [], M, tick, 2, .inr ⟨hr, rfl, rfl, rfl, rfl⟩, hv, OwnL.nil, hM, hM'⟩
end
end Go.Proofs.YtobmcpoejhhemaaGreat

namespace Go.Proofs.YtobmcpoejhhemaaGreat
open Go.E

theorem Sel.appL {A B C : Mem} : Sel (A ++ B ++ C) A (B ++ C) := by rw [List.append_assoc]; exact Sel.app
theorem AccA.tk_in {bd : Bnd} {tick tick' cls tk e : Int} {p : Pkt} {fl fl' out : List Rec} (h : AccA bd tick tick' p cls fl fl' out tk e) (ht : InK .u64 tick) (ht' : InK .u64 tick') : InK .u64 tk := by
  rcases h with ⟨_, _, rfl, _⟩ | ⟨_, _, _, rfl, _⟩
  · exact tickTo_in ht ht'
  · exact ht
theorem AccA.out_le {bc : Nat} {bd : Bnd} {tick tick' cls tk e : Int} {p : Pkt} {fl fl' out : List Rec} {M : Mem} (h : AccA bd tick tick' p cls fl fl' out tk e) (hM : CacM bc tick bd fl M) : out.length ≤ 100000 := by
  rcases h with ⟨_, h, _⟩ | ⟨_, _, rfl, _⟩
  · have := h.out_len hM; omega
  · simp
section
variable {bc br : Nat} {tick : Int} {bd : Bnd} {fl g : List Rec} {M1 M2 : Mem}
theorem ct_does (hM : CacM bc tick bd fl M1) (hR : RcM br tick bd g M2) (hp : fl.Perm g) (ht : InK .u64 tick) (a : Act24) (ha : a.Wf) :
    Ct Tryz.prog 13 [.pointer (some ⟨bc, 0, none⟩), .pointer (some ⟨br, 0, none⟩), .agg a.c].toArray (M1 ++ M2) (fun v M' => v = .bool true ∧ ∃ fl' g' tk N1 N2, CacM bc tk bd fl' N1 ∧ RcM br tk bd g' N2 ∧ fl'.Perm g' ∧ InK .u64 tk ∧ M' = N1 ++ N2) := by
  have hwr := hM.wfr
  have hds := hM.dist
  have hle := hM.le
  have hpl := hp.length_eq
  refine ct_body (rv := [.tmp 6]) [(0, _), (1, _), (2, _)] Tryz.func13 (by kernel_rfl) Tryz.ntmps13 Tryz.results13 rfl rfl (fun w0 => ?_)
  refine p_seq0 ?_
  refine p_plain0 (0 :: 1 :: []) ?_
  refine go_s0 (some 5) (.box 33 (.tmp 2)) 0 ?_
  refine os_boxA rfl rfl (fun b5 => ?_)
  refine go_q0 6 (.assign (.const (.bool false))) 4 (qv_assign rfl) ?_
  refine go_nil ?_
  change G _ _ _ _
  refine p_weaken [0, 1, 5, 6] rfl ?_
  refine p_seq0 ?_
  refine p_seq0 ?_
  refine p_plain0 (0 :: 1 :: []) ?_
  refine go_q0 12 (.fieldAddr 33 (.tmp 5) 0) 0 (qv_field rfl fd33_0) ?_
  refine go_q0 13 (.load 3 (.tmp 12)) 3 (qv_load rfl .auto (ldv_sca sc3 (get_Act24_0 _))) ?_
  refine go_nil ?_
  change G _ _ _ _
  refine p_weaken [0, 1, 5, 6, 13] rfl ?_
  refine p_block 0 (by kernel_rfl) ?_
  refine p_seqK [0, 1, 5, 6, 13] rfl (fun frk Mk s => ∃ (z : Bool), Ge s ⟨[], (14, .bool z) :: frk, (b5, .cells a.c 33 (0, 0)) :: (M1 ++ M2)⟩) (by kernel_rfl) ?_ ?_
  · refine p_seq0 ?_
    refine p_plain0 (0 :: 1 :: []) ?_
    refine go_q0 15 (.binOp .eql 3 (.tmp 13) (.const (.int .i64 0)) 3) 4 (qv_eql rfl rfl rfl) ?_
    refine go_q0 14 (.assign (.tmp 15)) 4 (qv_assign rfl) ?_
    refine go_nil ?_
    change G _ _ _ _
    refine p_weaken [0, 1, 5, 6, 13, 14] rfl ?_
    refine p_cond (.tmp 14) (by kernel_rfl) rfl (fun h14 => ?_) (fun h14 => ?_)
    · replace h14 := kn h14
      refine p_skip0 ?_
      exact ⟨_, ⟨rfl, ⟨[14, 0, 1, 5, 6, 13], rfl⟩, .auto⟩⟩
    replace h14 := kn h14
    refine p_seq0 ?_
    refine p_plain0 (0 :: 1 :: []) ?_
    refine go_q0 16 (.binOp .eql 3 (.tmp 13) (.const (.int .i64 1)) 3) 4 (qv_eql rfl rfl rfl) ?_
    refine go_q0 14 (.assign (.tmp 16)) 4 (qv_assign rfl) ?_
    refine go_nil ?_
    change G _ _ _ _
    refine p_weaken [0, 1, 5, 6, 13, 14] rfl ?_
    refine p_cond (.tmp 14) (by kernel_rfl) rfl (fun h14 => ?_) (fun h14 => ?_)
    · replace h14 := kn h14
      refine p_skip0 ?_
      exact ⟨_, ⟨rfl, ⟨[14, 0, 1, 5, 6, 13], rfl⟩, .auto⟩⟩
    replace h14 := kn h14
    refine p_seq0 ?_
    refine p_plain0 (0 :: 1 :: []) ?_
    refine go_q0 17 (.binOp .eql 3 (.tmp 13) (.const (.int .i64 2)) 3) 4 (qv_eql rfl rfl rfl) ?_
    refine go_q0 14 (.assign (.tmp 17)) 4 (qv_assign rfl) ?_
    refine go_nil ?_
    change G _ _ _ _
    refine p_weaken [0, 1, 5, 6, 13, 14] rfl ?_
    refine p_cond (.tmp 14) (by kernel_rfl) rfl (fun h14 => ?_) (fun h14 => ?_)
    · replace h14 := kn h14
      refine p_skip0 ?_
      exact ⟨_, ⟨rfl, ⟨[14, 0, 1, 5, 6, 13], rfl⟩, .auto⟩⟩
    replace h14 := kn h14
    refine p_seq0 ?_
    refine p_plain0 (0 :: 1 :: []) ?_
    refine go_q0 18 (.binOp .eql 3 (.tmp 13) (.const (.int .i64 3)) 3) 4 (qv_eql rfl rfl rfl) ?_
    refine go_q0 14 (.assign (.tmp 18)) 4 (qv_assign rfl) ?_
    refine go_nil ?_
    change G _ _ _ _
    refine p_weaken [0, 1, 5, 6, 13, 14] rfl ?_
    refine p_cond (.tmp 14) (by kernel_rfl) rfl (fun h14 => ?_) (fun h14 => ?_)
    · replace h14 := kn h14
      refine p_skip0 ?_
      exact ⟨_, ⟨rfl, ⟨[14, 0, 1, 5, 6, 13], rfl⟩, .auto⟩⟩
    replace h14 := kn h14
    refine p_plain0 (0 :: 1 :: []) ?_
    refine go_q0 19 (.binOp .eql 3 (.tmp 13) (.const (.int .i64 4)) 3) 4 (qv_eql rfl rfl rfl) ?_
    refine go_q0 14 (.assign (.tmp 19)) 4 (qv_assign rfl) ?_
    refine go_nil ?_
    exact ⟨_, ⟨rfl, ⟨[14, 0, 1, 5, 6, 13], rfl⟩, .auto⟩⟩
  rintro s ⟨z, hs⟩
  refine ge_ok hs ?_
  refine p_cond (.tmp 14) (by kernel_rfl) rfl (fun h14 => ?_) (fun h14 => ?_)
  · replace h14 := kn h14
    refine p_seq0 ?_
    refine p_plain0 (0 :: 1 :: 2 :: 3 :: 4 :: 5 :: 6 :: 7 :: 8 :: 9 :: 10 :: 11 :: 12 :: []) ?_
    refine go_q0 21 (.move (.tmp 0)) 43 (qv_move rfl) ?_
    refine go_q0 22 (.fieldAddr 33 (.tmp 5) 1) 0 (qv_field rfl fd33_1) ?_
    refine go_q0 23 (.load 31 (.tmp 22)) 31 (qv_load rfl .auto (ldv_agg agg31 (ext_Act24_1_40 _) (Nat.le_of_ble_eq_true rfl))) ?_
    refine go_q0 24 (.fieldAddr 33 (.tmp 5) 2) 0 (qv_field rfl fd33_2) ?_
    refine go_q0 25 (.load 5 (.tmp 24)) 5 (qv_load rfl .auto (ldv_sca sc5 (get_Act24_41 _))) ?_
    refine go_q0 26 (.fieldAddr 33 (.tmp 5) 3) 0 (qv_field rfl fd33_3) ?_
    refine go_q0 27 (.load 23 (.tmp 26)) 23 (qv_load rfl .auto (ldv_sca sc23 (get_Act24_42 _))) ?_
    refine go_s0 (some 28) (.call { callee := .value (.func 21), args := #[.tmp 21, .tmp 23, .tmp 25, .tmp 27], argTypes := #[43, 31, 5, 23] }) 61 ?_
    refine os_call (Nat.le_of_ble_eq_true rfl) en21 rfl (Sel.skip Sel.app) (ct_AccountA hM ha.packet_ ht ha.tick_ ha.cls_) ?_
    rintro v28 A28 ⟨fl', out1, q1, k1, B1, N1, tk1, e1, hA1, rfl, hO1, hN1, rfl⟩
    try dsimp only [List.nil_append, List.cons_append]
    refine go_q0 20 (.move (.tmp 28)) 61 (qv_move rfl) ?_
    refine go_q0 29 (.extract (.tmp 20) 0) 55 (qv_extract rfl rfl) ?_
    refine go_q0 30 (.extract (.tmp 20) 1) 44 (qv_extract rfl rfl) ?_
    refine go_q0 7 (.assign (.tmp 29)) 55 (qv_assign rfl) ?_
    refine go_q0 8 (.assign (.tmp 30)) 44 (qv_assign rfl) ?_
    refine go_nil ?_
    change G _ _ _ _
    refine p_weaken [1, 5, 6, 7, 8] rfl ?_
    refine p_seq0 ?_
    refine p_draw (by kernel_rfl) mixed 13 14 [(b5, .cells a.c 33 (0, 0))] (by first | (simp; done) | (intro q hq; simp [hq]; done)) (by kernel_rfl) ?_
    refine gd_q (i := 0) (d := 32) (op := .move (.tmp 1)) (ty := 47) (g := none) (by kernel_rfl) trivial rfl (by kernel_rfl) (by kernel_rfl) (by kernel_rfl) (by kernel_rfl) (qv_move rfl) ?_
    refine gd_q (i := 1) (d := 33) (op := .fieldAddr 33 (.tmp 5) 1) (ty := 0) (g := none) (by kernel_rfl) trivial rfl (by kernel_rfl) (by kernel_rfl) (by kernel_rfl) (by kernel_rfl) (qv_field rfl fd33_1) ?_
    refine gd_q (i := 2) (d := 34) (op := .load 31 (.tmp 33)) (ty := 31) (g := none) (by kernel_rfl) trivial rfl (by kernel_rfl) (by kernel_rfl) (by kernel_rfl) (by kernel_rfl) (qv_load rfl .auto (ldv_agg agg31 (ext_Act24_1_40 _) (Nat.le_of_ble_eq_true rfl))) ?_
    refine gd_q (i := 4) (d := 36) (op := .fieldAddr 33 (.tmp 5) 2) (ty := 0) (g := none) (by kernel_rfl) trivial rfl (by kernel_rfl) (by kernel_rfl) (by kernel_rfl) (by kernel_rfl) (qv_field rfl fd33_2) ?_
    refine gd_q (i := 5) (d := 37) (op := .load 5 (.tmp 36)) (ty := 5) (g := none) (by kernel_rfl) trivial rfl (by kernel_rfl) (by kernel_rfl) (by kernel_rfl) (by kernel_rfl) (qv_load rfl .auto (ldv_sca sc5 (get_Act24_41 _))) ?_
    refine gd_q (i := 6) (d := 38) (op := .fieldAddr 33 (.tmp 5) 3) (ty := 0) (g := none) (by kernel_rfl) trivial rfl (by kernel_rfl) (by kernel_rfl) (by kernel_rfl) (by kernel_rfl) (qv_field rfl fd33_3) ?_
    refine gd_q (i := 7) (d := 39) (op := .load 23 (.tmp 38)) (ty := 23) (g := none) (by kernel_rfl) trivial rfl (by kernel_rfl) (by kernel_rfl) (by kernel_rfl) (by kernel_rfl) (qv_load rfl .auto (ldv_sca sc23 (get_Act24_42 _))) ?_
    refine gd_one (i := 3) (d := some 35) (op := .call { callee := .value (.func 34), args := #[.tmp 34], argTypes := #[31] }) (ty := 94) (g := none) (by kernel_rfl) trivial rfl (by kernel_rfl) ?_
    refine os_callP rfl en34 rfl (pu_docPacket a.packet) ?_
    refine ⟨fun _ h => by first | exact h | (cases h; done) | exact .tail _ h | exact .tail _ (.tail _ h) | exact List.mem_append_right _ (List.mem_append_right _ h) | exact List.mem_append_right _ h | (simp only [List.mem_cons, List.not_mem_nil, or_false] at h ⊢; first | exact .inl h | exact .inr (.inl h) | exact .inr (.inr (.inl h)) | exact .inr (.inr (.inr (.inl h))) | (subst h; simp; done) | grind), ?_⟩
    refine gd_one (i := 8) (d := some 40) (op := .call { callee := .value (.func 33), args := #[.tmp 32, .tmp 35, .tmp 37, .tmp 39], argTypes := #[47, 94, 5, 23] }) (ty := 88) (g := none) (by kernel_rfl) trivial rfl (by kernel_rfl) ?_
    refine os_call (Nat.le_of_ble_eq_true rfl) en33 rfl (Sel.skipA (Sel.skip Sel.all)) (ct_rAccountA hR ha.packet_ ht ha.tick_ ha.cls_) ?_
    rintro v40 A40 ⟨g', out2, q2, k2, B2, N2, tk2, e2, hA2, rfl, hO2, hN2, rfl⟩
    try dsimp only [List.nil_append, List.cons_append]
    have htk := hA1.tk_in ht ha.tick_
    have hol := hA1.out_le hM
    obtain ⟨hpn, rfl, rfl, rfl⟩ := hA1.det2 hA2 hp hwr hds
    refine ⟨fun _ h => by first | exact h | (cases h; done) | exact .tail _ h | exact .tail _ (.tail _ h) | exact List.mem_append_right _ (List.mem_append_right _ h) | exact List.mem_append_right _ h | (simp only [List.mem_cons, List.not_mem_nil, or_false] at h ⊢; first | exact .inl h | exact .inr (.inl h) | exact .inr (.inr (.inl h)) | exact .inr (.inr (.inr (.inl h))) | (subst h; simp; done) | grind), ?_⟩
    refine gd_q (i := 9) (d := 31) (op := .move (.tmp 40)) (ty := 88) (g := none) (by kernel_rfl) trivial rfl (by kernel_rfl) (by kernel_rfl) (by kernel_rfl) (by kernel_rfl) (qv_move rfl) ?_
    refine gd_q (i := 10) (d := 41) (op := .extract (.tmp 31) 0) (ty := 85) (g := none) (by kernel_rfl) trivial rfl (by kernel_rfl) (by kernel_rfl) (by kernel_rfl) (by kernel_rfl) (qv_extract rfl rfl) ?_
    refine gd_q (i := 11) (d := 42) (op := .extract (.tmp 31) 1) (ty := 44) (g := none) (by kernel_rfl) trivial rfl (by kernel_rfl) (by kernel_rfl) (by kernel_rfl) (by kernel_rfl) (qv_extract rfl rfl) ?_
    refine gd_q (i := 12) (d := 9) (op := .assign (.tmp 41)) (ty := 85) (g := none) (by kernel_rfl) trivial rfl (by kernel_rfl) (by kernel_rfl) (by kernel_rfl) (by kernel_rfl) (qv_assign rfl) ?_
    refine gd_tail [13] rfl (by kernel_rfl) (by kernel_rfl) ?_
    refine go_q0 10 (.assign (.tmp 42)) 44 (qv_assign rfl) ?_
    refine go_nil ?_
    change G _ _ _ _
    refine p_weaken [6, 7, 8, 9, 10] rfl ?_
    refine p_seq0 ?_
    refine p_plain0 (0 :: 1 :: 2 :: 3 :: 4 :: 5 :: 6 :: 7 :: 8 :: []) ?_
    refine go_q0 43 (.move (.tmp 8)) 44 (qv_move rfl) ?_
    refine go_q0 44 (.move (.tmp 10)) 44 (qv_move rfl) ?_
    refine go_q0 45 (.binOp .eql 44 (.tmp 43) (.tmp 44) 44) 4 (qv_eql (b := true) rfl rfl (beq_iff_eq.2 (by omega))) ?_
    refine go_q0 46 (.move (.tmp 45)) 4 (qv_move rfl) ?_
    refine go_q (d := 47) (op := .move (.tmp 7)) (ty := 55) (g := some (3, true)) (by kernel_rfl) ⟨46, by kernel_rfl, rfl⟩ rfl (qv_move rfl) ?_
    refine go_q (d := 48) (op := .move (.tmp 9)) (ty := 85) (g := some (3, true)) (by kernel_rfl) ⟨46, by kernel_rfl, rfl⟩ rfl (qv_move rfl) ?_
    refine go_s (d := some 49) (op := .call { callee := .value (.func 35), args := #[.tmp 47, .tmp 48], argTypes := #[55, 85] }) (ty := 4) (g := some (3, true)) (by kernel_rfl) ⟨46, by kernel_rfl, rfl⟩ ?_
    refine os_call (Nat.le_of_ble_eq_true rfl) en35 rfl (Sel.append (Sel.skipA Sel.appL) Sel.appL) (ct_SameFlows hO1 hO2.lst hol) ?_
    rintro v49 A49 ⟨rfl, rfl⟩
    try dsimp only [List.nil_append, List.cons_append]
    refine go_q0 50 (.pick (.tmp 46) (.tmp 49) (.const (.bool false))) 4 (qv_pick_t rfl rfl) ?_
    refine go_q0 6 (.assign (.tmp 50)) 4 (qv_assign rfl) ?_
    refine go_nil ?_
    change G _ _ _ _
    refine p_weaken [6] rfl ?_
    refine p_ret0 ?_
    try dsimp only [thenQ, inBlockQ]
    try rw [if_pos rfl]
    refine ret_left (N1 ++ N2) (.inr rfl) (.cons (res_tmp rfl) .nil) .auto ?_
    exact ⟨rfl, fl', g', tk1, N1, N2, hN1, hN2, hpn, htk, rfl⟩
  replace h14 := kn h14
  refine p_seqK [0, 1, 5, 6, 13] rfl (fun frk Mk s => ∃ (z2 : Bool), Ge s ⟨[], (51, .bool z2) :: frk, (b5, .cells a.c 33 (0, 0)) :: (M1 ++ M2)⟩) (by kernel_rfl) ?_ ?_
  · refine p_seq0 ?_
    refine p_plain0 (0 :: 1 :: []) ?_
    refine go_q0 52 (.binOp .eql 3 (.tmp 13) (.const (.int .i64 5)) 3) 4 (qv_eql rfl rfl rfl) ?_
    refine go_q0 51 (.assign (.tmp 52)) 4 (qv_assign rfl) ?_
    refine go_nil ?_
    change G _ _ _ _
    refine p_weaken [0, 1, 5, 6, 13, 51] rfl ?_
    refine p_cond (.tmp 51) (by kernel_rfl) rfl (fun h51 => ?_) (fun h51 => ?_)
    · replace h51 := kn h51
      refine p_skip0 ?_
      exact ⟨_, ⟨rfl, ⟨[51, 0, 1, 5, 6, 13], rfl⟩, .auto⟩⟩
    replace h51 := kn h51
    refine p_plain0 (0 :: 1 :: []) ?_
    refine go_q0 53 (.binOp .eql 3 (.tmp 13) (.const (.int .i64 6)) 3) 4 (qv_eql rfl rfl rfl) ?_
    refine go_q0 51 (.assign (.tmp 53)) 4 (qv_assign rfl) ?_
    refine go_nil ?_
    exact ⟨_, ⟨rfl, ⟨[51, 0, 1, 5, 6, 13], rfl⟩, .auto⟩⟩
  rintro s ⟨z2, hs⟩
  refine ge_ok hs ?_
  refine p_cond (.tmp 51) (by kernel_rfl) rfl (fun h51 => ?_) (fun h51 => ?_)
  · replace h51 := kn h51
    refine p_seq0 ?_
    refine p_draw (by kernel_rfl) mixed 9 10 [(b5, .cells a.c 33 (0, 0))] (by first | (simp; done) | (intro q hq; simp [hq]; done)) (by kernel_rfl) ?_
    refine gd_q (i := 0) (d := 54) (op := .move (.tmp 0)) (ty := 43) (g := none) (by kernel_rfl) trivial rfl (by kernel_rfl) (by kernel_rfl) (by kernel_rfl) (by kernel_rfl) (qv_move rfl) ?_
    refine gd_q (i := 1) (d := 55) (op := .fieldAddr 33 (.tmp 5) 3) (ty := 0) (g := none) (by kernel_rfl) trivial rfl (by kernel_rfl) (by kernel_rfl) (by kernel_rfl) (by kernel_rfl) (qv_field rfl fd33_3) ?_
    refine gd_q (i := 2) (d := 56) (op := .load 23 (.tmp 55)) (ty := 23) (g := none) (by kernel_rfl) trivial rfl (by kernel_rfl) (by kernel_rfl) (by kernel_rfl) (by kernel_rfl) (qv_load rfl .auto (ldv_sca sc23 (get_Act24_42 _))) ?_
    refine gd_q (i := 4) (d := 58) (op := .move (.tmp 1)) (ty := 47) (g := none) (by kernel_rfl) trivial rfl (by kernel_rfl) (by kernel_rfl) (by kernel_rfl) (by kernel_rfl) (qv_move rfl) ?_
    refine gd_q (i := 5) (d := 59) (op := .fieldAddr 33 (.tmp 5) 3) (ty := 0) (g := none) (by kernel_rfl) trivial rfl (by kernel_rfl) (by kernel_rfl) (by kernel_rfl) (by kernel_rfl) (qv_field rfl fd33_3) ?_
    refine gd_q (i := 6) (d := 60) (op := .load 23 (.tmp 59)) (ty := 23) (g := none) (by kernel_rfl) trivial rfl (by kernel_rfl) (by kernel_rfl) (by kernel_rfl) (by kernel_rfl) (qv_load rfl .auto (ldv_sca sc23 (get_Act24_42 _))) ?_
    refine gd_one (i := 3) (d := some 57) (op := .call { callee := .value (.func 18), args := #[.tmp 54, .tmp 56], argTypes := #[43, 23] }) (ty := 55) (g := none) (by kernel_rfl) trivial rfl (by kernel_rfl) ?_
    refine os_call (Nat.le_of_ble_eq_true rfl) en18 rfl (Sel.skip Sel.app) (ct_AdvanceAny a.tick hM) ?_
    rintro v57 A57 ⟨fl', out1, q1, k1, B1, N1, hA1, rfl, hO1, hN1, rfl⟩
    try dsimp only [List.nil_append, List.cons_append]
    refine ⟨fun _ h => by first | exact h | (cases h; done) | exact .tail _ h | exact .tail _ (.tail _ h) | exact List.mem_append_right _ (List.mem_append_right _ h) | exact List.mem_append_right _ h | (simp only [List.mem_cons, List.not_mem_nil, or_false] at h ⊢; first | exact .inl h | exact .inr (.inl h) | exact .inr (.inr (.inl h)) | exact .inr (.inr (.inr (.inl h))) | (subst h; simp; done) | grind), ?_⟩
    refine gd_one (i := 7) (d := some 61) (op := .call { callee := .value (.func 36), args := #[.tmp 58, .tmp 60], argTypes := #[47, 23] }) (ty := 85) (g := none) (by kernel_rfl) trivial rfl (by kernel_rfl) ?_
    refine os_call (Nat.le_of_ble_eq_true rfl) en36 rfl (Sel.skipA (Sel.skip Sel.all)) (ct_rAdvanceAny a.tick hR) ?_
    rintro v61 A61 ⟨g', out2, q2, k2, B2, N2, hA2, rfl, hO2, hN2, rfl⟩
    try dsimp only [List.nil_append, List.cons_append]
    have hol := hA1.out_len hM
    obtain ⟨hpn, rfl⟩ := hA1.det hA2 hp hwr hds
    refine ⟨fun _ h => by first | exact h | (cases h; done) | exact .tail _ h | exact .tail _ (.tail _ h) | exact List.mem_append_right _ (List.mem_append_right _ h) | exact List.mem_append_right _ h | (simp only [List.mem_cons, List.not_mem_nil, or_false] at h ⊢; first | exact .inl h | exact .inr (.inl h) | exact .inr (.inr (.inl h)) | exact .inr (.inr (.inr (.inl h))) | (subst h; simp; done) | grind), ?_⟩
    refine gd_one (i := 8) (d := some 62) (op := .call { callee := .value (.func 35), args := #[.tmp 57, .tmp 61], argTypes := #[55, 85] }) (ty := 4) (g := none) (by kernel_rfl) trivial rfl (by kernel_rfl) ?_
    refine os_call (Nat.le_of_ble_eq_true rfl) en35 rfl (Sel.append (Sel.skipA Sel.appL) Sel.appL) (ct_SameFlows hO1 hO2.lst (by omega)) ?_
    rintro v62 A62 ⟨rfl, rfl⟩
    try dsimp only [List.nil_append, List.cons_append]
    refine ⟨fun _ h => by first | exact h | (cases h; done) | exact .tail _ h | exact .tail _ (.tail _ h) | exact List.mem_append_right _ (List.mem_append_right _ h) | exact List.mem_append_right _ h | (simp only [List.mem_cons, List.not_mem_nil, or_false] at h ⊢; first | exact .inl h | exact .inr (.inl h) | exact .inr (.inr (.inl h)) | exact .inr (.inr (.inr (.inl h))) | (subst h; simp; done) | grind), ?_⟩
    refine gd_tail [9] rfl (by kernel_rfl) (by kernel_rfl) ?_
    refine go_q0 6 (.assign (.tmp 62)) 4 (qv_assign rfl) ?_
    refine go_nil ?_
    change G _ _ _ _
    refine p_weaken [6] rfl ?_
    refine p_ret0 ?_
    try dsimp only [thenQ, inBlockQ]
    try rw [if_pos rfl]
    refine ret_left (N1 ++ N2) (.inr rfl) (.cons (res_tmp rfl) .nil) .auto ?_
    exact ⟨rfl, fl', g', _, N1, N2, hN1, hN2, hpn, tickTo_in ht ha.tick_, rfl⟩
  replace h51 := kn h51
  refine p_seq0 ?_
  refine p_plain0 (0 :: 1 :: []) ?_
  refine go_q0 64 (.binOp .eql 3 (.tmp 13) (.const (.int .i64 7)) 3) 4 (qv_eql rfl rfl rfl) ?_
  refine go_q0 63 (.assign (.tmp 64)) 4 (qv_assign rfl) ?_
  refine go_nil ?_
  change G _ _ _ _
  refine p_weaken [0, 1, 6, 13, 63] rfl ?_
  refine p_cond (.tmp 63) (by kernel_rfl) rfl (fun h63 => ?_) (fun h63 => ?_)
  · replace h63 := kn h63
    refine p_seq0 ?_
    refine p_plain0 (0 :: 1 :: 2 :: 3 :: 4 :: 5 :: []) ?_
    refine go_q0 65 (.move (.tmp 0)) 43 (qv_move rfl) ?_
    refine go_s0 (some 66) (.call { callee := .value (.func 16), args := #[.tmp 65], argTypes := #[43] }) 55 ?_
    refine os_call (Nat.le_of_ble_eq_true rfl) en16 rfl (Sel.skip Sel.app) (ct_Flush hM) ?_
    rintro v66 A66 ⟨srt, q1, k1, B1, N1, hA1, rfl, hO1, hN1, rfl⟩
    try dsimp only [List.nil_append, List.cons_append]
    have hsg := hA1.eq hp hR.ri.sort hR.ri.wf
    subst hsg
    have hol : (told (fun _ => 4) srt).length ≤ 100000 := by unfold told; rw [List.length_map]; omega
    refine go_q0 67 (.move (.tmp 1)) 47 (qv_move rfl) ?_
    refine go_s0 (some 68) (.call { callee := .value (.func 37), args := #[.tmp 67], argTypes := #[47] }) 85 ?_
    refine os_call (Nat.le_of_ble_eq_true rfl) en37 rfl (Sel.skipA (Sel.skip Sel.all)) (ct_rFlush hR) ?_
    rintro v68 A68 ⟨q2, k2, B2, N2, rfl, hO2, hN2, rfl⟩
    try dsimp only [List.nil_append, List.cons_append]
    refine go_s0 (some 69) (.call { callee := .value (.func 35), args := #[.tmp 66, .tmp 68], argTypes := #[55, 85] }) 4 ?_
    refine os_call (Nat.le_of_ble_eq_true rfl) en35 rfl (Sel.append (Sel.skipA Sel.appL) Sel.appL) (ct_SameFlows hO1 hO2.lst hol) ?_
    rintro v69 A69 ⟨rfl, rfl⟩
    try dsimp only [List.nil_append, List.cons_append]
    refine go_q0 6 (.assign (.tmp 69)) 4 (qv_assign rfl) ?_
    refine go_nil ?_
    change G _ _ _ _
    refine p_weaken [6] rfl ?_
    refine p_ret0 ?_
    try dsimp only [thenQ, inBlockQ]
    try rw [if_pos rfl]
    refine ret_left (N1 ++ N2) (.inr rfl) (.cons (res_tmp rfl) .nil) .auto ?_
    exact ⟨rfl, [], [], tick, N1, N2, hN1, hN2, List.Perm.refl _, ht, rfl⟩
  replace h63 := kn h63
  refine p_seq0 ?_
  refine p_plain0 (0 :: 1 :: []) ?_
  refine go_q0 71 (.binOp .eql 3 (.tmp 13) (.const (.int .i64 8)) 3) 4 (qv_eql rfl rfl rfl) ?_
  refine go_q0 70 (.assign (.tmp 71)) 4 (qv_assign rfl) ?_
  refine go_nil ?_
  change G _ _ _ _
  refine p_weaken [0, 1, 6, 70] rfl ?_
  refine p_cond (.tmp 70) (by kernel_rfl) rfl (fun h70 => ?_) (fun h70 => ?_)
  rotate_left
  · replace h70 := kn h70
    refine p_skip0 ?_
    change G _ _ _ _
    refine p_weaken [6] rfl ?_
    refine p_seq0 ?_
    refine p_plain0 (0 :: []) ?_
    refine go_q0 6 (.assign (.const (.bool true))) 4 (qv_assign rfl) ?_
    refine go_nil ?_
    change G _ _ _ _
    refine p_ret0 ?_
    try dsimp only [thenQ, inBlockQ]
    try rw [if_pos rfl]
    refine ret_left (M1 ++ M2) (.inr rfl) (.cons (res_tmp rfl) .nil) .auto ?_
    exact ⟨rfl, fl, g, tick, M1, M2, hM, hR, hp, ht, rfl⟩
  replace h70 := kn h70
  refine p_seq0 ?_
  obtain ⟨p, c, A, hI, hO, rfl⟩ := hR
  refine p_plain0 (0 :: 1 :: 2 :: 3 :: 4 :: 5 :: []) ?_
  refine go_q0 72 (.move (.tmp 1)) 47 (qv_move rfl) ?_
  refine go_q0 73 (.nilCheck (.tmp 72)) 0 (qv_nilCheck rfl) ?_
  refine go_q0 74 (.fieldAddr 87 (.tmp 73) 2) 0 (qv_field rfl fd87_2) ?_
  refine go_q0 75 (.load 85 (.tmp 74)) 85 (qv_load rfl .auto (ldv_sca sc85 (get_RCac_6 _))) ?_
  refine go_q0 76 (.call { callee := .builtin .len, args := #[.tmp 75], argTypes := #[85] }) 3 (qv_lenS un85 rfl) ?_
  refine go_q0 11 (.assign (.tmp 76)) 3 (qv_assign rfl) ?_
  refine go_nil ?_
  change G _ _ _ _
  refine p_weaken [0, 1, 6, 11] rfl ?_
  refine p_seq0 ?_
  refine p_plain0 (0 :: 1 :: 2 :: 3 :: []) ?_
  refine go_q0 77 (.move (.tmp 1)) 47 (qv_move rfl) ?_
  refine go_q0 78 (.nilCheck (.tmp 77)) 0 (qv_nilCheck rfl) ?_
  refine go_q0 79 (.fieldAddr 87 (.tmp 78) 2) 0 (qv_field rfl fd87_2) ?_
  refine go_s0 none (.store 85 (.tmp 79) (.const (.slice none 0 0))) 0 ?_
  refine os_store1 rfl rfl sz85 rfl rfl .auto (Nat.le_of_ble_eq_true rfl) (set_RCac_6 _ _) ?_
  refine go_nil ?_
  change G _ _ _ _
  refine p_weaken [0, 6, 11] rfl ?_
  refine p_seq0 ?_
  have hR2 : RcM br tick bd [] [rcO br tick bd none 0 0] := ⟨none, 0, [], hI.empty, OwnL.nil, rfl⟩
  refine p_plain0 (0 :: 1 :: 2 :: 3 :: 4 :: []) ?_
  refine go_q0 80 (.move (.tmp 0)) 43 (qv_move rfl) ?_
  refine go_s0 (some 81) (.call { callee := .value (.func 29), args := #[.tmp 80], argTypes := #[43] }) 3 ?_
  refine os_call (Nat.le_of_ble_eq_true rfl) en29 rfl (Sel.skip Sel.app) (ct_CClear hM) ?_
  rintro v81 A81 ⟨rfl, hN1⟩
  try dsimp only [List.nil_append, List.cons_append]
  refine go_q0 82 (.move (.tmp 11)) 3 (qv_move rfl) ?_
  refine go_q0 83 (.binOp .eql 3 (.tmp 81) (.tmp 82) 3) 4 (qv_eql (b := true) rfl rfl (beq_iff_eq.2 (by omega))) ?_
  refine go_q0 6 (.assign (.tmp 83)) 4 (qv_assign rfl) ?_
  refine go_nil ?_
  change G _ _ _ _
  refine p_weaken [6] rfl ?_
  refine p_ret0 ?_
  try dsimp only [thenQ, inBlockQ]
  try rw [if_pos rfl]
  refine ret_left (A81 ++ [(br, .cells (⟨tick, bd, .slice none 0 0⟩ : RCac).c 87 (0, 0))]) (.inr rfl) (.cons (res_tmp rfl) .nil) .auto ?_
  exact ⟨rfl, [], [], tick, A81, _, hN1, hR2, List.Perm.refl _, ht, rfl⟩
theorem get_both (hM : CacM bc tick bd fl M1) (hR : RcM br tick bd g M2) (hp : fl.Perm g) {k : Key} (hk : k.Wf) : ∃ (x : Rec) (ok : Bool),
    Ct Tryz.prog 28 [.pointer (some ⟨bc, 0, none⟩), .agg k.c].toArray M1 (fun v M' => v = .tuple #[.agg x.c, .bool ok] ∧ M' = M1) ∧
    Ct Tryz.prog 39 [.pointer (some ⟨br, 0, none⟩), .agg k.c].toArray M2 (fun v M' => v = .tuple #[.agg x.c, .bool ok] ∧ M' = M2) := by
  by_cases h : k ∈ keysOf fl
  · obtain ⟨i, x, hi, he⟩ := key_at h
    obtain ⟨j, hj, hx⟩ := List.getElem_of_mem (hp.mem_iff.1 (List.mem_of_getElem? hi))
    exact ⟨x, true, ct_CGet hM hk hi he, ct_rGet hR hk (by rw [List.getElem?_eq_getElem hj, hx]) he⟩
  · exact ⟨zeroR, false, ct_CGetN hM hk h, ct_rGetN hR hk fun h2 => h ((keysOf_perm hp k).2 h2)⟩
theorem ct_is24 (hM : CacM bc tick bd fl M1) (hR : RcM br tick bd g M2) (hp : fl.Perm g) {k : Key} (hk : k.Wf) :
    Ct Tryz.prog 14 [.pointer (some ⟨bc, 0, none⟩), .pointer (some ⟨br, 0, none⟩), .agg k.c].toArray (M1 ++ M2) (fun v M' => v = .bool true ∧ M' = M1 ++ M2) := by
  have hle := hM.le
  have hN1 := ct_Next hM
  have hN2 := ct_rNext hR
  obtain ⟨x, ok, hG1, hG2⟩ := get_both hM hR hp hk
  rw [← nextS_perm hp] at hN2
  have hAl := ct_All hM
  have hTi := ct_Tick hM
  have hRi := hR.ri
  obtain ⟨p, c, A2, hI, hO, rfl⟩ := hR
  refine ct_body (rv := [.tmp 6]) [(0, _), (1, _), (2, _)] Tryz.func14 (by kernel_rfl) Tryz.ntmps14 Tryz.results14 rfl rfl (fun w0 => ?_)
  refine p_seq0 ?_
  refine p_plain0 (0 :: 1 :: []) ?_
  refine go_s0 (some 5) (.box 29 (.tmp 2)) 0 ?_
  refine os_boxA rfl rfl (fun b5 => ?_)
  refine go_q0 6 (.assign (.const (.bool false))) 4 (qv_assign rfl) ?_
  refine go_nil ?_
  change G _ _ _ _
  refine p_weaken [0, 1, 5, 6] rfl ?_
  refine p_seq0 ?_
  refine p_plain0 (0 :: 1 :: 2 :: 3 :: 4 :: 5 :: 6 :: []) ?_
  refine go_q0 16 (.move (.tmp 0)) 43 (qv_move rfl) ?_
  refine go_s0 (some 17) (.call { callee := .value (.func 27), args := #[.tmp 16], argTypes := #[43] }) 72 ?_
  refine os_pv rfl (pv_callR en27 rfl .auto (hN1)) ?_
  refine go_q0 15 (.move (.tmp 17)) 72 (qv_move rfl) ?_
  refine go_q0 18 (.extract (.tmp 15) 0) 23 (qv_extract rfl rfl) ?_
  refine go_q0 19 (.extract (.tmp 15) 1) 4 (qv_extract rfl rfl) ?_
  refine go_q0 7 (.assign (.tmp 18)) 23 (qv_assign rfl) ?_
  refine go_q0 8 (.assign (.tmp 19)) 4 (qv_assign rfl) ?_
  refine go_nil ?_
  change G _ _ _ _
  refine p_weaken [0, 1, 5, 6, 7, 8] rfl ?_
  refine p_seq0 ?_
  refine p_plain0 (0 :: 1 :: 2 :: 3 :: 4 :: 5 :: 6 :: []) ?_
  refine go_q0 21 (.move (.tmp 1)) 47 (qv_move rfl) ?_
  refine go_s0 (some 22) (.call { callee := .value (.func 38), args := #[.tmp 21], argTypes := #[47] }) 72 ?_
  refine os_pv rfl (pv_callR en38 rfl .auto (hN2)) ?_
  refine go_q0 20 (.move (.tmp 22)) 72 (qv_move rfl) ?_
  refine go_q0 23 (.extract (.tmp 20) 0) 23 (qv_extract rfl rfl) ?_
  refine go_q0 24 (.extract (.tmp 20) 1) 4 (qv_extract rfl rfl) ?_
  refine go_q0 9 (.assign (.tmp 23)) 23 (qv_assign rfl) ?_
  refine go_q0 10 (.assign (.tmp 24)) 4 (qv_assign rfl) ?_
  refine go_nil ?_
  change G _ _ _ _
  refine p_weaken [0, 1, 5, 6, 7, 8, 9, 10] rfl ?_
  refine p_seq0 ?_
  refine p_plain0 (0 :: 1 :: 2 :: 3 :: 4 :: 5 :: 6 :: 7 :: 8 :: []) ?_
  refine go_q0 26 (.move (.tmp 0)) 43 (qv_move rfl) ?_
  refine go_q0 27 (.load 29 (.tmp 5)) 29 (qv_load rfl .auto (ldv_agg agg29 (extw_Key _) (Nat.le_of_ble_eq_true rfl))) ?_
  refine go_s0 (some 28) (.call { callee := .value (.func 28), args := #[.tmp 26, .tmp 27], argTypes := #[43, 29] }) 74 ?_
  refine os_pv rfl (pv_callR en28 rfl .auto (hG1)) ?_
  refine go_q0 25 (.move (.tmp 28)) 74 (qv_move rfl) ?_
  refine go_q0 29 (.extract (.tmp 25) 0) 69 (qv_extract rfl rfl) ?_
  refine go_q0 30 (.extract (.tmp 25) 1) 4 (qv_extract rfl rfl) ?_
  refine go_s0 (some 11) (.alloc 69) 0 ?_
  refine os_allocA rfl ze69 (fun b11 => ?_)
  refine go_s0 none (.store 69 (.tmp 11) (.tmp 29)) 0 ?_
  refine os_store rfl rfl sz69 rfl (one_Rec _) .auto (Nat.le_of_ble_eq_true rfl) (splw_Rec _ _ (siz_Rec _)) ?_
  refine go_q0 12 (.assign (.tmp 30)) 4 (qv_assign rfl) ?_
  refine go_nil ?_
  change G _ _ _ _
  refine p_weaken [0, 1, 5, 6, 7, 8, 9, 10, 11, 12] rfl ?_
  refine p_seq0 ?_
  refine p_plain0 (0 :: 1 :: 2 :: 3 :: 4 :: 5 :: 6 :: 7 :: 8 :: 9 :: []) ?_
  refine go_q0 32 (.move (.tmp 1)) 47 (qv_move rfl) ?_
  refine go_q0 33 (.load 29 (.tmp 5)) 29 (qv_load rfl .auto (ldv_agg agg29 (extw_Key _) (Nat.le_of_ble_eq_true rfl))) ?_
  refine go_s0 (some 34) (.call { callee := .value (.func 40), args := #[.tmp 33], argTypes := #[29] }) 92 ?_
  refine os_callP rfl en40 rfl (pu_docKey k) ?_
  refine go_s0 (some 35) (.call { callee := .value (.func 39), args := #[.tmp 32, .tmp 34], argTypes := #[47, 92] }) 101 ?_
  refine os_pv rfl (pv_callR en39 rfl .auto (hG2)) ?_
  refine go_q0 31 (.move (.tmp 35)) 101 (qv_move rfl) ?_
  refine go_q0 36 (.extract (.tmp 31) 0) 100 (qv_extract rfl rfl) ?_
  refine go_q0 37 (.extract (.tmp 31) 1) 4 (qv_extract rfl rfl) ?_
  refine go_s0 (some 13) (.alloc 100) 0 ?_
  refine os_allocA rfl ze100 (fun b13 => ?_)
  refine go_s0 none (.store 100 (.tmp 13) (.tmp 36)) 0 ?_
  refine os_store rfl rfl sz100 rfl (one_Rec _) .auto (Nat.le_of_ble_eq_true rfl) (splw_Rec _ _ (siz_Rec _)) ?_
  refine go_q0 14 (.assign (.tmp 37)) 4 (qv_assign rfl) ?_
  refine go_nil ?_
  change G _ _ _ _
  refine p_weaken [0, 1, 6, 7, 8, 9, 10, 11, 12, 13, 14] rfl ?_
  refine p_seq0 ?_
  refine p_draw (by kernel_rfl) mixed 46 47 [(b11, .cells x.c 69 (0, 0)), (b13, .cells x.c 100 (0, 0)), rcO br tick bd p g.length c] (by first | (simp; done) | (intro q hq; simp [hq]; done)) (by kernel_rfl) ?_
  refine gd_q (i := 0) (d := 38) (op := .move (.tmp 7)) (ty := 23) (g := none) (by kernel_rfl) trivial rfl (by kernel_rfl) (by kernel_rfl) (by kernel_rfl) (by kernel_rfl) (qv_move rfl) ?_
  refine gd_q (i := 1) (d := 39) (op := .move (.tmp 9)) (ty := 23) (g := none) (by kernel_rfl) trivial rfl (by kernel_rfl) (by kernel_rfl) (by kernel_rfl) (by kernel_rfl) (qv_move rfl) ?_
  refine gd_q (i := 2) (d := 40) (op := .binOp .eql 23 (.tmp 38) (.tmp 39) 23) (ty := 4) (g := none) (by kernel_rfl) trivial rfl (by kernel_rfl) (by kernel_rfl) (by kernel_rfl) (by kernel_rfl) (qv_eql (b := true) rfl rfl (beq_iff_eq.2 (by omega))) ?_
  refine gd_q (i := 3) (d := 41) (op := .move (.tmp 40)) (ty := 4) (g := none) (by kernel_rfl) trivial rfl (by kernel_rfl) (by kernel_rfl) (by kernel_rfl) (by kernel_rfl) (qv_move rfl) ?_
  refine gd_q (i := 4) (d := 42) (op := .move (.tmp 8)) (ty := 4) (g := some (3, true)) (by kernel_rfl) ⟨41, by kernel_rfl, rfl⟩ rfl (by kernel_rfl) (by kernel_rfl) (by kernel_rfl) (by kernel_rfl) (qv_move rfl) ?_
  refine gd_q (i := 5) (d := 43) (op := .move (.tmp 10)) (ty := 4) (g := some (3, true)) (by kernel_rfl) ⟨41, by kernel_rfl, rfl⟩ rfl (by kernel_rfl) (by kernel_rfl) (by kernel_rfl) (by kernel_rfl) (qv_move rfl) ?_
  refine gd_q (i := 6) (d := 44) (op := .binOp .eql 4 (.tmp 42) (.tmp 43) 4) (ty := 4) (g := some (3, true)) (by kernel_rfl) ⟨41, by kernel_rfl, rfl⟩ rfl (by kernel_rfl) (by kernel_rfl) (by kernel_rfl) (by kernel_rfl) (qv_eqlBb (b := true) un4 rfl rfl (by simp)) ?_
  refine gd_q (i := 7) (d := 45) (op := .pick (.tmp 41) (.tmp 44) (.const (.bool false))) (ty := 4) (g := none) (by kernel_rfl) trivial rfl (by kernel_rfl) (by kernel_rfl) (by kernel_rfl) (by kernel_rfl) (qv_pick_t rfl rfl) ?_
  refine gd_q (i := 8) (d := 46) (op := .move (.tmp 45)) (ty := 4) (g := none) (by kernel_rfl) trivial rfl (by kernel_rfl) (by kernel_rfl) (by kernel_rfl) (by kernel_rfl) (qv_move rfl) ?_
  refine gd_q (i := 9) (d := 47) (op := .load 69 (.tmp 11)) (ty := 69) (g := some (8, true)) (by kernel_rfl) ⟨46, by kernel_rfl, rfl⟩ rfl (by kernel_rfl) (by kernel_rfl) (by kernel_rfl) (by kernel_rfl) (qv_load rfl .auto (ldv_agg agg69 (extw_Rec _) (Nat.le_of_ble_eq_true rfl))) ?_
  refine gd_q (i := 11) (d := 49) (op := .load 100 (.tmp 13)) (ty := 100) (g := some (8, true)) (by kernel_rfl) ⟨46, by kernel_rfl, rfl⟩ rfl (by kernel_rfl) (by kernel_rfl) (by kernel_rfl) (by kernel_rfl) (qv_load rfl .auto (ldv_agg agg100 (extw_Rec _) (Nat.le_of_ble_eq_true rfl))) ?_
  refine gd_one (i := 10) (d := some 48) (op := .call { callee := .value (.func 41), args := #[.tmp 47], argTypes := #[69] }) (ty := 100) (g := some (8, true)) (by kernel_rfl) ⟨46, by kernel_rfl, rfl⟩ rfl (by kernel_rfl) ?_
  refine os_callP rfl en41 rfl (pu_docRecord x) ?_
  refine ⟨fun _ h => by first | exact h | (cases h; done) | exact .tail _ h | exact .tail _ (.tail _ h) | exact List.mem_append_right _ (List.mem_append_right _ h) | exact List.mem_append_right _ h | (simp only [List.mem_cons, List.not_mem_nil, or_false] at h ⊢; first | exact .inl h | exact .inr (.inl h) | exact .inr (.inr (.inl h)) | exact .inr (.inr (.inr (.inl h))) | (subst h; simp; done) | grind), ?_⟩
  refine gd_q (i := 12) (d := 50) (op := .binOp .eql 100 (.tmp 48) (.tmp 49) 100) (ty := 4) (g := some (8, true)) (by kernel_rfl) ⟨46, by kernel_rfl, rfl⟩ rfl (by kernel_rfl) (by kernel_rfl) (by kernel_rfl) (by kernel_rfl) (qv_eql_100 (s := x) (t := x) (b := true) rfl rfl (by simp)) ?_
  refine gd_q (i := 13) (d := 51) (op := .pick (.tmp 46) (.tmp 50) (.const (.bool false))) (ty := 4) (g := none) (by kernel_rfl) trivial rfl (by kernel_rfl) (by kernel_rfl) (by kernel_rfl) (by kernel_rfl) (qv_pick_t rfl rfl) ?_
  refine gd_q (i := 14) (d := 52) (op := .move (.tmp 51)) (ty := 4) (g := none) (by kernel_rfl) trivial rfl (by kernel_rfl) (by kernel_rfl) (by kernel_rfl) (by kernel_rfl) (qv_move rfl) ?_
  refine gd_q (i := 15) (d := 53) (op := .move (.tmp 12)) (ty := 4) (g := some (14, true)) (by kernel_rfl) ⟨52, by kernel_rfl, rfl⟩ rfl (by kernel_rfl) (by kernel_rfl) (by kernel_rfl) (by kernel_rfl) (qv_move rfl) ?_
  refine gd_q (i := 16) (d := 54) (op := .move (.tmp 14)) (ty := 4) (g := some (14, true)) (by kernel_rfl) ⟨52, by kernel_rfl, rfl⟩ rfl (by kernel_rfl) (by kernel_rfl) (by kernel_rfl) (by kernel_rfl) (qv_move rfl) ?_
  refine gd_q (i := 17) (d := 55) (op := .binOp .eql 4 (.tmp 53) (.tmp 54) 4) (ty := 4) (g := some (14, true)) (by kernel_rfl) ⟨52, by kernel_rfl, rfl⟩ rfl (by kernel_rfl) (by kernel_rfl) (by kernel_rfl) (by kernel_rfl) (qv_eqlBb (b := true) un4 rfl rfl (by simp)) ?_
  refine gd_q (i := 18) (d := 56) (op := .pick (.tmp 52) (.tmp 55) (.const (.bool false))) (ty := 4) (g := none) (by kernel_rfl) trivial rfl (by kernel_rfl) (by kernel_rfl) (by kernel_rfl) (by kernel_rfl) (qv_pick_t rfl rfl) ?_
  refine gd_q (i := 19) (d := 57) (op := .move (.tmp 56)) (ty := 4) (g := none) (by kernel_rfl) trivial rfl (by kernel_rfl) (by kernel_rfl) (by kernel_rfl) (by kernel_rfl) (qv_move rfl) ?_
  refine gd_q (i := 20) (d := 58) (op := .move (.tmp 0)) (ty := 43) (g := some (19, true)) (by kernel_rfl) ⟨57, by kernel_rfl, rfl⟩ rfl (by kernel_rfl) (by kernel_rfl) (by kernel_rfl) (by kernel_rfl) (qv_move rfl) ?_
  refine gd_q (i := 22) (d := 60) (op := .move (.tmp 1)) (ty := 47) (g := some (19, true)) (by kernel_rfl) ⟨57, by kernel_rfl, rfl⟩ rfl (by kernel_rfl) (by kernel_rfl) (by kernel_rfl) (by kernel_rfl) (qv_move rfl) ?_
  refine gd_q (i := 23) (d := 61) (op := .nilCheck (.tmp 60)) (ty := 0) (g := some (19, true)) (by kernel_rfl) ⟨57, by kernel_rfl, rfl⟩ rfl (by kernel_rfl) (by kernel_rfl) (by kernel_rfl) (by kernel_rfl) (qv_nilCheck rfl) ?_
  refine gd_q (i := 24) (d := 62) (op := .fieldAddr 87 (.tmp 61) 2) (ty := 0) (g := some (19, true)) (by kernel_rfl) ⟨57, by kernel_rfl, rfl⟩ rfl (by kernel_rfl) (by kernel_rfl) (by kernel_rfl) (by kernel_rfl) (qv_field rfl fd87_2) ?_
  refine gd_q (i := 25) (d := 63) (op := .load 85 (.tmp 62)) (ty := 85) (g := some (19, true)) (by kernel_rfl) ⟨57, by kernel_rfl, rfl⟩ rfl (by kernel_rfl) (by kernel_rfl) (by kernel_rfl) (by kernel_rfl) (qv_load rfl .auto (ldv_sca sc85 (get_RCac_6 _))) ?_
  refine gd_one (i := 21) (d := some 59) (op := .call { callee := .value (.func 24), args := #[.tmp 58], argTypes := #[43] }) (ty := 55) (g := some (19, true)) (by kernel_rfl) ⟨57, by kernel_rfl, rfl⟩ rfl (by kernel_rfl) ?_
  refine os_call (Nat.le_of_ble_eq_true rfl) en24 rfl (by exact .auto) (hAl) ?_
  rintro v59 A59 ⟨o1, q1, k1, B1, hA1, rfl, hO1, rfl⟩
  try dsimp only [List.nil_append, List.cons_append]
  have hog := (hA1.eq hp hRi.sort hRi.wf).symm
  subst hog
  refine ⟨fun _ h => by first | exact h | (cases h; done) | exact .tail _ h | exact .tail _ (.tail _ h) | exact List.mem_append_right _ (List.mem_append_right _ h) | exact List.mem_append_right _ h | (simp only [List.mem_cons, List.not_mem_nil, or_false] at h ⊢; first | exact .inl h | exact .inr (.inl h) | exact .inr (.inr (.inl h)) | exact .inr (.inr (.inr (.inl h))) | (subst h; simp; done) | grind), ?_⟩
  refine gd_one (i := 26) (d := some 64) (op := .call { callee := .value (.func 35), args := #[.tmp 59, .tmp 63], argTypes := #[55, 85] }) (ty := 4) (g := some (19, true)) (by kernel_rfl) ⟨57, by kernel_rfl, rfl⟩ rfl (by kernel_rfl) ?_
  refine os_call (Nat.le_of_ble_eq_true rfl) en35 rfl (Sel.append Sel.appL (Sel.skipA (Sel.skip (Sel.skip (Sel.skip (Sel.skip Sel.all)))))) (ct_SameFlows hO1 hO.lst (by have := hp.length_eq; omega)) ?_
  rintro v64 A64 ⟨rfl, hm1⟩
  try dsimp only [List.nil_append, List.cons_append]
  replace hm1 := hm1.symm
  subst hm1
  refine ⟨fun _ h => by first | exact h | (cases h; done) | exact .tail _ h | exact .tail _ (.tail _ h) | exact List.mem_append_right _ (List.mem_append_right _ h) | exact List.mem_append_right _ h | (simp only [List.mem_cons, List.not_mem_nil, or_false] at h ⊢; first | exact .inl h | exact .inr (.inl h) | exact .inr (.inr (.inl h)) | exact .inr (.inr (.inr (.inl h))) | (subst h; simp; done) | grind), ?_⟩
  refine gd_q (i := 27) (d := 65) (op := .pick (.tmp 57) (.tmp 64) (.const (.bool false))) (ty := 4) (g := none) (by kernel_rfl) trivial rfl (by kernel_rfl) (by kernel_rfl) (by kernel_rfl) (by kernel_rfl) (qv_pick_t rfl rfl) ?_
  refine gd_q (i := 28) (d := 66) (op := .move (.tmp 65)) (ty := 4) (g := none) (by kernel_rfl) trivial rfl (by kernel_rfl) (by kernel_rfl) (by kernel_rfl) (by kernel_rfl) (qv_move rfl) ?_
  refine gd_q (i := 29) (d := 67) (op := .move (.tmp 0)) (ty := 43) (g := some (28, true)) (by kernel_rfl) ⟨66, by kernel_rfl, rfl⟩ rfl (by kernel_rfl) (by kernel_rfl) (by kernel_rfl) (by kernel_rfl) (qv_move rfl) ?_
  refine gd_q (i := 31) (d := 69) (op := .move (.tmp 1)) (ty := 47) (g := some (28, true)) (by kernel_rfl) ⟨66, by kernel_rfl, rfl⟩ rfl (by kernel_rfl) (by kernel_rfl) (by kernel_rfl) (by kernel_rfl) (qv_move rfl) ?_
  refine gd_q (i := 32) (d := 70) (op := .nilCheck (.tmp 69)) (ty := 0) (g := some (28, true)) (by kernel_rfl) ⟨66, by kernel_rfl, rfl⟩ rfl (by kernel_rfl) (by kernel_rfl) (by kernel_rfl) (by kernel_rfl) (qv_nilCheck rfl) ?_
  refine gd_q (i := 33) (d := 71) (op := .fieldAddr 87 (.tmp 70) 2) (ty := 0) (g := some (28, true)) (by kernel_rfl) ⟨66, by kernel_rfl, rfl⟩ rfl (by kernel_rfl) (by kernel_rfl) (by kernel_rfl) (by kernel_rfl) (qv_field rfl fd87_2) ?_
  refine gd_q (i := 34) (d := 72) (op := .load 85 (.tmp 71)) (ty := 85) (g := some (28, true)) (by kernel_rfl) ⟨66, by kernel_rfl, rfl⟩ rfl (by kernel_rfl) (by kernel_rfl) (by kernel_rfl) (by kernel_rfl) (qv_load rfl .auto (ldv_sca sc85 (get_RCac_6 _))) ?_
  refine gd_one (i := 30) (d := some 68) (op := .call { callee := .value (.func 24), args := #[.tmp 67], argTypes := #[43] }) (ty := 55) (g := some (28, true)) (by kernel_rfl) ⟨66, by kernel_rfl, rfl⟩ rfl (by kernel_rfl) ?_
  refine os_call (Nat.le_of_ble_eq_true rfl) en24 rfl (Sel.skipA Sel.app) (hAl) ?_
  rintro v68 A68 ⟨o2, q2, k2, B2, hA2, rfl, hO2, rfl⟩
  try dsimp only [List.nil_append, List.cons_append]
  have hog := (hA2.eq hp hRi.sort hRi.wf).symm
  subst hog
  refine ⟨fun _ h => by first | exact h | (cases h; done) | exact .tail _ h | exact .tail _ (.tail _ h) | exact List.mem_append_right _ (List.mem_append_right _ h) | exact List.mem_append_right _ h | (simp only [List.mem_cons, List.not_mem_nil, or_false] at h ⊢; first | exact .inl h | exact .inr (.inl h) | exact .inr (.inr (.inl h)) | exact .inr (.inr (.inr (.inl h))) | (subst h; simp; done) | grind), ?_⟩
  refine gd_one (i := 35) (d := some 73) (op := .call { callee := .value (.func 35), args := #[.tmp 68, .tmp 72], argTypes := #[55, 85] }) (ty := 4) (g := some (28, true)) (by kernel_rfl) ⟨66, by kernel_rfl, rfl⟩ rfl (by kernel_rfl) ?_
  refine os_call (Nat.le_of_ble_eq_true rfl) en35 rfl (Sel.append Sel.appL (Sel.skipA Sel.app)) (ct_SameFlows hO2 hO.lst (by have := hp.length_eq; omega)) ?_
  rintro v73 A73 ⟨rfl, hm2⟩
  try dsimp only [List.nil_append, List.cons_append]
  replace hm2 := hm2.symm
  subst hm2
  refine ⟨fun _ h => by first | exact h | (cases h; done) | exact .tail _ h | exact .tail _ (.tail _ h) | exact List.mem_append_right _ (List.mem_append_right _ h) | exact List.mem_append_right _ h | (simp only [List.mem_cons, List.not_mem_nil, or_false] at h ⊢; first | exact .inl h | exact .inr (.inl h) | exact .inr (.inr (.inl h)) | exact .inr (.inr (.inr (.inl h))) | (subst h; simp; done) | grind), ?_⟩
  refine gd_q (i := 36) (d := 74) (op := .pick (.tmp 66) (.tmp 73) (.const (.bool false))) (ty := 4) (g := none) (by kernel_rfl) trivial rfl (by kernel_rfl) (by kernel_rfl) (by kernel_rfl) (by kernel_rfl) (qv_pick_t rfl rfl) ?_
  refine gd_q (i := 37) (d := 75) (op := .move (.tmp 74)) (ty := 4) (g := none) (by kernel_rfl) trivial rfl (by kernel_rfl) (by kernel_rfl) (by kernel_rfl) (by kernel_rfl) (qv_move rfl) ?_
  refine gd_q (i := 38) (d := 76) (op := .move (.tmp 0)) (ty := 43) (g := some (37, true)) (by kernel_rfl) ⟨75, by kernel_rfl, rfl⟩ rfl (by kernel_rfl) (by kernel_rfl) (by kernel_rfl) (by kernel_rfl) (qv_move rfl) ?_
  refine gd_q (i := 40) (d := 78) (op := .move (.tmp 1)) (ty := 47) (g := some (37, true)) (by kernel_rfl) ⟨75, by kernel_rfl, rfl⟩ rfl (by kernel_rfl) (by kernel_rfl) (by kernel_rfl) (by kernel_rfl) (qv_move rfl) ?_
  refine gd_q (i := 41) (d := 79) (op := .nilCheck (.tmp 78)) (ty := 0) (g := some (37, true)) (by kernel_rfl) ⟨75, by kernel_rfl, rfl⟩ rfl (by kernel_rfl) (by kernel_rfl) (by kernel_rfl) (by kernel_rfl) (qv_nilCheck rfl) ?_
  refine gd_q (i := 42) (d := 80) (op := .fieldAddr 87 (.tmp 79) 0) (ty := 0) (g := some (37, true)) (by kernel_rfl) ⟨75, by kernel_rfl, rfl⟩ rfl (by kernel_rfl) (by kernel_rfl) (by kernel_rfl) (by kernel_rfl) (qv_field rfl fd87_0) ?_
  refine gd_q (i := 43) (d := 81) (op := .load 23 (.tmp 80)) (ty := 23) (g := some (37, true)) (by kernel_rfl) ⟨75, by kernel_rfl, rfl⟩ rfl (by kernel_rfl) (by kernel_rfl) (by kernel_rfl) (by kernel_rfl) (qv_load rfl .auto (ldv_sca sc23 (get_RCac_0 _))) ?_
  refine gd_one (i := 39) (d := some 77) (op := .call { callee := .value (.func 17), args := #[.tmp 76], argTypes := #[43] }) (ty := 23) (g := some (37, true)) (by kernel_rfl) ⟨75, by kernel_rfl, rfl⟩ rfl (by kernel_rfl) ?_
  refine os_pv rfl (pv_callR en17 rfl (Sel.skipA Sel.app) (hTi)) ?_
  refine ⟨fun _ h => by first | exact h | (cases h; done) | exact .tail _ h | exact .tail _ (.tail _ h) | exact List.mem_append_right _ (List.mem_append_right _ h) | exact List.mem_append_right _ h | (simp only [List.mem_cons, List.not_mem_nil, or_false] at h ⊢; first | exact .inl h | exact .inr (.inl h) | exact .inr (.inr (.inl h)) | exact .inr (.inr (.inr (.inl h))) | (subst h; simp; done) | grind), ?_⟩
  refine gd_q (i := 44) (d := 82) (op := .binOp .eql 23 (.tmp 77) (.tmp 81) 23) (ty := 4) (g := some (37, true)) (by kernel_rfl) ⟨75, by kernel_rfl, rfl⟩ rfl (by kernel_rfl) (by kernel_rfl) (by kernel_rfl) (by kernel_rfl) (qv_eql (b := true) rfl rfl (beq_iff_eq.2 rfl)) ?_
  refine gd_q (i := 45) (d := 83) (op := .pick (.tmp 75) (.tmp 82) (.const (.bool false))) (ty := 4) (g := none) (by kernel_rfl) trivial rfl (by kernel_rfl) (by kernel_rfl) (by kernel_rfl) (by kernel_rfl) (qv_pick_t rfl rfl) ?_
  refine gd_tail [46] rfl (by kernel_rfl) (by kernel_rfl) ?_
  refine go_q0 6 (.assign (.tmp 83)) 4 (qv_assign rfl) ?_
  refine go_nil ?_
  change G _ _ _ _
  refine p_weaken [6] rfl ?_
  refine p_ret0 ?_
  try dsimp only [thenQ, inBlockQ]
  try rw [if_pos rfl]
  refine ret_left (M1 ++ (rcO br tick bd p g.length c :: A2)) (.inr rfl) (.cons (res_tmp rfl) .nil) .auto ?_
  exact ⟨rfl, rfl⟩
end
theorem ct_CachePlaysBad (tick : Int) (bd : Bnd) (acts : List Act24) (R : Mem) (pl : Option Addr) (cl : Nat) (hb : okBnd bd = false) :
    Ct Tryz.prog 4 [.int .u64 tick, .agg bd.c, .slice pl acts.length cl].toArray R (fun v M' => v = .bool true ∧ M' = R) := by
  refine ct_body (rv := [.tmp 6]) [(0, _), (1, _), (2, _)] Tryz.func4 (by kernel_rfl) Tryz.ntmps4 Tryz.results4 rfl rfl (fun w0 => ?_)
  refine p_seq0 ?_
  refine p_plain0 (0 :: 1 :: []) ?_
  refine go_s0 (some 4) (.box 36 (.tmp 1)) 0 ?_
  refine os_boxA rfl rfl (fun b4 => ?_)
  refine go_q0 6 (.assign (.const (.bool false))) 4 (qv_assign rfl) ?_
  refine go_nil ?_
  change G _ _ _ _
  refine p_weaken [0, 2, 4, 6] rfl ?_
  refine p_seq0 ?_
  refine p_seq0 ?_
  refine p_plain0 (0 :: 1 :: 2 :: []) ?_
  refine go_q0 12 (.move (.tmp 2)) 22 (qv_move rfl) ?_
  refine go_q0 13 (.call { callee := .builtin .len, args := #[.tmp 12], argTypes := #[22] }) 3 (qv_lenS un22 rfl) ?_
  refine go_q0 14 (.binOp .gtr 3 (.tmp 13) (.const (.int .i64 60)) 3) 4 (qv_gtr rfl rfl rfl) ?_
  refine go_nil ?_
  change G _ _ _ _
  refine p_weaken [0, 2, 4, 6, 14] rfl ?_
  refine p_cond (.tmp 14) (by kernel_rfl) rfl (fun h14 => ?_) (fun h14 => ?_)
  · replace h14 := kn h14
    refine p_seq0 ?_
    refine p_plain0 (0 :: 1 :: []) ?_
    refine go_s0 (some 15) (.call { callee := .value (.func 9), args := #[], argTypes := #[] }) 4 ?_
    refine os_callP rfl en9 rfl (pu_works24) ?_
    refine go_q0 6 (.assign (.tmp 15)) 4 (qv_assign rfl) ?_
    refine go_nil ?_
    change G _ _ _ _
    refine p_weaken [0, 2, 4, 6] rfl ?_
    refine p_ret0 ?_
    try dsimp only [thenQ, inBlockQ]
    try rw [if_pos rfl]
    refine ret_left (R) (.inr rfl) (.cons (res_tmp rfl) .nil) .auto ?_
    exact ⟨rfl, rfl⟩
  replace h14 := kn h14
  refine p_skip0 ?_
  change G _ _ _ _
  refine p_weaken [0, 2, 4, 6] rfl ?_
  refine p_seq0 ?_
  refine p_plain0 (0 :: 1 :: 2 :: 3 :: 4 :: 5 :: 6 :: 7 :: []) ?_
  refine go_q0 17 (.move (.tmp 0)) 23 (qv_move rfl) ?_
  refine go_q0 18 (.load 36 (.tmp 4)) 36 (qv_load rfl .auto (ldv_agg agg36 (extw_Bnd _) (Nat.le_of_ble_eq_true rfl))) ?_
  refine go_s0 (some 19) (.call { callee := .value (.func 10), args := #[.tmp 17, .tmp 18], argTypes := #[23, 36] }) 45 ?_
  refine os_callP rfl en10 rfl (pu_CNewBad tick bd hb) ?_
  refine go_q0 16 (.move (.tmp 19)) 45 (qv_move rfl) ?_
  refine go_q0 20 (.extract (.tmp 16) 0) 43 (qv_extract rfl rfl) ?_
  refine go_q0 21 (.extract (.tmp 16) 1) 44 (qv_extract rfl rfl) ?_
  refine go_q0 7 (.assign (.tmp 20)) 43 (qv_assign rfl) ?_
  refine go_q0 8 (.assign (.tmp 21)) 44 (qv_assign rfl) ?_
  refine go_nil ?_
  change G _ _ _ _
  refine p_weaken [0, 2, 4, 6, 7, 8] rfl ?_
  refine p_seq0 ?_
  refine p_plain0 (0 :: 1 :: 2 :: 3 :: 4 :: 5 :: 6 :: 7 :: 8 :: []) ?_
  refine go_q0 23 (.move (.tmp 0)) 23 (qv_move rfl) ?_
  refine go_q0 24 (.load 36 (.tmp 4)) 36 (qv_load rfl .auto (ldv_agg agg36 (extw_Bnd _) (Nat.le_of_ble_eq_true rfl))) ?_
  refine go_s0 (some 25) (.call { callee := .value (.func 12), args := #[.tmp 24], argTypes := #[36] }) 50 ?_
  refine os_callP rfl en12 rfl (pu_docBounds bd) ?_
  refine go_s0 (some 26) (.call { callee := .value (.func 11), args := #[.tmp 23, .tmp 25], argTypes := #[23, 50] }) 48 ?_
  refine os_callP rfl en11 rfl (pu_rNewBad tick bd hb) ?_
  refine go_q0 22 (.move (.tmp 26)) 48 (qv_move rfl) ?_
  refine go_q0 27 (.extract (.tmp 22) 0) 47 (qv_extract rfl rfl) ?_
  refine go_q0 28 (.extract (.tmp 22) 1) 44 (qv_extract rfl rfl) ?_
  refine go_q0 9 (.assign (.tmp 27)) 47 (qv_assign rfl) ?_
  refine go_q0 10 (.assign (.tmp 28)) 44 (qv_assign rfl) ?_
  refine go_nil ?_
  change G _ _ _ _
  refine p_weaken [2, 6, 7, 8, 9, 10] rfl ?_
  refine p_seq0 ?_
  refine p_seq0 ?_
  refine p_plain0 (0 :: 1 :: 2 :: 3 :: 4 :: 5 :: 6 :: 7 :: 8 :: 9 :: []) ?_
  refine go_q0 29 (.move (.tmp 8)) 44 (qv_move rfl) ?_
  refine go_q0 30 (.move (.tmp 10)) 44 (qv_move rfl) ?_
  refine go_q0 31 (.binOp .neq 44 (.tmp 29) (.tmp 30) 44) 4 (qv_neq (b := false) rfl rfl (by decide)) ?_
  refine go_q0 32 (.move (.tmp 31)) 4 (qv_move rfl) ?_
  refine go_q (d := 33) (op := .move (.tmp 7)) (ty := 43) (g := some (3, false)) (by kernel_rfl) ⟨32, by kernel_rfl, rfl⟩ rfl (qv_move rfl) ?_
  refine go_q (d := 34) (op := .binOp .eql 43 (.tmp 33) (.const (.pointer none)) 43) (ty := 4) (g := some (3, false)) (by kernel_rfl) ⟨32, by kernel_rfl, rfl⟩ rfl (qv_eqlP un43 rfl) ?_
  refine go_q (d := 35) (op := .move (.tmp 8)) (ty := 44) (g := some (3, false)) (by kernel_rfl) ⟨32, by kernel_rfl, rfl⟩ rfl (qv_move rfl) ?_
  refine go_q (d := 36) (op := .binOp .neq 44 (.tmp 35) (.const (.int .i64 0)) 44) (ty := 4) (g := some (3, false)) (by kernel_rfl) ⟨32, by kernel_rfl, rfl⟩ rfl (qv_neq (b := true) rfl rfl (by decide)) ?_
  refine go_q (d := 37) (op := .binOp .neq 4 (.tmp 34) (.tmp 36) 4) (ty := 4) (g := some (3, false)) (by kernel_rfl) ⟨32, by kernel_rfl, rfl⟩ rfl (qv_neqBb (b := false) un4 rfl rfl (by decide)) ?_
  refine go_q0 38 (.pick (.tmp 32) (.const (.bool true)) (.tmp 37)) 4 (qv_pick_f rfl rfl) ?_
  refine go_nil ?_
  change G _ _ _ _
  refine p_weaken [2, 6, 7, 8, 9, 38] rfl ?_
  refine p_condF (.tmp 38) (by kernel_rfl) rfl ?_
  refine p_skip0 ?_
  change G _ _ _ _
  refine p_weaken [2, 6, 7, 8, 9] rfl ?_
  refine p_seq0 ?_
  refine p_seq0 ?_
  refine p_plain0 (0 :: 1 :: []) ?_
  refine go_q0 39 (.move (.tmp 8)) 44 (qv_move rfl) ?_
  refine go_q0 40 (.binOp .neq 44 (.tmp 39) (.const (.int .i64 0)) 44) 4 (qv_neq (b := true) rfl rfl (by decide)) ?_
  refine go_nil ?_
  change G _ _ _ _
  refine p_weaken [2, 6, 7, 9, 40] rfl ?_
  refine p_condT (.tmp 40) (by kernel_rfl) rfl ?_
  refine p_seq0 ?_
  refine p_plain0 (0 :: 1 :: []) ?_
  refine go_s0 (some 41) (.call { callee := .value (.func 9), args := #[], argTypes := #[] }) 4 ?_
  refine os_callP rfl en9 rfl (pu_works24) ?_
  refine go_q0 6 (.assign (.tmp 41)) 4 (qv_assign rfl) ?_
  refine go_nil ?_
  change G _ _ _ _
  refine p_weaken [2, 6, 7, 9] rfl ?_
  refine p_ret0 ?_
  try dsimp only [thenQ, inBlockQ]
  try rw [if_pos rfl]
  refine ret_left (R) (.inr rfl) (.cons (res_tmp rfl) .nil) .auto ?_
  exact ⟨rfl, rfl⟩
theorem ct_CachePlays (tick : Int) (bd : Bnd) (acts : List Act24) (R : Mem) (pl : Option Addr) (cl : Nat) (hok : okBnd bd = true) (ht : InK .u64 tick) (hbw : bd.Wf) (hl : Lst eAct24 pl acts R) (hwf : ∀ a ∈ acts, a.Wf) :
    Ct Tryz.prog 4 [.int .u64 tick, .agg bd.c, .slice pl acts.length cl].toArray R (fun v M' => v = .bool true ∧ M' = R) := by
  refine ct_body (rv := [.tmp 6]) [(0, _), (1, _), (2, _)] Tryz.func4 (by kernel_rfl) Tryz.ntmps4 Tryz.results4 rfl rfl (fun w0 => ?_)
  refine p_seq0 ?_
  refine p_plain0 (0 :: 1 :: []) ?_
  refine go_s0 (some 4) (.box 36 (.tmp 1)) 0 ?_
  refine os_boxA rfl rfl (fun b4 => ?_)
  refine go_q0 6 (.assign (.const (.bool false))) 4 (qv_assign rfl) ?_
  refine go_nil ?_
  change G _ _ _ _
  refine p_weaken [0, 2, 4, 6] rfl ?_
  refine p_seq0 ?_
  refine p_seq0 ?_
  refine p_plain0 (0 :: 1 :: 2 :: []) ?_
  refine go_q0 12 (.move (.tmp 2)) 22 (qv_move rfl) ?_
  refine go_q0 13 (.call { callee := .builtin .len, args := #[.tmp 12], argTypes := #[22] }) 3 (qv_lenS un22 rfl) ?_
  refine go_q0 14 (.binOp .gtr 3 (.tmp 13) (.const (.int .i64 60)) 3) 4 (qv_gtr rfl rfl rfl) ?_
  refine go_nil ?_
  change G _ _ _ _
  refine p_weaken [0, 2, 4, 6, 14] rfl ?_
  refine p_cond (.tmp 14) (by kernel_rfl) rfl (fun h14 => ?_) (fun h14 => ?_)
  · replace h14 := kn h14
    refine p_seq0 ?_
    refine p_plain0 (0 :: 1 :: []) ?_
    refine go_s0 (some 15) (.call { callee := .value (.func 9), args := #[], argTypes := #[] }) 4 ?_
    refine os_callP rfl en9 rfl (pu_works24) ?_
    refine go_q0 6 (.assign (.tmp 15)) 4 (qv_assign rfl) ?_
    refine go_nil ?_
    change G _ _ _ _
    refine p_weaken [0, 2, 4, 6] rfl ?_
    refine p_ret0 ?_
    try dsimp only [thenQ, inBlockQ]
    try rw [if_pos rfl]
    refine ret_left (R) (.inr rfl) (.cons (res_tmp rfl) .nil) .auto ?_
    exact ⟨rfl, rfl⟩
  replace h14 := kn h14
  refine p_skip0 ?_
  change G _ _ _ _
  refine p_weaken [0, 2, 4, 6] rfl ?_
  refine p_seq0 ?_
  refine p_plain0 (0 :: 1 :: 2 :: 3 :: 4 :: 5 :: 6 :: 7 :: []) ?_
  refine go_q0 17 (.move (.tmp 0)) 23 (qv_move rfl) ?_
  refine go_q0 18 (.load 36 (.tmp 4)) 36 (qv_load rfl .auto (ldv_agg agg36 (extw_Bnd _) (Nat.le_of_ble_eq_true rfl))) ?_
  refine go_s0 (some 19) (.call { callee := .value (.func 10), args := #[.tmp 17, .tmp 18], argTypes := #[23, 36] }) 45 ?_
  refine os_call (Nat.le_of_ble_eq_true rfl) en10 rfl .auto (ct_CNew (tick := tick) (b := bd) hok hbw) ?_
  rintro v19 A19 ⟨bc, rfl, hM0⟩
  try dsimp only [List.nil_append, List.cons_append]
  refine go_q0 16 (.move (.tmp 19)) 45 (qv_move rfl) ?_
  refine go_q0 20 (.extract (.tmp 16) 0) 43 (qv_extract rfl rfl) ?_
  refine go_q0 21 (.extract (.tmp 16) 1) 44 (qv_extract rfl rfl) ?_
  refine go_q0 7 (.assign (.tmp 20)) 43 (qv_assign rfl) ?_
  refine go_q0 8 (.assign (.tmp 21)) 44 (qv_assign rfl) ?_
  refine go_nil ?_
  change G _ _ _ _
  refine p_weaken [0, 2, 4, 6, 7, 8] rfl ?_
  refine p_seq0 ?_
  refine p_plain0 (0 :: 1 :: 2 :: 3 :: 4 :: 5 :: 6 :: 7 :: 8 :: []) ?_
  refine go_q0 23 (.move (.tmp 0)) 23 (qv_move rfl) ?_
  refine go_q0 24 (.load 36 (.tmp 4)) 36 (qv_load rfl .auto (ldv_agg agg36 (extw_Bnd _) (Nat.le_of_ble_eq_true rfl))) ?_
  refine go_s0 (some 25) (.call { callee := .value (.func 12), args := #[.tmp 24], argTypes := #[36] }) 50 ?_
  refine os_callP rfl en12 rfl (pu_docBounds bd) ?_
  refine go_s0 (some 26) (.call { callee := .value (.func 11), args := #[.tmp 23, .tmp 25], argTypes := #[23, 50] }) 48 ?_
  refine os_call (Nat.le_of_ble_eq_true rfl) en11 rfl .auto (ct_rNew (tick := tick) (b := bd) hok hbw) ?_
  rintro v26 A26 ⟨br, rfl, hR0⟩
  try dsimp only [List.nil_append, List.cons_append]
  refine go_q0 22 (.move (.tmp 26)) 48 (qv_move rfl) ?_
  refine go_q0 27 (.extract (.tmp 22) 0) 47 (qv_extract rfl rfl) ?_
  refine go_q0 28 (.extract (.tmp 22) 1) 44 (qv_extract rfl rfl) ?_
  refine go_q0 9 (.assign (.tmp 27)) 47 (qv_assign rfl) ?_
  refine go_q0 10 (.assign (.tmp 28)) 44 (qv_assign rfl) ?_
  refine go_nil ?_
  change G _ _ _ _
  refine p_weaken [2, 6, 7, 8, 9, 10] rfl ?_
  refine p_seq0 ?_
  refine p_seq0 ?_
  refine p_plain0 (0 :: 1 :: 2 :: 3 :: 4 :: 5 :: 6 :: 7 :: 8 :: 9 :: []) ?_
  refine go_q0 29 (.move (.tmp 8)) 44 (qv_move rfl) ?_
  refine go_q0 30 (.move (.tmp 10)) 44 (qv_move rfl) ?_
  refine go_q0 31 (.binOp .neq 44 (.tmp 29) (.tmp 30) 44) 4 (qv_neq (b := false) rfl rfl (by decide)) ?_
  refine go_q0 32 (.move (.tmp 31)) 4 (qv_move rfl) ?_
  refine go_q (d := 33) (op := .move (.tmp 7)) (ty := 43) (g := some (3, false)) (by kernel_rfl) ⟨32, by kernel_rfl, rfl⟩ rfl (qv_move rfl) ?_
  refine go_q (d := 34) (op := .binOp .eql 43 (.tmp 33) (.const (.pointer none)) 43) (ty := 4) (g := some (3, false)) (by kernel_rfl) ⟨32, by kernel_rfl, rfl⟩ rfl (qv_eqlP un43 rfl) ?_
  refine go_q (d := 35) (op := .move (.tmp 8)) (ty := 44) (g := some (3, false)) (by kernel_rfl) ⟨32, by kernel_rfl, rfl⟩ rfl (qv_move rfl) ?_
  refine go_q (d := 36) (op := .binOp .neq 44 (.tmp 35) (.const (.int .i64 0)) 44) (ty := 4) (g := some (3, false)) (by kernel_rfl) ⟨32, by kernel_rfl, rfl⟩ rfl (qv_neq (b := false) rfl rfl (by decide)) ?_
  refine go_q (d := 37) (op := .binOp .neq 4 (.tmp 34) (.tmp 36) 4) (ty := 4) (g := some (3, false)) (by kernel_rfl) ⟨32, by kernel_rfl, rfl⟩ rfl (qv_neqBb (b := false) un4 rfl rfl (rfl)) ?_
  refine go_q0 38 (.pick (.tmp 32) (.const (.bool true)) (.tmp 37)) 4 (qv_pick_f rfl rfl) ?_
  refine go_nil ?_
  change G _ _ _ _
  refine p_weaken [2, 6, 7, 8, 9, 38] rfl ?_
  refine p_condF (.tmp 38) (by kernel_rfl) rfl ?_
  refine p_skip0 ?_
  change G _ _ _ _
  refine p_weaken [2, 6, 7, 8, 9] rfl ?_
  refine p_seq0 ?_
  refine p_seq0 ?_
  refine p_plain0 (0 :: 1 :: []) ?_
  refine go_q0 39 (.move (.tmp 8)) 44 (qv_move rfl) ?_
  refine go_q0 40 (.binOp .neq 44 (.tmp 39) (.const (.int .i64 0)) 44) 4 (qv_neq (b := false) rfl rfl (by decide)) ?_
  refine go_nil ?_
  change G _ _ _ _
  refine p_weaken [2, 6, 7, 9, 40] rfl ?_
  refine p_condF (.tmp 40) (by kernel_rfl) rfl ?_
  refine p_skip0 ?_
  change G _ _ _ _
  refine p_weaken [2, 6, 7, 9] rfl ?_
  refine p_seq0 ?_
  refine p_seq0 ?_
  refine p_plain0 (0 :: []) ?_
  refine go_q0 11 (.assign (.const (.int .i64 0))) 3 (qv_assign rfl) ?_
  refine go_nil ?_
  change G _ _ _ _
  refine p_block 0 (by kernel_rfl) ?_
  refine p_loopE (by kernel_rfl) (fun s m => ∃ (i : Nat) (tk : Int) (fl : List Rec) (g : List Rec) (M1 : Mem) (M2 : Mem), (i ≤ acts.length) ∧ (InK .u64 tk) ∧ (CacM bc tk bd fl M1) ∧ (RcM br tk bd g M2) ∧ (fl.Perm g) ∧ Ge s ⟨[], [(2, .slice pl acts.length cl), (7, .pointer (some ⟨bc, 0, none⟩)), (9, .pointer (some ⟨br, 0, none⟩)), (11, .int .i64 i)], M1 ++ (M2 ++ R)⟩ ∧ m = acts.length + 1 - i) ?_ ?_
  · exact ⟨_, ⟨0, tick, [], [], _, _, by omega, ht, hM0, hR0, List.Perm.refl _, ⟨rfl, ⟨[2, 7, 9, 11], rfl⟩, .auto⟩, rfl⟩⟩
  rintro s m ⟨i, tk, fl, g, M1, M2, hi, htk, hM1, hR1, hp, hs, rfl⟩
  refine ge_ok hs ?_
  refine p_seq0 ?_
  refine p_seq0 ?_
  refine p_plain0 (0 :: 1 :: 2 :: 3 :: []) ?_
  refine go_q0 42 (.move (.tmp 11)) 3 (qv_move rfl) ?_
  refine go_q0 43 (.move (.tmp 2)) 22 (qv_move rfl) ?_
  refine go_q0 44 (.call { callee := .builtin .len, args := #[.tmp 43], argTypes := #[22] }) 3 (qv_lenS un22 rfl) ?_
  refine go_q0 45 (.binOp .lss 3 (.tmp 42) (.tmp 44) 3) 4 (qv_lss rfl rfl rfl) ?_
  refine go_nil ?_
  change G _ _ _ _
  refine p_weaken [2, 7, 9, 11, 45] rfl ?_
  refine p_cond (.tmp 45) (by kernel_rfl) rfl (fun h45 => ?_) (fun h45 => ?_)
  rotate_left
  · replace h45 := kn h45
    refine p_exit 0 (by kernel_rfl) ?_
    change G _ _ _ _
    refine p_weaken [7, 9] rfl ?_
    refine p_seq0 ?_
    refine p_plain0 (0 :: 1 :: 2 :: 3 :: 4 :: 5 :: 6 :: 7 :: []) ?_
    refine go_q0 68 (.move (.tmp 7)) 43 (qv_move rfl) ?_
    refine go_q0 69 (.move (.tmp 9)) 47 (qv_move rfl) ?_
    refine go_q0 70 (.build 29 #[]) 29 (qv_build (v := .agg zeroS.key.c) rfl (fun w => by kernel_rfl)) ?_
    refine go_s0 (some 71) (.call { callee := .value (.func 14), args := #[.tmp 68, .tmp 69, .tmp 70], argTypes := #[43, 47, 29] }) 4 ?_
    refine os_pv rfl (pv_callR en14 rfl (Sel.append Sel.app Sel.app) (ct_is24 hM1 hR1 hp zeroS_wf)) ?_
    refine go_q0 72 (.move (.tmp 71)) 4 (qv_move rfl) ?_
    refine go_s (d := some 73) (op := .call { callee := .value (.func 9), args := #[], argTypes := #[] }) (ty := 4) (g := some (4, true)) (by kernel_rfl) ⟨72, by kernel_rfl, rfl⟩ ?_
    refine os_callP rfl en9 rfl (pu_works24) ?_
    refine go_q0 74 (.pick (.tmp 72) (.tmp 73) (.const (.bool false))) 4 (qv_pick_t rfl rfl) ?_
    refine go_q0 6 (.assign (.tmp 74)) 4 (qv_assign rfl) ?_
    refine go_nil ?_
    change G _ _ _ _
    refine p_weaken [6] rfl ?_
    refine p_ret0 ?_
    try dsimp only [thenQ, inBlockQ]
    try rw [if_pos rfl]
    refine ret_left (R) (.inr rfl) (.cons (res_tmp rfl) .nil) .auto ?_
    exact ⟨rfl, rfl⟩
  replace h45 := kn h45
  refine p_skip0 ?_
  change G _ _ _ _
  refine p_weaken [2, 7, 9, 11] rfl ?_
  refine p_seq0 ?_
  refine p_block 1 (by kernel_rfl) ?_
  refine p_seq0 ?_
  obtain ⟨ba, oa, ca, ea, fa, rfl, ma, Ha⟩ := hl.at_ (i := i) (by omega)
  obtain ⟨a, hx⟩ : ∃ a, acts[i]? = some a := ⟨_, List.getElem?_eq_getElem (by omega)⟩
  have haw := hwf a (List.mem_of_getElem? hx)
  refine p_plain0 (0 :: 1 :: 2 :: 3 :: 4 :: 5 :: 6 :: 7 :: 8 :: 9 :: 10 :: 11 :: 12 :: 13 :: 14 :: 15 :: 16 :: 17 :: 18 :: 19 :: []) ?_
  refine go_q0 48 (.move (.tmp 7)) 43 (qv_move rfl) ?_
  refine go_q0 49 (.move (.tmp 9)) 47 (qv_move rfl) ?_
  refine go_q0 50 (.move (.tmp 2)) 22 (qv_move rfl) ?_
  refine go_q0 51 (.move (.tmp 11)) 3 (qv_move rfl) ?_
  refine go_q0 52 (.indexAddr 22 (.tmp 50) (.tmp 51)) 0 (qv_index un22 sz33 rfl rfl rfl (by omega)) ?_
  refine go_q0 53 (.load 33 (.tmp 52)) 33 (qv_load rfl (At.of_mem (by repeat first | exact ma | exact List.mem_append_left _ ma | apply List.mem_cons_of_mem | apply List.mem_append_right)) (ldv_els Ha hx (by decide) agg33 rfl)) ?_
  refine go_s0 (some 54) (.call { callee := .value (.func 13), args := #[.tmp 48, .tmp 49, .tmp 53], argTypes := #[43, 47, 33] }) 4 ?_
  refine os_call (Nat.le_of_ble_eq_true rfl) en13 rfl (Sel.append Sel.app Sel.app) (ct_does hM1 hR1 hp htk a haw) ?_
  rintro v54 A54 ⟨rfl, fl', g', tk', N1, N2, hN1, hN2, hpn, htn, rfl⟩
  try dsimp only [List.nil_append, List.cons_append]
  refine go_q0 55 (.unOp .not 4 (.tmp 54)) 4 (qv_not rfl) ?_
  refine go_q0 56 (.move (.tmp 55)) 4 (qv_move rfl) ?_
  refine go_q (d := 57) (op := .move (.tmp 7)) (ty := 43) (g := some (8, false)) (by kernel_rfl) ⟨56, by kernel_rfl, rfl⟩ rfl (qv_move rfl) ?_
  refine go_q (d := 58) (op := .move (.tmp 9)) (ty := 47) (g := some (8, false)) (by kernel_rfl) ⟨56, by kernel_rfl, rfl⟩ rfl (qv_move rfl) ?_
  refine go_q (d := 59) (op := .move (.tmp 2)) (ty := 22) (g := some (8, false)) (by kernel_rfl) ⟨56, by kernel_rfl, rfl⟩ rfl (qv_move rfl) ?_
  refine go_q (d := 60) (op := .move (.tmp 11)) (ty := 3) (g := some (8, false)) (by kernel_rfl) ⟨56, by kernel_rfl, rfl⟩ rfl (qv_move rfl) ?_
  refine go_q (d := 61) (op := .indexAddr 22 (.tmp 59) (.tmp 60)) (ty := 0) (g := some (8, false)) (by kernel_rfl) ⟨56, by kernel_rfl, rfl⟩ rfl (qv_index un22 sz33 rfl rfl rfl (by omega)) ?_
  refine go_q (d := 62) (op := .fieldAddr 33 (.tmp 61) 1) (ty := 0) (g := some (8, false)) (by kernel_rfl) ⟨56, by kernel_rfl, rfl⟩ rfl (qv_field rfl fd33_1) ?_
  refine go_q (d := 63) (op := .fieldAddr 31 (.tmp 62) 0) (ty := 0) (g := some (8, false)) (by kernel_rfl) ⟨56, by kernel_rfl, rfl⟩ rfl (qv_field rfl fd31_0) ?_
  refine go_q (d := 64) (op := .load 29 (.tmp 63)) (ty := 29) (g := some (8, false)) (by kernel_rfl) ⟨56, by kernel_rfl, rfl⟩ rfl (qv_load rfl (At.of_mem (by repeat first | exact ma | exact List.mem_append_left _ ma | apply List.mem_cons_of_mem | apply List.mem_append_right)) (ldv_elp Ha hx agg29 (ext_Act24_1_37 _) (by decide) (by decide) rfl)) ?_
  refine go_s (d := some 65) (op := .call { callee := .value (.func 14), args := #[.tmp 57, .tmp 58, .tmp 64], argTypes := #[43, 47, 29] }) (ty := 4) (g := some (8, false)) (by kernel_rfl) ⟨56, by kernel_rfl, rfl⟩ ?_
  refine os_pv rfl (pv_callR en14 rfl (Sel.app) (ct_is24 hN1 hN2 hpn haw.packet_.key_)) ?_
  refine go_q (d := 66) (op := .unOp .not 4 (.tmp 65)) (ty := 4) (g := some (8, false)) (by kernel_rfl) ⟨56, by kernel_rfl, rfl⟩ rfl (qv_not rfl) ?_
  refine go_q0 67 (.pick (.tmp 56) (.const (.bool true)) (.tmp 66)) 4 (qv_pick_f rfl rfl) ?_
  refine go_nil ?_
  change G _ _ _ _
  refine p_weaken [2, 7, 9, 11, 67] rfl ?_
  refine p_condF (.tmp 67) (by kernel_rfl) rfl ?_
  refine p_skip0 ?_
  change G _ _ _ _
  refine p_weaken [2, 7, 9, 11] rfl ?_
  refine p_plain0 (0 :: 1 :: 2 :: []) ?_
  refine go_q0 46 (.move (.tmp 11)) 3 (qv_move rfl) ?_
  refine go_q0 47 (.binOp .add 3 (.tmp 46) (.const (.int .i64 1)) 3) 3 (qv_add rfl rfl (by first | exact IntWalk.i64_in _ (by omega) | exact IntWalk.i64_in _ (by dsimp only; omega) | rfl)) ?_
  refine go_q0 11 (.assign (.tmp 47)) 3 (qv_assign rfl) ?_
  refine go_nil ?_
  exact ⟨_, ⟨i + 1, _, _, _, _, _, by omega, htn, hN1, hN2, hpn, ⟨rfl, ⟨[2, 7, 9, 11], rfl⟩, .auto⟩, rfl⟩, by omega⟩
theorem ct_CachePlaysAll (tick : Int) (bd : Bnd) (acts : List Act24) (R : Mem) (pl : Option Addr) (cl : Nat) (ht : InK .u64 tick) (hbw : bd.Wf) (hl : Lst eAct24 pl acts R) (hwf : ∀ a ∈ acts, a.Wf) :
    Ct Tryz.prog 4 [.int .u64 tick, .agg bd.c, .slice pl acts.length cl].toArray R (fun v M' => v = .bool true ∧ M' = R) := by
  cases h : okBnd bd with
  | false => exact ct_CachePlaysBad tick bd acts R pl cl h
  | true => exact ct_CachePlays tick bd acts R pl cl h ht hbw hl hwf
end Go.Proofs.YtobmcpoejhhemaaGreat
