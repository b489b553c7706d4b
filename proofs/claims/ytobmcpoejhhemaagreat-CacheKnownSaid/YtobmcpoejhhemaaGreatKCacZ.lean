import Derived.Test.YtobmcpoejhhemaaGreatKCacX
namespace Go.Proofs.YtobmcpoejhhemaaGreat
open Go.E

theorem sorted_unique {α : Type} {R : α → α → Prop} {l1 : List α} : ∀ {l2 : List α}, l1.Perm l2 → l1.Pairwise R → l2.Pairwise R → (∀ a ∈ l1, ∀ b ∈ l1, R a b → R b a → a = b) → l1 = l2 := by
  induction l1 with
  | nil => exact fun h _ _ _ => h.nil_eq
  | cons a t ih =>
    intro l2 h h1 h2 ha
    cases l2 with
    | nil => exact absurd h.length_eq (by simp)
    | cons b u =>
      obtain ⟨h3, h4⟩ := List.pairwise_cons.1 h1
      obtain ⟨h5, h6⟩ := List.pairwise_cons.1 h2
      have hab : a = b := by
        rcases List.mem_cons.1 (h.mem_iff.1 (.head _)) with e | e
        · exact e
        · rcases List.mem_cons.1 (h.mem_iff.2 (.head u)) with e2 | e2
          · exact e2.symm
          · exact ha a (.head _) b (.tail _ e2) (h3 b e2) (h5 a e)
      subst hab
      rw [ih h.cons_inv h4 h6 fun x hx y hy => ha x (.tail _ hx) y (.tail _ hy)]
theorem eq_of_key {l : List Rec} (hd : l.Pairwise fun a b => a.key ≠ b.key) {x y : Rec} (hx : x ∈ l) (hy : y ∈ l) (h : x.key = y.key) : x = y := by
  rw [List.pairwise_iff_getElem] at hd
  obtain ⟨i, hi, rfl⟩ := List.getElem_of_mem hx
  obtain ⟨j, hj, rfl⟩ := List.getElem_of_mem hy
  rcases Nat.lt_trichotomy i j with h1 | h1 | h1
  · exact absurd h (hd i j hi hj h1)
  · subst h1; rfl
  · exact absurd h.symm (hd j i hj hi h1)
theorem key_anti {x y : Rec} (hx : WfR x) (hy : WfR y) (h1 : ¬ cmpK y.key x.key < 0) (h2 : ¬ cmpK x.key y.key < 0) : x.key = y.key :=
  Decidable.byContradiction fun h => h2 (ltK_of hx.1.key_ hy.1.key_ hx.2 hy.2 h h1)
theorem due_anti {bd : Bnd} {x y : Rec} (hx : WfR x) (hy : WfR y) (h1 : ¬ cmpDue bd y x < 0) (h2 : ¬ cmpDue bd x y < 0) : x.key = y.key := by
  unfold cmpDue at h1 h2
  rw [lex_neg] at h1 h2
  exact key_anti hx hy (fun h => h1 (.inr ⟨by omega, h⟩)) fun h => h2 (.inr ⟨by omega, h⟩)
theorem last_anti {x y : Rec} (hx : WfR x) (hy : WfR y) (h1 : ¬ cmpLast y x < 0) (h2 : ¬ cmpLast x y < 0) : x.key = y.key := by
  unfold cmpLast at h1 h2
  rw [lex_neg] at h1 h2
  exact key_anti hx hy (fun h => h1 (.inr ⟨by omega, h⟩)) fun h => h2 (.inr ⟨by omega, h⟩)
def Dist (l : List Rec) : Prop := l.Pairwise fun a b => a.key ≠ b.key
theorem Dist.perm {l l' : List Rec} (h : Dist l) (hp : l'.Perm l) : Dist l' := (hp.pairwise_iff (fun {a b} h => Ne.symm h)).2 h
section
variable {bd : Bnd} {tick tick' cls : Int} {fl gl fl1 gl1 fl' gl' out out' : List Rec} {p : Pkt}
theorem srt_unique {s s' l : List Rec} (h : s.Perm s') (h1 : s.Pairwise fun x y => ¬ cmpDue bd y x < 0) (h2 : s'.Pairwise fun x y => ¬ cmpDue bd y x < 0) (hs : ∀ x ∈ s, x ∈ l) (hw : ∀ r ∈ l, WfR r) (hd : Dist l) : s = s' :=
  sorted_unique h h1 h2 fun a ha b hb hab hba => eq_of_key hd (hs a ha) (hs b hb) (due_anti (hw a (hs a ha)) (hw b (hs b hb)) hab hba)
theorem AdvAny.det (h1 : AdvAny bd tick tick' fl fl1 out) (h2 : AdvAny bd tick tick' gl gl1 out') (hp : fl.Perm gl) (hw : ∀ r ∈ fl, WfR r) (hd : Dist fl) : fl1.Perm gl1 ∧ out = out' := by
  rcases h1 with ⟨a1, rfl, rfl⟩ | ⟨a1, s, h3, h4, rfl, h5⟩ <;> rcases h2 with ⟨a2, rfl, rfl⟩ | ⟨a2, s', h6, h7, rfl, h8⟩
  · exact ⟨hp, rfl⟩
  · omega
  · omega
  · refine ⟨h5.trans ((hp.filter _).trans h8.symm), ?_⟩
    rw [srt_unique (h3.trans ((hp.filter _).trans h6.symm)) h4 h7 (fun x hx => (List.mem_filter.1 (h3.mem_iff.1 hx)).1) hw hd]
theorem AdvAny.dist (h : AdvAny bd tick tick' fl fl1 out) (hd : Dist fl) : Dist fl1 := by
  rcases h with ⟨_, rfl, rfl⟩ | ⟨_, s, _, _, rfl, h5⟩
  · exact hd
  · exact Dist.perm (List.Pairwise.filter _ hd) h5
theorem BegR.det (h1 : BegR bd fl fl1 out) (h2 : BegR bd gl gl1 out') (hp : fl.Perm gl) (hw : ∀ r ∈ fl, WfR r) (hd : Dist fl) : fl1.Perm gl1 ∧ out = out' := by
  have hl := hp.length_eq
  rcases h1 with ⟨a1, u, hu, hm, rfl, h5⟩ | ⟨a1, rfl, rfl⟩ <;> rcases h2 with ⟨a2, v, hv, hn, rfl, h8⟩ | ⟨a2, rfl, rfl⟩
  · have hv' := hp.mem_iff.2 hv
    have huv : u = v := eq_of_key hd hu hv' (last_anti (hw u hu) (hw v hv') (hm v hv') (hn u (hp.mem_iff.1 hu)))
    subst huv
    exact ⟨(h5.symm.trans (hp.trans h8)).cons_inv, rfl⟩
  · omega
  · omega
  · exact ⟨hp, rfl⟩
theorem AccR.det (h1 : AccR bd tick tick' p cls fl fl' out) (h2 : AccR bd tick tick' p cls gl gl' out') (hp : fl.Perm gl) (hw : ∀ r ∈ fl, WfR r) (hd : Dist fl) : fl'.Perm gl' ∧ out = out' := by
  obtain ⟨fl1, o1, o2, r, X, hA, hc, he⟩ := h1.perm
  obtain ⟨gl1, o1', o2', r', X', hA', hc', he'⟩ := h2.perm
  obtain ⟨hp1, rfl⟩ := hA.det hA' hp hw hd
  have hw1 : ∀ x ∈ fl1, WfR x := fun x hx => hw x (hA.sub x hx)
  have hd1 := hA.dist hd
  have hrX : r = r' ∧ X.Perm X' ∧ o2 = o2' := by
    rcases hc with ⟨a1, a2, rfl⟩ | ⟨a1, hB, rfl⟩ <;> rcases hc' with ⟨b1, b2, rfl⟩ | ⟨b1, hB', rfl⟩
    · have e : r = r' := eq_of_key hd1 (a1.mem_iff.2 (.head _)) (hp1.mem_iff.2 (b1.mem_iff.2 (.head _))) (a2.trans b2.symm)
      subst e
      exact ⟨rfl, (a1.symm.trans (hp1.trans b1)).cons_inv, rfl⟩
    · exact absurd ((keysOf_perm hp1 p.key).1 (List.mem_map.2 ⟨r, a1.mem_iff.2 (.head _), a2⟩)) b1
    · exact absurd ((keysOf_perm hp1 p.key).2 (List.mem_map.2 ⟨r', b1.mem_iff.2 (.head _), b2⟩)) a1
    · obtain ⟨c1, c2⟩ := hB.det hB' hp1 hw1 hd1
      exact ⟨rfl, c1, c2⟩
  obtain ⟨rfl, hX, rfl⟩ := hrX
  rcases he with ⟨a1, a2, rfl⟩ | ⟨a1, a2, rfl⟩ <;> rcases he' with ⟨b1, b2, rfl⟩ | ⟨b1, b2, rfl⟩
  · exact ⟨a2.trans ((hX.cons _).trans b2.symm), rfl⟩
  · exact absurd a1 b1
  · exact absurd b1 a1
  · exact ⟨a2.trans (hX.trans b2.symm), rfl⟩
/-- An Account of any packet. -/
def AccA (bd : Bnd) (tick tick' : Int) (p : Pkt) (cls : Int) (fl fl' out : List Rec) (tk e : Int) : Prop :=
  (p.key.right = true ∧ AccR bd tick tick' p cls fl fl' out ∧ tk = tickTo tick tick' ∧ e = 0) ∨ (p.key.right = false ∧ fl' = fl ∧ out = [] ∧ tk = tick ∧ e = 2)
theorem AccA.det {tk tk' e e' : Int} (h1 : AccA bd tick tick' p cls fl fl' out tk e) (h2 : AccA bd tick tick' p cls gl gl' out' tk' e') (hp : fl.Perm gl) (hw : ∀ r ∈ fl, WfR r) (hd : Dist fl) : fl'.Perm gl' ∧ out = out' ∧ tk = tk' ∧ e = e' := by
  rcases h1 with ⟨a, b, rfl, rfl⟩ | ⟨a, rfl, rfl, rfl, rfl⟩ <;> rcases h2 with ⟨a', b', rfl, rfl⟩ | ⟨a', rfl, rfl, rfl, rfl⟩
  · obtain ⟨c, d⟩ := b.det b' hp hw hd
    exact ⟨c, d, rfl, rfl⟩
  · rw [a] at a'; cases a'
  · rw [a] at a'; cases a'
  · exact ⟨hp, rfl, rfl, rfl⟩
theorem AccA.tick_ {tk e : Int} (h : AccA bd tick tick' p cls fl fl' out tk e) (ht : tick ≤ tick') : tick ≤ tk ∧ tk ≤ tick' := by
  rcases h with ⟨_, _, rfl, _⟩ | ⟨_, _, _, rfl, _⟩
  · rw [tickTo_of ht]; omega
  · omega
theorem ct_AccountA {bc : Nat} {M : Mem} (hM : CacM bc tick bd fl M) (hp : p.Wf) (ht : InK .u64 tick) (ht' : InK .u64 tick') (hcl : InK .u8 cls) :
    Ct Tryz.prog 21 [.pointer (some ⟨bc, 0, none⟩), .agg p.c, .int .u8 cls, .int .u64 tick'].toArray M (fun v M' => ∃ fl' out q cq B M1 tk e, AccA bd tick tick' p cls fl fl' out tk e ∧ v = .tuple #[.slice q out.length cq, .int .i64 e] ∧ OwnL eRec 69 q cq out B ∧ CacM bc tk bd fl' M1 ∧ M' = B ++ M1) := by
  cases hr : p.key.right with
  | true =>
    refine (ct_Account hM hp hr ht ht' hcl).mono ?_
    rintro v M' ⟨fl', out, q, cq, B, M1, hA, hv, hO, hM1, hM'⟩
    exact ⟨fl', out, q, cq, B, M1, _, 0, .inl ⟨hr, hA, rfl, rfl⟩, hv, hO, hM1, hM'⟩
  | false =>
    refine (ct_AccountBad hM hr).mono ?_
    rintro v M' ⟨hv, hM'⟩
    exact ⟨fl, [], none, 0, [], M, tick, 2, .inr ⟨hr, rfl, rfl, rfl, rfl⟩, hv, OwnL.nil, hM, hM'⟩
/-- Gone on tick by tick. -/
def TickS (bd : Bnd) (gl0 gl got : List Rec) (T : Int) (t : Nat) : Prop := ∃ S, got = told (reasonR bd) S ∧ (S ++ gl).Perm gl0 ∧ S.Pairwise (fun x y => ¬ cmpDue bd y x < 0) ∧ (∀ x ∈ S, ∀ y ∈ gl, dueR bd x < dueR bd y) ∧ (∀ x ∈ S, dueR bd x < T + t) ∧ (∀ y ∈ gl, 1 ≤ t → T + t ≤ dueR bd y)
theorem TickS.start {gl : List Rec} {T : Int} : TickS bd gl gl [] T 0 :=
  ⟨[], rfl, .refl _, .nil, fun _ h => absurd h List.not_mem_nil, fun _ h => absurd h List.not_mem_nil, fun _ _ h => absurd h (by omega)⟩
theorem TickS.step {gl0 got : List Rec} {T tk : Int} {t : Nat} (h : TickS bd gl0 gl got T t) (hA : AdvAny bd tk (T + t) gl gl' out) (ht : tk ≤ T + t) : TickS bd gl0 gl' (got ++ out) T (t + 1) := by
  obtain ⟨S, rfl, h1, h2, h3, h4, h5⟩ := h
  rcases hA with ⟨a, _⟩ | ⟨_, s, a1, a2, rfl, a3⟩
  · omega
  have hs : ∀ x ∈ s, x ∈ gl ∧ dueR bd x ≤ T + t := fun x hx => by
    obtain ⟨b1, b2⟩ := List.mem_filter.1 (a1.mem_iff.1 hx)
    exact ⟨b1, of_decide_eq_true b2⟩
  have hg : ∀ y ∈ gl', y ∈ gl ∧ T + t < dueR bd y := fun y hy => by
    obtain ⟨b1, b2⟩ := List.mem_filter.1 (a3.mem_iff.1 hy)
    simp at b2
    exact ⟨b1, b2⟩
  refine ⟨S ++ s, by unfold told; rw [List.map_append], ?_, ?_, ?_, ?_, ?_⟩
  · rw [List.append_assoc]
    refine (List.Perm.append_left S ?_).trans h1
    exact (a1.append a3).trans (List.filter_append_perm _ gl)
  · rw [List.pairwise_append]
    refine ⟨h2, a2, fun x hx y hy => ?_⟩
    have := h3 x hx y (hs y hy).1
    unfold cmpDue
    rw [lex_neg]
    omega
  · intro x hx y hy
    rcases List.mem_append.1 hx with hx | hx
    · exact h3 x hx y (hg y hy).1
    · have := (hs x hx).2; have := (hg y hy).2; omega
  · intro x hx
    rcases List.mem_append.1 hx with hx | hx
    · have := h4 x hx; omega
    · have := (hs x hx).2; omega
  · intro y hy _
    have := (hg y hy).2; omega
theorem TickS.fin {gl0 got : List Rec} {T tk : Int} {n : Nat} (h : TickS bd gl0 gl got T (n + 1)) (hA : AdvAny bd tk (T + n) fl fl' out) (ht : tk ≤ T + n) (hp : fl.Perm gl0) (hw : ∀ r ∈ fl, WfR r) (hd : Dist fl) : got = out := by
  obtain ⟨S, rfl, h1, h2, h3, h4, h5⟩ := h
  rcases hA with ⟨a, _⟩ | ⟨_, s, a1, a2, rfl, a3⟩
  · omega
  have e : S.Perm (dueBy bd (T + n) gl0) := by
    have := h1.filter fun r => decide (dueR bd r ≤ T + n)
    rw [List.filter_append, List.filter_eq_self.2 fun x hx => by have := h4 x hx; simp; omega, List.filter_eq_nil_iff.2 fun x hx => by have := h5 x hx (by omega); simp; omega, List.append_nil] at this
    exact this
  rw [srt_unique (s := s) (s' := S) (a1.trans ((hp.filter _).trans e.symm)) a2 h2 (fun x hx => (List.mem_filter.1 (a1.mem_iff.1 hx)).1) hw hd]
end
end Go.Proofs.YtobmcpoejhhemaaGreat
