import Derived.Test.YtobmcpoejhhemaaOEngH
namespace Go.E
open Go

/-- A slice that shows a list: nil, or in a known block. -/
def Vw {α : Type} (E : Enc α) (p : Option Addr) (c : Nat) (l : List α) (A : Mem) : Prop :=
  (p = none ∧ c = 0 ∧ l = []) ∨ ∃ b off cur e fz, p = some ⟨b, off, none⟩ ∧ (b, Obj.cells cur e fz) ∈ A ∧ Holds E cur off l
/-- The pointer of a slice's end. -/
def dropP (p : Option Addr) (cap h sz : Nat) : Option Addr := if cap = h then p else p.map (·.add (h * sz))
theorem OwnL.vwDrop {α : Type} {E : Enc α} {e : TypeId} {p : Option Addr} {cap h sz : Nat} {l : List α} {A : Mem} (ho : OwnL E e p cap l A) (hl : h ≤ l.length) (hz : sz = E.n) : Vw E (dropP p cap h sz) (cap - h) (l.drop h) A := by
  subst hz
  rcases ho.cases with ⟨rfl, rfl, rfl, _⟩ | ⟨b, cur, rfl, rfl, h1, _, _, hh⟩
  · refine .inl ⟨by unfold dropP; split <;> rfl, by omega, by simp⟩
  · by_cases hc : cap = h
    · refine .inr ⟨b, 0, cur, e, (0, 0), by unfold dropP; rw [if_pos hc], List.mem_singleton.2 rfl, ?_⟩
      rw [List.drop_eq_nil_of_le (by omega)]
      unfold Holds
      simp [Enc.flat_nil]
    · refine .inr ⟨b, 0 + h * E.n, cur, e, (0, 0), ?_, List.mem_singleton.2 rfl, ?_⟩
      · unfold dropP
        rw [if_neg hc]
        have : (⟨b, 0, none⟩ : Addr).add (h * E.n) = ⟨b, 0 + h * E.n, none⟩ := by unfold Addr.add; split <;> simp_all
        rw [Option.map_some, this]
      · unfold Holds at hh ⊢
        rw [List.drop_zero] at hh
        rw [Nat.zero_add, ← Enc.flat_drop, ← hh, List.drop_take, List.length_drop, Nat.sub_mul]
theorem OwnL.len_cap {α : Type} {E : Enc α} {e : TypeId} {p : Option Addr} {cap : Nat} {l : List α} {A : Mem} (ho : OwnL E e p cap l A) : l.length ≤ cap := by
  rcases ho.cases with ⟨_, _, rfl, _⟩ | ⟨_, _, _, _, h, _⟩
  · exact Nat.zero_le _
  · exact h
/-- An owned slice's end. -/
theorem qv_dropO {P : Program} {fr : Fr} {M : Mem} {ty : TypeId} {α : Type} {E : Enc α} {t e e' : TypeId} {x y : Operand} {p : Option Addr} {len cap h sz : Nat} {k : IntKind} {i : Int} {l : List α} {A : Mem} (ho : OwnL E e' p cap l A) (ht : P.underlying t = some (.slice e)) (hz : Siz P e sz)
    (hx : evo fr x = some (.slice p len cap)) (hl : len = l.length) (hy : evo fr y = some (.int k i)) (hi : i = (h : Int)) (h2 : h ≤ l.length) : QV P (.slice t x (some y) none none) ty fr M (.slice (dropP p cap h sz) (l.drop h).length (cap - h)) := by
  have hc := ho.len_cap
  have := qv_slS (M := M) (ty := ty) (h := len) ht hz hx (bd_some hy hi) (hi := none) rfl (by omega) (by omega)
  rw [List.length_drop, ← hl]
  exact this
/-- append of cells that are told. -/
theorem os_appendG {X : Cx} {ty t e : TypeId} {size bytes : Nat} {x y : Operand} {sv : Value} {n m c d : Nat} {ad : Addr} {xs news : List Value} {ds : List Deferred} {fr : Fr} {M A B : Mem} {K : S → Prop} (hd : d < X.n)
    (ht : ElT X.P t e size bytes) (hx : evo fr x = some sv) (hy : evo fr y = some (.slice (some ad) m c)) (hs : Sel M A B) (ho : Own e size sv n xs A)
    (hl : news.length = m * size) (hn : ∀ w : World, Has M w → ∀ j u, news[j]? = some u → w.cell? (ad.add j) = some u) (h1 : ∀ u ∈ news, u.oneCell' = true)
    (h63 : n + m ≤ maxLen) (hby : (n + m) * bytes ≤ 140737488355328)
    (h : ∀ sv' A', Own e size sv' (n + m) (xs ++ news) A' → K ⟨ds, (d, sv') :: fr, A' ++ B⟩) :
    OpS X (.call { callee := .builtin .append, args := #[x, y], argTypes := #[t, t] }) ty (some d) ⟨ds, fr, M⟩ K := by
  rintro o hop hty hdst a w ⟨hf, hC⟩
  have hC2 := hC.perm hs.perm
  obtain ⟨i, z, hi, hz, hsz, hbt, hzs⟩ := ht.inf
  have hown : w.ownsRow 0 e size sv n xs := by
    refine ⟨ho.1, ?_⟩
    rcases ho.2 with ⟨h1, h2, _⟩ | ⟨b, cap, cur, h1, h2, h3⟩
    · exact .inl ⟨h1, h2⟩
    · exact .inr ⟨b, cap, cur, h1, Nat.zero_le _, hC2.at_ (b, _) (by simp [h2]), h3⟩
  obtain ⟨v', w', hrun, hown', hg, _, hbl⟩ := run_append_own_at (P := X.P) w 0 t o.type e i z size bytes ht.sl hi hz hsz hbt hzs ht.pos sv n xs hown ad m c news hl (hn w hC.at_) h1 h63 hby (Nat.zero_le _)
  have hdr := run_drawn _ _ _ _ hrun
  refine wpIn_of_value (fun _ => trivial) (by rw [hop]; simp) (v := v') (w' := w') ?_ ?_
  · simp only [execOp, hop, resolve, List.map_toArray, List.map_cons, List.map_nil, hf.ev hx, hf.ev hy, Sem.run_bind, Sem.run_pure, Result.andThen, invoke, builtin, hrun]
  · rw [hdst]
    have key : ∃ A', Own e size v' (n + m) (xs ++ news) A' ∧ Chg w A A' w' := by
      have hA : ∀ k, sv.ownBlock = some k → ∃ o, A = [(k, o)] := fun k hk => by
        rcases ho.2 with ⟨h1, _⟩ | ⟨b, cap, cur, h1, h2, _⟩
        · rw [h1] at hk; simp [Value.ownBlock] at hk
        · rw [h1] at hk; simp [Value.ownBlock] at hk; subst hk; exact ⟨_, h2⟩
      have hold : ∀ k, k < w.heap.size → (∀ p ∈ A, p.1 ≠ k) → w'.heap[k]? = w.heap[k]? := fun k hk hp => hg.block k hk fun e => by
        obtain ⟨o, rfl⟩ := hA k e.symm
        exact hp (k, o) (by simp) rfl
      rcases hown'.2 with ⟨h1, h2⟩ | ⟨g, cap, cur, h1, _, h3, h4⟩
      · exact ⟨[], ⟨hown'.1, .inl ⟨h1, h2, rfl⟩⟩, ⟨hg.os, hg.tape, hg.output, hdr, hg.size, hold, by simp, by simp, by simp⟩⟩
      · refine ⟨[(g, .cells cur e (0, 0))], ⟨hown'.1, .inr ⟨g, cap, cur, h1, rfl, h4⟩⟩, ⟨hg.os, hg.tape, hg.output, hdr, hg.size, hold, ?_, by simp, ?_⟩⟩
        · intro p hp
          simp at hp
          subst hp
          have hgb : v'.ownBlock = some g := by rw [h1]; rfl
          rcases hbl with hb | hb
          · obtain ⟨o, rfl⟩ := hA g (hb ▸ hgb)
            exact .inl ⟨(g, o), by simp, rfl⟩
          · rw [hgb] at hb
            simp at hb
            exact .inr (by simp [hb])
        · intro p hp
          simp at hp
          subst hp
          exact h3
    obtain ⟨A', ho', hch⟩ := key
    exact ⟨⟨ds, (d, v') :: fr, A' ++ B⟩, ⟨hf.put hd v', hC2.call hch⟩, h v' A' ho'⟩
theorem cell_lst {α : Type} {E : Enc α} {ad : Addr} {l : List α} {M : Mem} (h : Lst E (some ad) l M) (w : World) (hM : Has M w) : ∀ j u, (E.flat l)[j]? = some u → w.cell? (ad.add j) = some u := fun j u hu => by
  rcases h with rfl | ⟨b, off, cur, e, fz, h, hm, hh⟩
  · simp [Enc.flat_nil] at hu
  · cases h
    have hadd : (⟨b, off, none⟩ : Addr).add j = ⟨b, off + j, none⟩ := by unfold Addr.add; split <;> simp_all
    rw [hadd, cell_of_row w b _ cur e fz (hM _ hm)]
    unfold Holds at hh
    rw [← hh, List.getElem?_take] at hu
    split at hu
    · rw [List.getElem?_drop] at hu; simpa using hu
    · cases hu
/-- append of a list that is read, wherever it lies. -/
theorem os_appendR {α : Type} {E : Enc α} {X : Cx} {ty t e : TypeId} {bytes : Nat} {x y : Operand} {p : Option Addr} {ad : Addr} {cap c d m k : Nat} {l l2 : List α} {ds : List Deferred} {fr : Fr} {M A B : Mem} {K : S → Prop} (hd : Nat.blt d X.n = true)
    (ht : ElT X.P t e E.n bytes) (hx : evo fr x = some (.slice p k cap)) (hk : k = l.length) (hy : evo fr y = some (.slice (some ad) m c)) (hm : m = l2.length) (ho : OwnL E e p cap l A) (hs : Sel M A B) (hl : Lst E (some ad) l2 M)
    (h1 : ∀ a, ∀ u ∈ (E.c a).toList, u.oneCell' = true) (h63 : l.length + l2.length ≤ maxLen) (hby : (l.length + l2.length) * bytes ≤ 140737488355328)
    (h : ∀ p' cap' A', OwnL E e p' cap' (l ++ l2) A' → K ⟨ds, (d, .slice p' (l ++ l2).length cap') :: fr, A' ++ B⟩) :
    OpS X (.call { callee := .builtin .append, args := #[x, y], argTypes := #[t, t] }) ty (some d) ⟨ds, fr, M⟩ K := by
  subst hk hm
  refine os_appendG (by simpa using hd) ht hx hy hs ho (E.flat_length l2) (cell_lst hl) ?_ h63 hby fun sv' A' h' => ?_
  · intro u hu
    obtain ⟨a, _, hu⟩ := List.mem_flatMap.1 hu
    exact h1 a u hu
  · have hsv : ∃ p' cap', sv' = .slice p' (l ++ l2).length cap' := by
      rw [List.length_append]
      rcases h'.2 with ⟨h1, h2, _⟩ | ⟨b, cap, cur, h1, _⟩
      · exact ⟨none, 0, by rw [h1, h2]⟩
      · exact ⟨_, _, h1⟩
    obtain ⟨p', cap', rfl⟩ := hsv
    refine h p' cap' A' ?_
    unfold OwnL
    rw [List.length_append, E.flat_append] at *
    exact h'
end Go.E
