import Derived.Test.YtobmcpoejhhemaaOEngG
import Derived.Laws.OwnMore
namespace Go.E
open Go

section
variable {α : Type} {E : Enc α}
theorem Enc.flat_take' (E : Enc α) (l : List α) (m : Nat) : (E.flat l).take (m * E.n) = E.flat (l.take m) := Enc.flat_take E l m
/-- A list's own cells, and those behind. -/
theorem Holds.split {cur : Array Value} {l : List α} (h : Holds E cur 0 l) : cur.toList = E.flat l ++ cur.toList.drop (l.length * E.n) := by
  unfold Holds at h
  rw [List.drop_zero] at h
  rw [← h, List.take_append_drop]
theorem Holds.of_split {cur : Array Value} {l : List α} {r : List Value} (h : cur.toList = E.flat l ++ r) : Holds E cur 0 l := by
  unfold Holds
  rw [List.drop_zero, h, ← E.flat_length l, List.take_left']
  rfl
theorem splice_holds {cur : Array Value} {l : List α} {i : Nat} (a : α) (h : Holds E cur 0 l) (hi : i < l.length) : Holds E (splice cur (0 + i * E.n) (E.c a)) 0 (l.set i a) ∧ (splice cur (0 + i * E.n) (E.c a)).size = cur.size := by
  have hs := h.split
  have h1 := splice_flat E a hi
  have h2 := flat_fit E hi
  have hfl : (E.flat l).toArray.size = (E.flat l).length := by simp
  rw [hfl] at h2
  unfold splice at h1 ⊢
  rw [Nat.zero_add, E.sz] at h1 ⊢
  rw [Nat.zero_add] at h2
  have e1 : cur.toList.take (i * E.n) = (E.flat l).take (i * E.n) := by
    rw [hs, List.take_append_of_le_length (by omega)]
  have e2 : cur.toList.drop (i * E.n + E.n) = (E.flat l).drop (i * E.n + E.n) ++ cur.toList.drop (l.length * E.n) := by
    conv => lhs; rw [hs]
    rw [List.drop_append_of_le_length (by omega)]
  have h3 := congrArg Array.toList h1
  dsimp only at h3
  refine ⟨Holds.of_split (r := cur.toList.drop (l.length * E.n)) ?_, ?_⟩
  · show List.take (i * E.n) cur.toList ++ (E.c a).toList ++ List.drop (i * E.n + E.n) cur.toList = _
    rw [e1, e2, ← List.append_assoc, h3]
  · have hl : cur.size = cur.toList.length := by simp
    have hle : (E.flat l).length ≤ cur.toList.length := by rw [hs]; simp
    have hq : i * E.n + E.n ≤ cur.size := by rw [hl]; omega
    show (List.take (i * E.n) cur.toList ++ (E.c a).toList ++ List.drop (i * E.n + E.n) cur.toList).length = _
    rw [List.length_append, List.length_append, List.length_take, List.length_drop, Array.length_toList, Array.length_toList, E.sz, Nat.min_eq_left (by omega)]
    omega
/-- An element is written over. -/
theorem OwnL.put {e : TypeId} {b cap : Nat} {cur : Array Value} {l : List α} {i : Nat} (a : α) (h1 : l.length ≤ cap) (h2 : cap ≤ maxLen) (h3 : cur.size = cap * E.n) (h4 : Holds E cur 0 l) (hi : i < l.length) :
    OwnL E e (some ⟨b, 0, none⟩) cap (l.set i a) [(b, .cells (splice cur (0 + i * E.n) (E.c a)) e (0, 0))] := by
  obtain ⟨h5, h6⟩ := splice_holds a h4 hi
  refine ⟨E.flat_length _, .inr ⟨b, cap, _, rfl, rfl, by simpa using h1, h2, by rw [h6, h3], ?_⟩⟩
  unfold Holds at h5
  rwa [List.drop_zero] at h5
/-- An owned slice is made shorter. -/
theorem OwnL.cut {e : TypeId} {p : Option Addr} {cap : Nat} {l : List α} {A : Mem} (h : OwnL E e p cap l A) (m : Nat) : OwnL E e p cap (l.take m) A := by
  refine ⟨E.flat_length _, ?_⟩
  rcases h.cases with ⟨rfl, rfl, rfl, rfl⟩ | ⟨b, cur, rfl, rfl, h1, h2, h3, h4⟩
  · left; simp
  · right
    refine ⟨b, cap, cur, rfl, rfl, by simp; omega, h2, h3, ?_⟩
    unfold Holds at h4
    rw [List.drop_zero] at h4
    rw [← E.flat_take' l m, ← h4, List.take_take, List.length_take]
    congr 1
    have : (min m l.length) * E.n = min (m * E.n) (l.length * E.n) := by
      rcases Nat.le_total m l.length with h | h
      · rw [Nat.min_eq_left h, Nat.min_eq_left (Nat.mul_le_mul_right _ h)]
      · rw [Nat.min_eq_right h, Nat.min_eq_right (Nat.mul_le_mul_right _ h)]
    exact this
theorem OwnL.addr {e : TypeId} {p : Option Addr} {cap : Nat} {l : List α} {A : Mem} (h : OwnL E e p cap l A) (z : Nat) (hz : z = 0) : (if cap = 0 then p else p.map (·.add z)) = p := by
  subst hz
  rcases h.cases with ⟨rfl, _⟩ | ⟨b, cur, rfl, _⟩
  · simp
  · have : (⟨b, 0, none⟩ : Addr).add 0 = ⟨b, 0, none⟩ := by unfold Addr.add; split <;> simp_all
    simp [this]
end
theorem holds_one {α : Type} {E : Enc α} (a : α) : Holds E (E.c a) 0 [a] := Holds.whole (by rw [E.flat_cons, E.flat_nil, List.append_nil])
/-- append of a list that lies in a known block: the length told as the whole list's. -/
theorem os_appendK {α : Type} {E : Enc α} {X : Cx} {ty t e : TypeId} {bytes : Nat} {x y : Operand} {p : Option Addr} {cap c b2 off2 d m k : Nat} {l l2 : List α} {cs2 : Array Value} {e2 : TypeId} {fz : Nat × Nat} {ds : List Deferred} {fr : Fr} {M A B : Mem} {K : S → Prop} (hd : Nat.blt d X.n = true)
    (ht : ElT X.P t e E.n bytes) (hx : evo fr x = some (.slice p k cap)) (hk : k = l.length) (hy : evo fr y = some (.slice (some ⟨b2, off2, none⟩) m c)) (hm : m = l2.length) (ho : OwnL E e p cap l A) (hs : Sel M A B)
    (h2 : At M b2 (.cells cs2 e2 fz)) (hn : Holds E cs2 off2 l2) (h1 : ∀ a, ∀ u ∈ (E.c a).toList, u.oneCell' = true)
    (h63 : l.length + l2.length ≤ maxLen) (hby : (l.length + l2.length) * bytes ≤ 140737488355328)
    (h : ∀ p' cap' A', OwnL E e p' cap' (l ++ l2) A' → K ⟨ds, (d, .slice p' (l ++ l2).length cap') :: fr, A' ++ B⟩) :
    OpS X (.call { callee := .builtin .append, args := #[x, y], argTypes := #[t, t] }) ty (some d) ⟨ds, fr, M⟩ K :=
  os_appendL hd ht hx hk hy hm ho hs h2 hn h1 h63 hby fun p' cap' A' h' => by
    have := h p' cap' A' h'
    rwa [List.length_append] at this
/-- A seq whose first part leaves alone what is kept. -/
theorem p_seqK {X : Cx} {Q : Post} {c : Code} {ds : List Deferred} {fr frk : Fr} {M : Mem} (keep : List Nat) (hp : pick keep fr = some frk) (J : Fr → Mem → S → Prop) (h : isSeq c = true) (h1 : G X (c0 c) (thenQ (J frk M) Q) ⟨ds, fr, M⟩) (h2 : ∀ s, J frk M s → G X (c1 c) Q s) : G X c Q ⟨ds, fr, M⟩ :=
  p_seqJ (J frk M) h h1 h2
theorem Lst.mono {α : Type} {E : Enc α} {p : Option Addr} {l : List α} {M M' : Mem} (h : Lst E p l M) (hs : ∀ q ∈ M, q ∈ M') : Lst E p l M' := by
  rcases h with h | ⟨b, off, cur, e, fz, h1, h2, h3⟩
  · exact .inl h
  · exact .inr ⟨b, off, cur, e, fz, h1, hs _ h2, h3⟩
theorem Lst.left {α : Type} {E : Enc α} {p : Option Addr} {l : List α} {A B : Mem} (h : Lst E p l A) : Lst E p l (A ++ B) := h.mono fun _ hq => List.mem_append_left _ hq
theorem Lst.right {α : Type} {E : Enc α} {p : Option Addr} {l : List α} {A B : Mem} (h : Lst E p l B) : Lst E p l (A ++ B) := h.mono fun _ hq => List.mem_append_right _ hq
theorem Lst.tail {α : Type} {E : Enc α} {p : Option Addr} {l : List α} {q : Nat × Obj} {B : Mem} (h : Lst E p l B) : Lst E p l (q :: B) := h.mono fun _ hq => List.mem_cons_of_mem _ hq
theorem Enc.flat_get {α : Type} (E : Enc α) (hn : 0 < E.n) {l : List α} {j : Nat} (h : j < l.length * E.n) : ∃ a, l[j / E.n]? = some a ∧ (E.flat l)[j]? = (E.c a)[j % E.n]? := by
  have hi : j / E.n < l.length := Nat.div_lt_of_lt_mul (by rw [Nat.mul_comm]; exact h)
  refine ⟨_, List.getElem?_eq_getElem hi, ?_⟩
  have h5 := E.flat_at l (j / E.n) _ (List.getElem?_eq_getElem hi)
  have h6 := congrArg (fun r : List Value => r[j % E.n]?) h5
  have hqe : j / E.n * E.n + j % E.n = j := by rw [Nat.mul_comm]; exact Nat.div_add_mod j E.n
  simp only [List.getElem?_take, if_pos (Nat.mod_lt j hn), List.getElem?_drop, hqe] at h6
  rw [h6, Array.getElem?_toList]

/-- One cell of an element is written over. -/
theorem holds_setc {α : Type} {E : Enc α} (hn : 0 < E.n) {cur : Array Value} {l : List α} {i k : Nat} {a a' : α} {v : Value} (h : Holds E cur 0 l) (hi : l[i]? = some a) (hk : k < E.n) (ha : (E.c a).setIfInBounds k v = E.c a') {o : Nat} (ho : o = 0 + i * E.n + k) : Holds E (cur.setIfInBounds o v) 0 (l.set i a') ∧ (cur.setIfInBounds o v).size = cur.size := by
  subst ho
  have hil := (List.getElem?_eq_some_iff.1 hi).1
  refine ⟨?_, by simp⟩
  unfold Holds at h ⊢
  rw [List.drop_zero] at h ⊢
  apply List.ext_getElem?
  intro j
  rw [List.getElem?_take, List.length_set]
  by_cases hj : j < l.length * E.n
  · rw [if_pos hj]
    obtain ⟨x, hx, hf⟩ := E.flat_get hn (l := l.set i a') (j := j) (by rw [List.length_set]; exact hj)
    obtain ⟨y, hy, hg⟩ := E.flat_get hn hj
    have hc : cur.toList[j]? = (E.flat l)[j]? := by rw [← h, List.getElem?_take, if_pos hj]
    have hdm : j / E.n * E.n + j % E.n = j := by rw [Nat.mul_comm]; exact Nat.div_add_mod j E.n
    rw [hf, Array.toList_setIfInBounds]
    by_cases e : j / E.n = i
    · rw [e, List.getElem?_set_self hil] at hx
      cases hx
      rw [e, hi] at hy
      cases hy
      rw [← ha, Array.getElem?_setIfInBounds]
      by_cases e2 : j % E.n = k
      · have hjo : 0 + i * E.n + k = j := by rw [Nat.zero_add, ← e, ← e2]; exact hdm
        have hjl : j < cur.toList.length := by
          have : j < (E.flat l).length := by rw [E.flat_length]; exact hj
          rw [← h, List.length_take] at this
          omega
        rw [hjo, List.getElem?_set_self hjl, if_pos e2.symm, if_pos (by rw [E.sz]; exact hk)]
      · have hjo : 0 + i * E.n + k ≠ j := fun e3 => e2 (by
          have : j % E.n = (i * E.n + k) % E.n := by rw [← e3, Nat.zero_add]
          rw [this, Nat.mul_comm, Nat.mul_add_mod, Nat.mod_eq_of_lt hk])
        rw [List.getElem?_set_ne hjo, if_neg (Ne.symm e2), hc, hg]
    · rw [List.getElem?_set_ne (Ne.symm e), hy] at hx
      cases hx
      have hjo : 0 + i * E.n + k ≠ j := fun e3 => e (by
        have : j / E.n = (i * E.n + k) / E.n := by rw [← e3, Nat.zero_add]
        rw [this, Nat.mul_comm, Nat.mul_add_div hn, Nat.div_eq_of_lt hk, Nat.add_zero])
      rw [List.getElem?_set_ne hjo, hc, hg]
  · rw [if_neg hj, List.getElem?_eq_none]
    rw [E.flat_length, List.length_set]
    omega
/-- An owned slice's beginning. -/
theorem qv_cutO {P : Program} {fr : Fr} {M : Mem} {ty : TypeId} {α : Type} {E : Enc α} {t e e' : TypeId} {x y : Operand} {p : Option Addr} {len cap h sz : Nat} {k : IntKind} {i : Int} {l : List α} {A : Mem} (ho : OwnL E e' p cap l A) (ht : P.underlying t = some (.slice e)) (hz : Siz P e sz)
    (hx : evo fr x = some (.slice p len cap)) (hy : evo fr y = some (.int k i)) (hi : i = (h : Int)) (h2 : h ≤ cap) : QV P (.slice t x none (some y) none) ty fr M (.slice p h cap) := by
  have := qv_slS (M := M) (ty := ty) (l := 0) ht hz hx (lo := none) rfl (bd_some hy hi) (Nat.zero_le _) h2
  rw [Nat.sub_zero, Nat.sub_zero, ho.addr (0 * sz) (Nat.zero_mul _)] at this
  exact this
end Go.E
