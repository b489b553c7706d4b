import Derived.Test.YtobmcpoejhhemaaOEngD
import Derived.Laws.Entries
namespace Go.E
open Go

theorem t_eq {p q : Int} (h : (p == q) = true) : p = q := by simpa using h
theorem f_eq {p q : Int} (h : (p == q) = false) : ¬ p = q := by simpa using h
theorem t_ne {p q : Int} (h : (p != q) = true) : ¬ p = q := by simpa using h
theorem f_ne {p q : Int} (h : (p != q) = false) : p = q := by simpa using h
theorem t_not {b : Bool} (h : (!b) = true) : b = false := by simpa using h
theorem f_not {b : Bool} (h : (!b) = false) : b = true := by simpa using h
theorem t_nd {p : Prop} [Decidable p] (h : (!decide p) = true) : ¬ p := by simpa using h
theorem f_nd {p : Prop} [Decidable p] (h : (!decide p) = false) : p := by simpa using h
theorem t_bb {a b : Bool} (h : (a == b) = true) : a = b := by simpa using h
theorem f_bb {a b : Bool} (h : (a == b) = false) : ¬ a = b := by simpa using h
theorem t_nbb {a b : Bool} (h : (!(a == b)) = true) : ¬ a = b := by simpa using h
theorem f_nbb {a b : Bool} (h : (!(a == b)) = false) : a = b := by simpa using h
inductive Sb : Mem → Mem → Prop
  | refl {M : Mem} : Sb M M
  | nil {M : Mem} : Sb M []
  | keep {p : Nat × Obj} {M M' : Mem} (h : Sb M M') : Sb (p :: M) (p :: M')
  | skip {p : Nat × Obj} {M M' : Mem} (h : Sb M M') : Sb (p :: M) M'
  | turn {M M' N : Mem} (h : M.Perm M') (h' : Sb M' N) : Sb M N
theorem Sb.perm {M M' : Mem} (h : Sb M M') : ∃ B, M.Perm (M' ++ B) := by
  induction h with
  | refl => exact ⟨[], by simp⟩
  | nil => exact ⟨_, List.Perm.refl _⟩
  | keep _ ih => obtain ⟨B, h⟩ := ih; exact ⟨B, h.cons _⟩
  | @skip p M M' _ ih => obtain ⟨B, h⟩ := ih; exact ⟨p :: B, (h.cons p).trans List.perm_middle.symm⟩
  | turn h _ ih => obtain ⟨B, h'⟩ := ih; exact ⟨B, h.trans h'⟩
theorem Sb.app : ∀ {A B : Mem}, Sb (A ++ B) A
  | [], _ => .nil
  | _ :: _, _ => .keep Sb.app
theorem Sb.app_skip : ∀ {A B C : Mem}, Sb B C → Sb (A ++ B) C
  | [], _, _, h => h
  | _ :: _, _, _, h => .skip (Sb.app_skip h)
theorem Sb.app_keep : ∀ {A B C : Mem}, Sb B C → Sb (A ++ B) (A ++ C)
  | [], _, _, h => h
  | _ :: _, _, _, h => .keep (Sb.app_keep h)
theorem sub_count {α : Type} [BEq α] [LawfulBEq α] : ∀ (N M : List α), (∀ x, N.count x ≤ M.count x) → ∃ B, M.Perm (N ++ B)
  | [], M, _ => ⟨M, List.Perm.refl _⟩
  | a :: N, M, h => by
    have ha : a ∈ M := by
      have := h a
      rw [List.count_cons_self] at this
      exact List.count_pos_iff.1 (by omega)
    have hp := List.perm_cons_erase ha
    obtain ⟨B, hB⟩ := sub_count N (M.erase a) fun x => by
      have h1 := h x
      rw [hp.count_eq x, List.count_cons, List.count_cons] at h1
      omega
    exact ⟨B, hp.trans (hB.cons a)⟩
/-- Whatever the order. -/
theorem Sb.of_cnt {M N : Mem} (h : ∀ x, @List.count (Nat × Obj) (@instBEqOfDecidableEq _ fun a b => Classical.propDecidable (a = b)) x N ≤ @List.count (Nat × Obj) (@instBEqOfDecidableEq _ fun a b => Classical.propDecidable (a = b)) x M) : Sb M N := by
  obtain ⟨B, hB⟩ := @sub_count _ (@instBEqOfDecidableEq _ fun a b => Classical.propDecidable (a = b)) (@instLawfulBEq _ fun a b => Classical.propDecidable (a = b)) N M h
  exact .turn hB .app
/-- Found by trying. -/
theorem Sb.auto {M M' : Mem} (h : Sb M M' := by first | ((repeat first | exact .refl | exact Sb.app | apply Sb.keep | apply Sb.app_keep | apply Sb.skip | apply Sb.app_skip); done) | exact Sb.of_cnt fun x => by (simp only [List.count_append, List.count_cons, List.count_nil]; omega)) : Sb M M' := h
theorem p_drop {X : Cx} {c : Code} {Q : Post} {ds : List Deferred} {fr : Fr} {M : Mem} (M' : Mem) (hs : Sb M M') (h : G X c Q ⟨ds, fr, M'⟩) : G X c Q ⟨ds, fr, M⟩ := fun a w hw => by
  obtain ⟨B, hp⟩ := hs.perm
  exact h a w ⟨hw.1, (hw.2.perm hp).drop⟩
theorem p_loopE {X : Cx} {Q : Post} {s : S} {c : Code} (h : isLoop c = true) (I : S → Nat → Prop) (h0 : ∃ m, I s m) (h1 : ∀ s m, I s m → G X (c0 c) (thenQ (fun s' => ∃ m', I s' m' ∧ m' < m) Q) s) : G X c Q s := by
  obtain ⟨m, h0⟩ := h0
  exact p_loop h I h0 h1
/-- At the end, with the memory that is left. -/
theorem ret_left {P : Program} {rv : List ResultVar} {R : Value → Mem → Prop} {fr : Fr} {M : Mem} (M' : Mem) {vs : List Value} {e : Exit} (he : e = .normal ∨ e = .ret) (hv : ResVs P ⟨[], fr, M⟩ rv vs) (hs : Sb M M') (hR : R (valOf vs) M') : retQ P rv R e ⟨[], fr, M⟩ := by
  obtain ⟨B, hp⟩ := hs.perm
  exact ⟨he, M, .inl ⟨rfl, rfl⟩, vs, M', B, hv, hp, hR⟩
/-- The state s knows all that s' tells. -/
structure Ge (s s' : S) : Prop where
  ds : s.ds = s'.ds
  fr : ∃ l, pick l s.fr = some s'.fr
  M : Sb s.M s'.M
theorem ge_ok {X : Cx} {c : Code} {Q : Post} {s s' : S} (h : Ge s s') (h1 : G X c Q s') : G X c Q s := fun a w hw => by
  obtain ⟨B, hp⟩ := h.M.perm
  obtain ⟨l, hl⟩ := h.fr
  refine h1 a w ⟨?_, (hw.2.perm hp).drop⟩
  have := hw.1.pick hl
  rw [h.ds] at this
  exact this
theorem ret_leftP {P : Program} {rv : List ResultVar} {R : Value → Mem → Prop} {fr : Fr} {M : Mem} (M' : Mem) {vs : List Value} {e : Exit} (he : e = .normal ∨ e = .ret) (hv : ResVs P ⟨[], fr, M⟩ rv vs) (hs : ∃ B, M.Perm (M' ++ B)) (hR : R (valOf vs) M') : retQ P rv R e ⟨[], fr, M⟩ := by
  obtain ⟨B, hp⟩ := hs
  exact ⟨he, M, .inl ⟨rfl, rfl⟩, vs, M', B, hv, hp, hR⟩
theorem At.of_mem {M : Mem} {b : Nat} {o : Obj} (h : (b, o) ∈ M) : At M b o := by
  induction M with
  | nil => cases h
  | cons p r ih =>
    rcases List.mem_cons.1 h with rfl | h
    · exact .here
    · exact .next (ih h)

theorem At.app {A B : Mem} {b : Nat} {o : Obj} (h : At B b o) : At (A ++ B) b o := At.of_mem (by simp [h.mem])
theorem Sel.app {A B : Mem} : Sel (A ++ B) A B := by
  induction A with
  | nil => exact .nil
  | cons p A ih => exact .cons .here ih
theorem Sel.all {A : Mem} : Sel A A [] := by
  induction A with
  | nil => exact .nil
  | cons p A ih => exact .cons .here ih
theorem Tk.app {A M M1 : Mem} {p : Nat × Obj} (h : Tk M p M1) : Tk (A ++ M) p (A ++ M1) := by
  induction A with
  | nil => exact h
  | cons q A ih => exact .next ih
theorem Sel.skip {M A B : Mem} {p : Nat × Obj} (h : Sel M A B) : Sel (p :: M) A (p :: B) := by
  induction h with
  | nil => exact .nil
  | cons t _ ih => exact .cons (.next t) ih
theorem Sel.skipA {M A B C : Mem} (h : Sel M A B) : Sel (C ++ M) A (C ++ B) := by
  induction C with
  | nil => exact h
  | cons q C ih => exact ih.skip
theorem Up.app {A M M' : Mem} {b : Nat} {o o' : Obj} (h : Up M b o o' M') : Up (A ++ M) b o o' (A ++ M') := by
  induction A with
  | nil => exact h
  | cons q A ih => exact .next ih
theorem At.auto {M : Mem} {b : Nat} {o : Obj} (h : At M b o := by repeat first | exact .here | apply At.next | apply At.app) : At M b o := h
theorem Up.auto {M M' : Mem} {b : Nat} {o o' : Obj} (h : Up M b o o' M' := by repeat first | exact .here | apply Up.next | apply Up.app) : Up M b o o' M' := h
theorem Sel.auto {M A B : Mem} (h : Sel M A B := by first | ((repeat constructor); done) | (repeat first | exact Sel.nil | exact Sel.all | exact Sel.app | (apply Sel.cons; focus (repeat first | exact Tk.here | apply Tk.next | apply Tk.app)) | apply Sel.skip | apply Sel.skipA)) : Sel M A B := h
section
variable {X : Cx} {Q : Post} {s : S} {c : Code} {ops : Array Oper} {i : Nat} {ord : List Nat} {ds : List Deferred} {fr : Fr} {M : Mem} {v : Value}
theorem go_q0 (d : Nat) (op : Op) (ty : TypeId) (hq : QV X.P op ty fr M v) (h : GO X ops ord Q ⟨ds, (d, v) :: fr, M⟩) (ho : opX ops i = some (some d, op, ty, none) := by kernel_rfl) (hd : Nat.blt d X.n = true := by rfl) : GO X ops (i :: ord) Q ⟨ds, fr, M⟩ := go_q ho trivial hd hq h
theorem go_s0 (d : Option Tmp) (op : Op) (ty : TypeId) (h : OpS X op ty d s (GO X ops ord Q)) (ho : opX ops i = some (d, op, ty, none) := by kernel_rfl) : GO X ops (i :: ord) Q s := go_s ho trivial h
theorem p_seq0 (h1 : G X (c0 c) (thenQ (G X (c1 c) Q) Q) s) (h : isSeq c = true := by kernel_rfl) : G X c Q s := p_seq h h1
theorem p_skip0 (h1 : Q .normal s) (h : isSkip c = true := by kernel_rfl) : G X c Q s := p_skip h h1
theorem p_ret0 (h1 : Q .ret s) (h : isRet c = true := by kernel_rfl) : G X c Q s := p_ret h h1
theorem p_plain0 (ord : List Nat) (h1 : GO X (opsOf c) ord Q s) (h : isPlain c = true := by kernel_rfl) (ho : List.range (opsOf c).size = ord := by kernel_rfl) : G X c Q s := p_plain h ord ho h1
end
/-- What a comparison tells. -/
class Tells (P : Prop) (Q : outParam Prop) : Prop where
  out : P → Q
theorem kn {P Q : Prop} [i : Tells P Q] (h : P) : Q := i.out h
instance (priority := low) knId {P : Prop} : Tells P P := ⟨fun h => h⟩
instance (priority := 600) knNot1 {b : Bool} : Tells ((!b) = true) (b = false) := ⟨t_not⟩
instance (priority := 600) knNot2 {b : Bool} : Tells ((!b) = false) (b = true) := ⟨f_not⟩
instance (priority := 900) knNd1 {p : Prop} [Decidable p] : Tells ((!decide p) = true) (¬ p) := ⟨t_nd⟩
instance (priority := 900) knNd2 {p : Prop} [Decidable p] : Tells ((!decide p) = false) p := ⟨f_nd⟩
instance (priority := 900) knNb1 {a b : Bool} : Tells ((!(a == b)) = true) (¬ a = b) := ⟨t_nbb⟩
instance (priority := 900) knNb2 {a b : Bool} : Tells ((!(a == b)) = false) (a = b) := ⟨f_nbb⟩
instance knEq1 {p q : Int} : Tells ((p == q) = true) (p = q) := ⟨t_eq⟩
instance knEq2 {p q : Int} : Tells ((p == q) = false) (¬ p = q) := ⟨f_eq⟩
instance knNe1 {p q : Int} : Tells ((p != q) = true) (¬ p = q) := ⟨t_ne⟩
instance knNe2 {p q : Int} : Tells ((p != q) = false) (p = q) := ⟨f_ne⟩
instance knBb1 {a b : Bool} : Tells ((a == b) = true) (a = b) := ⟨t_bb⟩
instance knBb2 {a b : Bool} : Tells ((a == b) = false) (¬ a = b) := ⟨f_bb⟩
instance knDe1 {p : Prop} [Decidable p] : Tells (decide p = true) p := ⟨of_decide_eq_true⟩
instance knDe2 {p : Prop} [Decidable p] : Tells (decide p = false) (¬ p) := ⟨of_decide_eq_false⟩
/-- How an element lies in cells. -/
structure Enc (α : Type) where
  c : α → Array Value
  n : Nat
  sz : ∀ a, (c a).size = n
def Enc.flat {α : Type} (E : Enc α) (l : List α) : List Value := l.flatMap fun a => (E.c a).toList
theorem Enc.flat_nil {α : Type} (E : Enc α) : E.flat [] = [] := rfl
theorem Enc.flat_cons {α : Type} (E : Enc α) (a : α) (l : List α) : E.flat (a :: l) = (E.c a).toList ++ E.flat l := rfl
theorem Enc.flat_append {α : Type} (E : Enc α) (l l' : List α) : E.flat (l ++ l') = E.flat l ++ E.flat l' := by simp [Enc.flat]
theorem Enc.flat_length {α : Type} (E : Enc α) (l : List α) : (E.flat l).length = l.length * E.n := by
  induction l with
  | nil => simp [Enc.flat]
  | cons a r ih => rw [E.flat_cons, List.length_append, ih, Array.length_toList, E.sz, List.length_cons, Nat.succ_mul]; omega
theorem Enc.flat_at {α : Type} (E : Enc α) : ∀ (l : List α) (i : Nat) (a : α), l[i]? = some a → ((E.flat l).drop (i * E.n)).take E.n = (E.c a).toList
  | [], i, a, h => by simp at h
  | x :: l, 0, a, h => by
    simp at h
    subst h
    rw [E.flat_cons, Nat.zero_mul, List.drop_zero, List.take_left' (by simp [E.sz])]
  | x :: l, i + 1, a, h => by
    simp at h
    rw [E.flat_cons, Nat.succ_mul, List.drop_append, List.drop_eq_nil_of_le (by simp [E.sz]), List.nil_append, Array.length_toList, E.sz, Nat.add_sub_cancel]
    exact E.flat_at l i a h

def eI (k : IntKind) : Enc Int := ⟨fun x => #[.int k x], 1, fun _ => rfl⟩

/-- The cells hold the list from off on. -/
def Holds {α : Type} (E : Enc α) (cur : Array Value) (off : Nat) (l : List α) : Prop := (cur.toList.drop off).take (l.length * E.n) = E.flat l
/-- What a slice's pointer must be for its list to be read. -/
def Lst {α : Type} (E : Enc α) (p : Option Addr) (l : List α) (M : Mem) : Prop :=
  l = [] ∨ ∃ b off cur e fz, p = some ⟨b, off, none⟩ ∧ (b, Obj.cells cur e fz) ∈ M ∧ Holds E cur off l
theorem Lst.at_ {α : Type} {E : Enc α} {p : Option Addr} {l : List α} {M : Mem} (h : Lst E p l M) {i : Nat} (hi : i < l.length) : ∃ b off cur e fz, p = some ⟨b, off, none⟩ ∧ (b, Obj.cells cur e fz) ∈ M ∧ Holds E cur off l := by
  rcases h with rfl | h
  · simp at hi
  · exact h

theorem Holds.elem {α : Type} {E : Enc α} {cur : Array Value} {off : Nat} {l : List α} (h : Holds E cur off l) {i : Nat} {a : α} (hi : l[i]? = some a) : (cur.toList.drop (off + i * E.n)).take E.n = (E.c a).toList := by
  have h1 := E.flat_at l i a hi
  rw [← h] at h1
  have hlt : i < l.length := (List.getElem?_eq_some_iff.1 hi).1
  have h2 : i * E.n + E.n ≤ l.length * E.n := by rw [← Nat.succ_mul]; exact Nat.mul_le_mul_right _ hlt
  rw [List.drop_take, List.drop_drop, List.take_take, Nat.min_eq_left (by omega)] at h1
  exact h1
theorem Holds.cell {α : Type} {E : Enc α} {cur : Array Value} {off : Nat} {l : List α} (h : Holds E cur off l) {i : Nat} {a : α} (hi : l[i]? = some a) {k : Nat} (hk : k < E.n) : cur[off + i * E.n + k]? = (E.c a)[k]? := by
  have h1 := h.elem hi
  have h2 : ((cur.toList.drop (off + i * E.n)).take E.n)[k]? = (E.c a).toList[k]? := by rw [h1]
  rw [List.getElem?_take, if_pos hk, List.getElem?_drop] at h2
  simpa using h2
theorem Holds.fits {α : Type} {E : Enc α} {cur : Array Value} {off : Nat} {l : List α} (h : Holds E cur off l) {i : Nat} {a : α} (hi : l[i]? = some a) (hn : 0 < E.n) : off + i * E.n + E.n ≤ cur.size := by
  have h1 := congrArg List.length (h.elem hi)
  simp [E.sz] at h1
  omega
/-- A field of one cell of an element is read. -/
theorem ldv_el {α : Type} {E : Enc α} {P : Program} {t : TypeId} {cur : Array Value} {off : Nat} {l : List α} (h : Holds E cur off l) {i : Nat} {a : α} (hi : l[i]? = some a) (ht : Sca P t) {k : Nat} {v : Value} (hv : (E.c a)[k]? = some v) {o : Nat} (ho : o = off + i * E.n + k) : Ldv P t cur o v := by
  subst ho
  refine ldv_sca ht ?_
  rw [h.cell hi, hv]
  have : k < (E.c a).size := (Array.getElem?_eq_some_iff.1 hv).1
  rwa [E.sz] at this
/-- An element is read whole. -/
theorem ldv_els {α : Type} {E : Enc α} {P : Program} {t : TypeId} {cur : Array Value} {off : Nat} {l : List α} (h : Holds E cur off l) {i : Nat} {a : α} (hi : l[i]? = some a) (hn : 0 < E.n) (ht : Agg P t E.n) {o : Nat} (ho : o = off + i * E.n) : Ldv P t cur o (.agg (E.c a)) := by
  subst ho
  refine ldv_agg ht ?_ (h.fits hi hn)
  apply Array.ext'
  rw [Array.toList_extract]
  have := h.elem hi
  simpa [List.extract] using this
/-- A part of an element is read. -/
theorem ldv_elp {α : Type} {E : Enc α} {P : Program} {t : TypeId} {cur : Array Value} {off : Nat} {l : List α} (h : Holds E cur off l) {i : Nat} {a : α} (hi : l[i]? = some a) {k m : Nat} {vs : Array Value} (ht : Agg P t m) (hv : (E.c a).extract k (k + m) = vs) (hk : k + m ≤ E.n) (hn : 0 < E.n) {o : Nat} (ho : o = off + i * E.n + k) : Ldv P t cur o (.agg vs) := by
  subst ho
  have hf := h.fits hi hn
  refine ldv_agg ht ?_ (by omega)
  rw [← hv]
  apply Array.ext'
  rw [Array.toList_extract, Array.toList_extract, ← h.elem hi]
  simp only [List.extract]
  rw [List.drop_take, List.drop_drop, List.take_take]
  congr 1
  omega

def OwnL {α : Type} (E : Enc α) (e : TypeId) (p : Option Addr) (cap : Nat) (l : List α) (A : Mem) : Prop := Own e E.n (.slice p l.length cap) l.length (E.flat l) A
theorem OwnL.nil {α : Type} {E : Enc α} {e : TypeId} : OwnL E e none 0 [] [] := ⟨by simp [Enc.flat], .inl ⟨rfl, rfl, rfl⟩⟩
theorem OwnL.cases {α : Type} {E : Enc α} {e : TypeId} {p : Option Addr} {cap : Nat} {l : List α} {A : Mem} (h : OwnL E e p cap l A) : (p = none ∧ cap = 0 ∧ l = [] ∧ A = []) ∨ ∃ b cur, p = some ⟨b, 0, none⟩ ∧ A = [(b, .cells cur e (0, 0))] ∧ l.length ≤ cap ∧ cap ≤ maxLen ∧ cur.size = cap * E.n ∧ Holds E cur 0 l := by
  rcases h.2 with ⟨h1, h2, h3⟩ | ⟨b, cap', cur, h1, h2, h3, h4, h5, h6⟩
  · simp at h1
    exact .inl ⟨h1.1, h1.2.2, by simpa using h2, h3⟩
  · simp at h1
    obtain ⟨rfl, rfl⟩ := h1
    exact .inr ⟨b, cur, rfl, h2, h3, h4, h5, by simpa [Holds] using h6⟩
theorem OwnL.some_ {α : Type} {E : Enc α} {e : TypeId} {p : Option Addr} {cap : Nat} {l : List α} {A : Mem} (h : OwnL E e p cap l A) (hl : 0 < l.length) : ∃ b cur, p = some ⟨b, 0, none⟩ ∧ A = [(b, .cells cur e (0, 0))] ∧ l.length ≤ cap ∧ cap ≤ maxLen ∧ cur.size = cap * E.n ∧ Holds E cur 0 l := by
  rcases h.cases with ⟨_, _, rfl, _⟩ | h
  · simp at hl
  · exact h
theorem OwnL.lst {α : Type} {E : Enc α} {e : TypeId} {p : Option Addr} {cap : Nat} {l : List α} {A : Mem} (h : OwnL E e p cap l A) : Lst E p l A := by
  rcases h.cases with ⟨rfl, _, rfl, _⟩ | ⟨b, cur, rfl, rfl, _, _, _, h⟩
  · exact .inl rfl
  · exact .inr ⟨b, 0, cur, e, (0, 0), rfl, by simp, h⟩
theorem OwnL.of_build {α : Type} {E : Enc α} {e : TypeId} {b : Nat} {cs : Array Value} {l : List α} {n : Nat} (hn : l.length = n) (hc : cs.toList = E.flat l) (hm : n ≤ maxLen) : OwnL E e (some ⟨b, 0, none⟩) n l [(b, .cells cs e (0, 0))] := by
  subst hn
  have hl := E.flat_length l
  refine ⟨hl, .inr ⟨b, l.length, cs, rfl, rfl, Nat.le_refl _, hm, ?_, ?_⟩⟩
  · rw [← hl, ← hc]; simp
  · rw [hc, ← hl]; simp
theorem Holds.whole {α : Type} {E : Enc α} {cs : Array Value} {l : List α} (hc : cs.toList = E.flat l) : Holds E cs 0 l := by
  unfold Holds
  rw [List.drop_zero, hc, ← E.flat_length l]
  simp
/-- append of a list that lies in a known block. -/
theorem os_appendL {α : Type} {E : Enc α} {X : Cx} {ty t e : TypeId} {bytes : Nat} {x y : Operand} {p : Option Addr} {cap c b2 off2 d m k : Nat} {l l2 : List α} {cs2 : Array Value} {e2 : TypeId} {fz : Nat × Nat} {ds : List Deferred} {fr : Fr} {M A B : Mem} {K : S → Prop} (hd : Nat.blt d X.n = true)
    (ht : ElT X.P t e E.n bytes) (hx : evo fr x = some (.slice p k cap)) (hk : k = l.length) (hy : evo fr y = some (.slice (some ⟨b2, off2, none⟩) m c)) (hm : m = l2.length) (ho : OwnL E e p cap l A) (hs : Sel M A B)
    (h2 : At M b2 (.cells cs2 e2 fz)) (hn : Holds E cs2 off2 l2) (h1 : ∀ a, ∀ u ∈ (E.c a).toList, u.oneCell' = true)
    (h63 : l.length + l2.length ≤ maxLen) (hby : (l.length + l2.length) * bytes ≤ 140737488355328)
    (h : ∀ p' cap' A', OwnL E e p' cap' (l ++ l2) A' → K ⟨ds, (d, .slice p' (l.length + l2.length) cap') :: fr, A' ++ B⟩) :
    OpS X (.call { callee := .builtin .append, args := #[x, y], argTypes := #[t, t] }) ty (some d) ⟨ds, fr, M⟩ K := by
  subst hk hm
  refine os_append (by simpa using hd) ht hx hy hs ho h2 (E.flat_length l2) hn ?_ h63 hby fun sv' A' h' => ?_
  · intro u hu
    obtain ⟨a, _, hu⟩ := List.mem_flatMap.1 hu
    exact h1 a u hu
  · have hsv : ∃ p' cap', sv' = .slice p' (l.length + l2.length) cap' := by
      rcases h'.2 with ⟨h1, h2, _⟩ | ⟨b, cap, cur, h1, _⟩
      · exact ⟨none, 0, by rw [h1, h2]⟩
      · exact ⟨_, _, h1⟩
    obtain ⟨p', cap', rfl⟩ := hsv
    refine h p' cap' A' ?_
    unfold OwnL
    rw [List.length_append, E.flat_append]
    exact h'

section
variable {P : Program} {fr : Fr} {M : Mem} {ty : TypeId}
theorem qv_shr {t u : TypeId} {x y : Operand} {k k' : IntKind} {p q r : Int} (hx : evo fr x = some (.int k p)) (hy : evo fr y = some (.int k' q)) (h0 : 0 ≤ q) (hr : p.fdiv (2 ^ min q.toNat k.bits) = r) : QV P (.binOp .shr t x y u) ty fr M (.int k r) :=
  hr ▸ qv_shift (.inr rfl) hx hy fun w => by unfold Op.shift; rw [if_neg (by omega)]; rfl
end

section
variable {P : Program} {fr : Fr} {M : Mem} {ty : TypeId}
end
/-- A bound that is told, or the usual one. -/
def BdO (fr : Fr) : Option Operand → Nat → Nat → Prop
  | none, d, n => n = d
  | some x, _, n => ∃ k i, evo fr x = some (.int k i) ∧ i = (n : Int)
theorem bd_none {fr : Fr} {d : Nat} : BdO fr none d d := rfl
theorem bd_some {fr : Fr} {x : Operand} {d n : Nat} {k : IntKind} {i : Int} (h : evo fr x = some (.int k i)) (hi : i = (n : Int)) : BdO fr (some x) d n := ⟨k, i, h, hi⟩
section
variable {P : Program} {fr : Fr} {M : Mem} {ty : TypeId}
theorem run_sliceBound {w : World} {k : IntKind} {n y : Nat} {c : BoundsCode} (h : n ≤ y) : (Instr.sliceBound (.int k (n : Int)) y c).run P w = .ok n w := by
  simp [Instr.sliceBound, asIntOf, Sem.run_bind, h]
theorem run_sliceBounds {n : Nat} {ds : List Deferred} {a : Act} (hf : FrOK n ds fr a) {lo hi : Option Operand} {len cap l h : Nat} {b : Bool} (hlo : BdO fr lo 0 l) (hhi : BdO fr hi len h) (h1 : l ≤ h) (h2 : h ≤ cap) (w : World) :
    (Instr.sliceBounds b len cap (lo.map a.eval) (hi.map a.eval) none).run P w = .ok (l, h, cap) w := by
  unfold Instr.sliceBounds
  cases lo with
  | none =>
    cases hi with
    | none => simp only [BdO] at hlo hhi; subst hlo hhi; simp [Sem.run_bind]
    | some y =>
      obtain ⟨k, i, hy, rfl⟩ := hhi
      simp only [BdO] at hlo; subst hlo
      simp [Sem.run_bind, hf.ev hy, run_sliceBound h2]
  | some x =>
    obtain ⟨k, i, hx, rfl⟩ := hlo
    cases hi with
    | none => simp only [BdO] at hhi; subst hhi; simp [Sem.run_bind, hf.ev hx, run_sliceBound h1]
    | some y =>
      obtain ⟨k', i', hy, rfl⟩ := hhi
      simp [Sem.run_bind, hf.ev hx, hf.ev hy, run_sliceBound h1, run_sliceBound h2]
theorem qv_slS {t e : TypeId} {x : Operand} {lo hi : Option Operand} {p : Option Addr} {len cap l h sz : Nat} (ht : P.underlying t = some (.slice e)) (hz : Siz P e sz) (hx : evo fr x = some (.slice p len cap)) (hlo : BdO fr lo 0 l) (hhi : BdO fr hi len h) (h1 : l ≤ h) (h2 : h ≤ cap) :
    QV P (.slice t x lo hi none) ty fr M (.slice (if cap = l then p else p.map (·.add (l * sz))) (h - l) (cap - l)) := fun o ho _ a w n ds hf _ =>
  ⟨by simp, by
    have hb := run_sliceBounds (P := P) (b := true) hf hlo hhi h1 h2 w
    simp only [execOp, ho, hf.ev hx, Instr.sliceAt, Instr.slice, Sem.run_bind, run_underlying ht, Result.andThen, Option.map_none, hb, hz w, Sem.run_pure]⟩
theorem qv_slA {t e : TypeId} {x : Operand} {lo hi : Option Operand} {b off N l h sz : Nat} (ht : P.underlying t = some (.array N e)) (hz : Siz P e sz) (hx : evo fr x = some (.pointer (some ⟨b, off, none⟩))) (hlo : BdO fr lo 0 l) (hhi : BdO fr hi N h) (h1 : l ≤ h) (h2 : h ≤ N) :
    QV P (.slice t x lo hi none) ty fr M (.slice (some (if N = l then ⟨b, off, none⟩ else ⟨b, off + l * sz, none⟩)) (h - l) (N - l)) := fun o ho _ a w n ds hf _ =>
  ⟨by simp, by
    have hb := run_sliceBounds (P := P) (b := false) hf hlo hhi h1 h2 w
    have hadd : (⟨b, off, none⟩ : Addr).add (l * sz) = ⟨b, off + l * sz, none⟩ := by unfold Addr.add; split <;> simp_all
    simp only [execOp, ho, hf.ev hx, Instr.sliceAt, Instr.sureAddr, Sem.run_bind, run_underlying ht, Result.andThen, Option.map_none, hb, hz w, Sem.run_pure, hadd]⟩
/-- An array's beginning. -/
theorem qv_slA0 {t e : TypeId} {x : Operand} {hi : Option Operand} {b off N h sz : Nat} (ht : P.underlying t = some (.array N e)) (hz : Siz P e sz) (hN : Nat.beq N 0 = false) (hx : evo fr x = some (.pointer (some ⟨b, off, none⟩))) (hhi : BdO fr hi N h) (h2 : h ≤ N) :
    QV P (.slice t x none hi none) ty fr M (.slice (some ⟨b, off, none⟩) h N) := by
  have := qv_slA (M := M) (ty := ty) (l := 0) ht hz hx (lo := none) rfl hhi (Nat.zero_le _) h2
  have hN' : N ≠ 0 := fun e => by subst e; cases hN
  rw [if_neg hN'] at this
  simpa using this
end
/-- A copy of elements of one cell. -/
theorem os_copy {X : Cx} {ty t t' e : TypeId} {x y : Operand} {b o dl dc b2 o2 sl sc d n : Nat} {cur cur' cs2 : Array Value} {te te2 : TypeId} {fz : Nat × Nat} {ds : List Deferred} {fr : Fr} {M M' : Mem} {K : S → Prop} (hd : Nat.blt d X.n = true)
    (ht : X.P.underlying t = some (.slice e)) (hz : (X.P.info? e).map (·.size) = some 1) (hx : evo fr x = some (.slice (some ⟨b, o, none⟩) dl dc)) (hy : evo fr y = some (.slice (some ⟨b2, o2, none⟩) sl sc)) (hn : min sl dl = n)
    (h2 : At M b2 (.cells cs2 te2 fz)) (hs : o2 + n ≤ cs2.size) (h1 : ∀ u ∈ cs2.toList, u.oneCell' = true) (hu : Up M b (.cells cur te (0, 0)) (.cells cur' te (0, 0)) M') (hfit : o + n ≤ cur.size)
    (hc : splice cur o (cs2.extract o2 (o2 + n)) = cur') (h : K ⟨ds, (d, .int .i64 n) :: fr, M'⟩) :
    OpS X (.call { callee := .builtin .copy, args := #[x, y], argTypes := #[t, t'] }) ty (some d) ⟨ds, fr, M⟩ K := by
  rintro op hop hty hdst a w ⟨hf, hC⟩
  have hb : w.heap[b]? = some (.cells cur te (0, 0)) := hC.at_ _ hu.mem
  have hb2 := hC.at_ _ h2.mem
  have hel : (cs2.extract o2 (o2 + n)).toList.length = n := by simp; omega
  have hrun := run_copy_row (P := X.P) w t t' op.type e b o dl dc ⟨b2, o2, none⟩ sl sc cur te (cs2.extract o2 (o2 + n)).toList ht hz hb (by rw [hel]; exact hn.symm) (fun j v hv => by
    have hadd : (⟨b2, o2, none⟩ : Addr).add j = ⟨b2, o2 + j, none⟩ := by unfold Addr.add; split <;> simp_all
    rw [hadd, cell_of_row w b2 _ cs2 te2 fz hb2]
    rw [Array.getElem?_toList, Array.getElem?_extract] at hv
    split at hv
    · exact hv
    · cases hv) (by rw [hel]; exact hfit) (fun u hu => h1 u (by
      rw [Array.toList_extract] at hu
      simp only [List.extract] at hu
      exact List.mem_of_mem_drop (List.mem_of_mem_take hu)))
  have he : (List.take o cur.toList ++ (cs2.extract o2 (o2 + n)).toList ++ List.drop (o + (cs2.extract o2 (o2 + n)).toList.length) cur.toList).toArray = cur' := by
    rw [← hc]
    unfold splice
    rw [Array.length_toList]
  rw [he, hel] at hrun
  refine wpIn_of_value (fun _ => trivial) (by rw [hop]; simp) (v := .int .i64 n) (w' := w.setRow b cur') ?_ ?_
  · simp only [execOp, hop, resolve, List.map_toArray, List.map_cons, List.map_nil, hf.ev hx, hf.ev hy, Sem.run_bind, Sem.run_pure, Result.andThen, invoke, builtin, hrun]
    rfl
  · rw [hdst]
    exact ⟨⟨ds, (d, .int .i64 n) :: fr, M'⟩, ⟨hf.put (by simpa using hd) _, setRow_chg hC hu⟩, h⟩
end Go.E
