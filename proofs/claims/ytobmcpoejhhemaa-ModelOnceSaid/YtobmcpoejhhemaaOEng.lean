import Derived.RangeFuncNested
import Derived.RangeFuncCalls
import Derived.Laws.Cells
import Derived.Laws.CopyRow
import Derived.Laws.Rows
import Derived.OrdersIn
import Derived.OwnWalkIn
namespace Go.E
open Go

/-- Known blocks. -/
abbrev Mem := List (Nat × Obj)
/-- Known temporaries. -/
abbrev Fr := List (Nat × Value)

def look : Fr → Nat → Option Value
  | [], _ => none
  | (t, v) :: r, s => if t == s then some v else look r s

def evo (fr : Fr) : Operand → Option Value
  | .tmp t => look fr t
  | .const v => some v
  | .global g => some (.pointer (some ⟨g, 0, none⟩))
  | .func f => some (.func (.func f) #[] #[])

def evs (fr : Fr) : List Operand → Option (List Value)
  | [] => some []
  | x :: r => match evo fr x, evs fr r with
    | some v, some vs => some (v :: vs)
    | _, _ => none
def evps (fr : Fr) : List (Nat × Operand) → Option (List (Nat × Value))
  | [] => some []
  | (i, x) :: r => match evo fr x, evps fr r with
    | some v, some vs => some ((i, v) :: vs)
    | _, _ => none

structure FrOK (n : Nat) (ds : List Deferred) (fr : Fr) (a : Act) : Prop where
  size : a.tmps.size = n
  defers : a.defers = ds
  at_ : ∀ t v, look fr t = some v → a.tmps[t]? = some v

theorem FrOK.ev {n : Nat} {ds : List Deferred} {fr : Fr} {a : Act} (h : FrOK n ds fr a) {x : Operand} {v : Value} (hx : evo fr x = some v) : a.eval x = v := by
  cases x with
  | tmp t => simp [Act.eval, h.at_ t v hx]
  | const c => simpa [evo, Act.eval] using hx
  | global g => simpa [evo, Act.eval] using hx
  | func f => simpa [evo, Act.eval] using hx

theorem FrOK.put {n : Nat} {ds : List Deferred} {fr : Fr} {a : Act} (h : FrOK n ds fr a) {d : Nat} (hd : d < n) (v : Value) : FrOK n ds ((d, v) :: fr) (a.put (some d) v) := by
  refine ⟨by simp [Act.put, h.size], h.defers, fun t u ht => ?_⟩
  simp only [look] at ht
  by_cases e : d = t
  · subst e
    simp at ht
    subst ht
    simp [Act.put, h.size, hd]
  · simp [e] at ht
    simp [Act.put, Array.getElem?_setIfInBounds_ne e]
    exact h.at_ t u ht

/-- A smaller frame. -/
def pick : List Nat → Fr → Option Fr
  | [], _ => some []
  | t :: r, fr => match look fr t, pick r fr with
    | some v, some q => some ((t, v) :: q)
    | _, _ => none

theorem look_pick {l : List Nat} {fr q : Fr} (h : pick l fr = some q) {t : Nat} {v : Value} (ht : look q t = some v) : look fr t = some v := by
  induction l generalizing q with
  | nil => simp [pick] at h; subst h; simp [look] at ht
  | cons s r ih =>
    simp only [pick] at h
    split at h
    · rename_i u q' hu hq'
      simp at h
      subst h
      simp only [look] at ht
      by_cases e : s = t
      · subst e; simp at ht; subst ht; exact hu
      · simp [e] at ht; exact ih hq' ht
    · cases h

theorem FrOK.pick {n : Nat} {ds : List Deferred} {fr q : Fr} {a : Act} (h : FrOK n ds fr a) {l : List Nat} (hp : pick l fr = some q) : FrOK n ds q a :=
  ⟨h.size, h.defers, fun t v ht => h.at_ t v (look_pick hp ht)⟩

/-- From w0, where the blocks M0 were known, to w, where the blocks M are: nothing beside M0 has turned. -/
structure Chg (w0 : World) (M0 M : Mem) (w : World) : Prop where
  os : w.os = w0.os
  tape : w.tape = w0.tape
  output : w.output = w0.output
  drawn : w0.drawn ≤ w.drawn
  size : w0.heap.size ≤ w.heap.size
  old : ∀ k, k < w0.heap.size → (∀ p ∈ M0, p.1 ≠ k) → w.heap[k]? = w0.heap[k]?
  fresh : ∀ p ∈ M, (∃ q ∈ M0, q.1 = p.1) ∨ w0.heap.size ≤ p.1
  nodup : (M.map (·.1)).Nodup
  at_ : ∀ p ∈ M, w.heap[p.1]? = some p.2

def Has (M : Mem) (w : World) : Prop := ∀ p ∈ M, w.heap[p.1]? = some p.2

theorem Chg.refl {w : World} {M : Mem} (hn : (M.map (·.1)).Nodup) (h : Has M w) : Chg w M M w :=
  ⟨rfl, rfl, rfl, Nat.le_refl _, Nat.le_refl _, fun _ _ _ => rfl, fun p hp => .inl ⟨p, hp, rfl⟩, hn, h⟩

theorem Chg.lt {w0 w : World} {M0 M : Mem} (h : Chg w0 M0 M w) : ∀ p ∈ M, p.1 < w.heap.size := fun p hp =>
  (Array.getElem?_eq_some_iff.1 (h.at_ p hp)).1

/-- The contract of a function: given the known blocks M it returns a value and known blocks. -/
def Ct (P : Program) (f : FuncId) (args : Array Value) (M : Mem) (R : Value → Mem → Prop) : Prop :=
  ∀ w, (M.map (·.1)).Nodup → Has M w → Calls P f args w fun e w' => ∃ v M', e = .returned v ∧ R v M' ∧ Chg w M M' w'

/-- A draw. -/
theorem Chg.drew {w0 w : World} {M0 M : Mem} (h : Chg w0 M0 M w) (k : Nat) : Chg w0 M0 M { w with drawn := w.drawn + k } :=
  ⟨h.os, h.tape, h.output, Nat.le_trans h.drawn (Nat.le_add_right _ _), h.size, h.old, h.fresh, h.nodup, h.at_⟩

/-- A new block. -/
theorem Chg.alloc {w0 w : World} {M0 M : Mem} (h : Chg w0 M0 M w) (o : Obj) : Chg w0 M0 ((w.heap.size, o) :: M) (w.alloc o) := by
  have hb : ∀ k, k < w.heap.size → (w.alloc o).heap[k]? = w.heap[k]? := fun k hk => heap_alloc_old w o k hk
  refine ⟨h.os, h.tape, h.output, h.drawn, by have := h.size; simp; omega, fun k hk hp => ?_, fun p hp => ?_, ?_, fun p hp => ?_⟩
  · rw [hb k (Nat.lt_of_lt_of_le hk h.size)]
    exact h.old k hk hp
  · rcases List.mem_cons.1 hp with rfl | hp
    · exact .inr h.size
    · exact h.fresh p hp
  · simp only [List.map_cons, List.nodup_cons]
    refine ⟨fun hm => ?_, h.nodup⟩
    obtain ⟨p, hp, e⟩ := List.mem_map.1 hm
    have := h.lt p hp
    omega
  · rcases List.mem_cons.1 hp with rfl | hp
    · exact heap_alloc_new w o
    · rw [hb _ (h.lt p hp)]
      exact h.at_ p hp

/-- The blocks A become A', the blocks B are as they were. -/
theorem Chg.call {w0 w w' : World} {M0 A B A' : Mem} (h : Chg w0 M0 (A ++ B) w) (k : Chg w A A' w') : Chg w0 M0 (A' ++ B) w' := by
  have hn := h.nodup
  simp only [List.map_append, List.nodup_append, List.mem_map] at hn
  have hAB : ∀ p ∈ B, ∀ q ∈ A', q.1 ≠ p.1 := fun p hp q hq e => by
    rcases k.fresh q hq with ⟨r, hr, e'⟩ | hge
    · exact hn.2.2 r.1 ⟨r, hr, rfl⟩ p.1 ⟨p, hp, rfl⟩ (e'.trans e)
    · have := h.lt p (by simp [hp])
      omega
  refine ⟨k.os.trans h.os, k.tape.trans h.tape, k.output.trans h.output, Nat.le_trans h.drawn k.drawn, Nat.le_trans h.size k.size, fun i hi hp => ?_, fun p hp => ?_, ?_, fun p hp => ?_⟩
  · rw [k.old i (Nat.lt_of_lt_of_le hi h.size) (fun p hp' e => ?_)]
    · exact h.old i hi hp
    · rcases h.fresh p (by simp [hp']) with ⟨q, hq, e'⟩ | hge
      · exact hp q hq (e'.trans e)
      · omega
  · rcases List.mem_append.1 hp with hp | hp
    · rcases k.fresh p hp with ⟨r, hr, e⟩ | hge
      · rcases h.fresh r (by simp [hr]) with ⟨q, hq, e'⟩ | hge
        · exact .inl ⟨q, hq, e'.trans e⟩
        · exact .inr (by omega)
      · exact .inr (Nat.le_trans h.size hge)
    · exact h.fresh p (by simp [hp])
  · simp only [List.map_append, List.nodup_append]
    refine ⟨k.nodup, hn.2.1, fun x hx y hy e => ?_⟩
    obtain ⟨q, hq, rfl⟩ := List.mem_map.1 hx
    obtain ⟨p, hp, rfl⟩ := List.mem_map.1 hy
    exact hAB p hp q hq e
  · rcases List.mem_append.1 hp with hp | hp
    · exact k.at_ p hp
    · rw [k.old p.1 (h.lt p (by simp [hp])) (fun q hq e => hn.2.2 q.1 ⟨q, hq, rfl⟩ p.1 ⟨p, hp, rfl⟩ e)]
      exact h.at_ p (by simp [hp])

/-- The order of the known blocks counts for nothing. -/
theorem Chg.perm {w0 w : World} {M0 M M' : Mem} (h : Chg w0 M0 M w) (hp : M.Perm M') : Chg w0 M0 M' w :=
  ⟨h.os, h.tape, h.output, h.drawn, h.size, h.old, fun p a => h.fresh p (hp.mem_iff.2 a), (hp.map _).nodup_iff.1 h.nodup, fun p a => h.at_ p (hp.mem_iff.2 a)⟩

/-- Blocks may be forgotten. -/
theorem Chg.drop {w0 w : World} {M0 A B : Mem} (h : Chg w0 M0 (A ++ B) w) : Chg w0 M0 A w := by
  have hn := h.nodup
  simp only [List.map_append, List.nodup_append, List.mem_map] at hn
  exact ⟨h.os, h.tape, h.output, h.drawn, h.size, h.old, fun p a => h.fresh p (by simp [a]), hn.1, fun p a => h.at_ p (by simp [a])⟩

theorem Chg.nodup_left {w0 w : World} {M0 A B : Mem} (h : Chg w0 M0 (A ++ B) w) : (A.map (·.1)).Nodup := h.drop.nodup

/-- One block turns. -/
theorem Chg.one {w w' : World} {b : Nat} {o o' : Obj} (h0 : w.heap[b]? = some o)
    (hos : w'.os = w.os) (htape : w'.tape = w.tape) (hout : w'.output = w.output) (hdr : w.drawn ≤ w'.drawn) (hsz : w'.heap.size = w.heap.size)
    (hb : w'.heap[b]? = some o') (hne : ∀ k, k ≠ b → w'.heap[k]? = w.heap[k]?) : Chg w [(b, o)] [(b, o')] w' :=
  ⟨hos, htape, hout, hdr, Nat.le_of_eq hsz.symm, fun k _ hp => hne k (fun e => hp (b, o) (by simp) e.symm), fun p hp => .inl ⟨(b, o), by simp, by simp at hp; rw [hp]⟩, by simp, fun p hp => by simp at hp; subst hp; exact hb⟩

/-- A block taken out of the known ones. -/
inductive Tk : Mem → Nat × Obj → Mem → Prop
  | here {p : Nat × Obj} {r : Mem} : Tk (p :: r) p r
  | next {p q : Nat × Obj} {r r' : Mem} (h : Tk r p r') : Tk (q :: r) p (q :: r')
theorem Tk.perm {M r : Mem} {p : Nat × Obj} (h : Tk M p r) : M.Perm (p :: r) := by
  induction h with
  | here => exact List.Perm.refl _
  | next _ ih => exact (ih.cons _).trans (List.Perm.swap _ _ _)
theorem Tk.mem {M r : Mem} {p : Nat × Obj} (h : Tk M p r) : p ∈ M := h.perm.mem_iff.2 (by simp)
/-- A known block. -/
inductive At : Mem → Nat → Obj → Prop
  | here {b : Nat} {o : Obj} {r : Mem} : At ((b, o) :: r) b o
  | next {b : Nat} {o : Obj} {q : Nat × Obj} {r : Mem} (h : At r b o) : At (q :: r) b o
theorem At.mem {M : Mem} {b : Nat} {o : Obj} (h : At M b o) : (b, o) ∈ M := by
  induction h with
  | here => simp
  | next _ ih => simp [ih]
/-- Several. -/
inductive Sel : Mem → Mem → Mem → Prop
  | nil {M : Mem} : Sel M [] M
  | cons {M M1 A B : Mem} {p : Nat × Obj} (h : Tk M p M1) (hs : Sel M1 A B) : Sel M (p :: A) B
theorem Sel.perm {M A B : Mem} (h : Sel M A B) : M.Perm (A ++ B) := by
  induction h with
  | nil => exact List.Perm.refl _
  | cons h _ ih => exact h.perm.trans (ih.cons _)
theorem Sel.append {M A A' B C : Mem} (h : Sel M A B) (h' : Sel B A' C) : Sel M (A ++ A') C := by
  induction h with
  | nil => exact h'
  | cons t _ ih => exact .cons t (ih h')
/-- One block's contents exchanged. -/
inductive Up : Mem → Nat → Obj → Obj → Mem → Prop
  | here {b : Nat} {o o' : Obj} {r : Mem} : Up ((b, o) :: r) b o o' ((b, o') :: r)
  | next {b : Nat} {o o' : Obj} {q : Nat × Obj} {r r' : Mem} (h : Up r b o o' r') : Up (q :: r) b o o' (q :: r')
theorem Up.perm {M M' : Mem} {b : Nat} {o o' : Obj} (h : Up M b o o' M') : ∃ r, M.Perm ((b, o) :: r) ∧ M'.Perm ((b, o') :: r) := by
  induction h with
  | here => exact ⟨_, List.Perm.refl _, List.Perm.refl _⟩
  | next _ ih =>
    obtain ⟨r, h1, h2⟩ := ih
    exact ⟨_ :: r, (h1.cons _).trans (List.Perm.swap _ _ _), (h2.cons _).trans (List.Perm.swap _ _ _)⟩
theorem Chg.up {w0 w w' : World} {M0 M M' : Mem} {b : Nat} {o o' : Obj} (h : Chg w0 M0 M w) (u : Up M b o o' M')
    (hos : w'.os = w.os) (htape : w'.tape = w.tape) (hout : w'.output = w.output) (hdr : w.drawn ≤ w'.drawn) (hsz : w'.heap.size = w.heap.size)
    (hb : w'.heap[b]? = some o') (hne : ∀ k, k ≠ b → w'.heap[k]? = w.heap[k]?) : Chg w0 M0 M' w' := by
  obtain ⟨r, h1, h2⟩ := u.perm
  have h3 := h.perm h1
  have h0 := h3.at_ (b, o) (by simp)
  exact (Chg.call (A := [(b, o)]) (B := r) h3 (Chg.one h0 hos htape hout hdr hsz hb hne)).perm h2.symm


structure Cx where
  P : Program
  rd : Option Nat
  w0 : World
  M0 : Mem
  n : Nat

structure S where
  ds : List Deferred
  fr : Fr
  M : Mem

def S.ok (X : Cx) (s : S) (a : Act) (w : World) : Prop := FrOK X.n s.ds s.fr a ∧ Chg X.w0 X.M0 s.M w

abbrev Post := Exit → S → Prop

def notP : Exit → Prop
  | .panic _ => False
  | _ => True

def lift (X : Cx) (Q : Post) : Exit → Act → World → Prop := fun e a w => notP e ∧ ∃ s, s.ok X a w ∧ Q e s

def FW (r : Option Nat) : Fence := { fn := fun _ => True, depth := none, alive := false, round := r }

/-- The code c, walked from the state s. -/
def G (X : Cx) (c : Code) (Q : Post) (s : S) : Prop := ∀ a w, s.ok X a w → c.wpIn (FW X.rd) 0 X.P (lift X Q) a w

def thenQ (K : S → Prop) (Q : Post) : Post := fun e s => match e with
  | .normal => K s
  | e => Q e s

theorem g_mono {X : Cx} {c : Code} {Q Q' : Post} {s : S} (h : G X c Q s) (hq : ∀ e s, Q e s → Q' e s) : G X c Q' s :=
  fun a w hs => wpIn_mono (h a w hs) fun e a w ⟨hp, s, hs, q⟩ => ⟨hp, s, hs, hq e s q⟩

theorem g_seq {X : Cx} {c d : Code} {Q : Post} {s : S} (h : G X c (thenQ (G X d Q) Q) s) : G X (.seq c d) Q s := fun a w hs => by
  refine wpIn_seq (wpIn_mono (h a w hs) ?_)
  rintro e a w ⟨hp, s, hs, q⟩
  cases e with
  | normal => exact q a w hs
  | _ => exact ⟨hp, s, hs, q⟩

theorem g_skip {X : Cx} {Q : Post} {s : S} (h : Q .normal s) : G X .skip Q s := fun _ _ hs => wpIn_skip ⟨trivial, s, hs, h⟩
theorem g_ret {X : Cx} {Q : Post} {s : S} (h : Q .ret s) : G X .ret Q s := fun _ _ hs => wpIn_ret ⟨trivial, s, hs, h⟩
theorem g_exit {X : Cx} {Q : Post} {s : S} {id : Nat} (h : Q (.exit id) s) : G X (.exit id) Q s := fun _ _ hs => wpIn_exit ⟨trivial, s, hs, h⟩

theorem g_cond {X : Cx} {Q : Post} {s : S} {x : Operand} {c d : Code} {b : Bool} (hx : evo s.fr x = some (.bool b)) (ht : b = true → G X c Q s) (hf : b = false → G X d Q s) :
    G X (.cond x c d) Q s := fun a w hs => by
  cases b with
  | true => exact wpIn_cond (hs.1.ev hx) (ht rfl a w hs)
  | false => exact wpIn_cond (hs.1.ev hx) (hf rfl a w hs)

def inBlockQ (id : Nat) (Q : Post) : Post := fun e s => match e with
  | .exit i => if i = id then Q .normal s else Q (.exit i) s
  | e => Q e s

theorem g_block {X : Cx} {Q : Post} {s : S} {id : Nat} {c : Code} (h : G X c (inBlockQ id Q) s) : G X (.block id c) Q s := fun a w hs => by
  refine wpIn_block (wpIn_mono (h a w hs) ?_)
  rintro e a w ⟨hp, s, hs, q⟩
  cases e with
  | exit i =>
    simp only [inBlockQ] at q
    simp only [Exit.inBlock]
    split at q
    · rename_i e; rw [if_pos e]; exact ⟨trivial, s, hs, q⟩
    · rename_i e; rw [if_neg e]; exact ⟨trivial, s, hs, q⟩
  | _ => exact ⟨hp, s, hs, q⟩

/-- A loop: I says what holds at each round's head. -/
theorem g_loop {X : Cx} {Q : Post} {s : S} {c : Code} (I : S → Nat → Prop) {m : Nat} (h0 : I s m)
    (h : ∀ s m, I s m → G X c (thenQ (fun s' => ∃ m', I s' m' ∧ m' < m) Q) s) : G X (.loop c) Q s := by
  intro a w hs b k cs hro hb hr
  have key : ∀ m a w s, s.ok X a w → I s m →
      ∃ e a' w', lift X Q e a' w' ∧ ArrivesIn (Machine.fenced X.P (FW X.rd)) X.P (lone (b.atR a (.code c :: .inLoop c :: k)) cs w) b k cs e a' w' := by
    intro m
    induction m using Nat.strongRecOn with
    | _ m ih =>
      intro a w s hs hI
      obtain ⟨e, a₁, w₁, ⟨hp, s₁, hs₁, hq⟩, harr⟩ := h s m hI a w hs b (.inLoop c :: k) cs hro hb hr
      cases e with
      | normal =>
        obtain ⟨m', hI', hlt⟩ := hq
        obtain ⟨e₂, a₂, w₂, hq₂, harr₂⟩ := ih m' hlt a₁ w₁ s₁ hs₁ hI'
        exact ⟨e₂, a₂, w₂, hq₂, .of_steps (StepsIn.trans harr (.one (fenced_calm hb hr rfl) stepR_inLoop)) harr₂⟩
      | exit id => exact ⟨_, a₁, w₁, ⟨hp, s₁, hs₁, hq⟩, .pass (x := .inLoop c) rfl (fun _ _ => .inl (by simp)) harr⟩
      | goto l => exact ⟨_, a₁, w₁, ⟨hp, s₁, hs₁, hq⟩, .pass (x := .inLoop c) rfl (fun _ _ => .inl (by simp)) harr⟩
      | ret => exact ⟨_, a₁, w₁, ⟨hp, s₁, hs₁, hq⟩, .pass (x := .inLoop c) rfl (fun _ _ => .inl (by simp)) harr⟩
      | panic ch => exact ⟨_, a₁, w₁, ⟨hp, s₁, hs₁, hq⟩, .pass (x := .inLoop c) rfl (fun _ _ => .inl (by simp)) harr⟩
      | outgrown => exact ⟨_, a₁, w₁, ⟨hp, s₁, hs₁, hq⟩, .pass (x := .inLoop c) rfl (fun _ _ => .inl (by simp)) harr⟩
  obtain ⟨e, a', w', hq, harr⟩ := key m a w s hs h0
  exact ⟨e, a', w', hq, .of_steps (.one (fenced_calm hb hr rfl) stepR_loop) harr⟩


def opX (ops : Array Oper) (i : Nat) : Option (Option Tmp × Op × TypeId × Option (Nat × Bool)) := (ops[i]?).map fun o => (o.dst, o.op, o.type, o.guard)
def dstX (ops : Array Oper) (i : Nat) : Option Tmp := (ops[i]?).bind (·.dst)

theorem opX_some {ops : Array Oper} {i : Nat} {d : Option Tmp} {op : Op} {ty : TypeId} {g : Option (Nat × Bool)} (h : opX ops i = some (d, op, ty, g)) :
    ∃ o, ops[i]? = some o ∧ o.dst = d ∧ o.op = op ∧ o.type = ty ∧ o.guard = g := by
  unfold opX at h
  cases ho : ops[i]? with
  | none => simp [ho] at h
  | some o =>
    simp [ho] at h
    exact ⟨o, rfl, h.1, h.2.1, h.2.2.1, h.2.2.2⟩

/-- The guard lets the operation run. -/
def Gd (ops : Array Oper) (fr : Fr) : Option (Nat × Bool) → Prop
  | none => True
  | some (j, want) => ∃ d, dstX ops j = some d ∧ look fr d = some (.bool want)
def notB : Value → Bool → Bool
  | .bool b, want => b != want
  | _, _ => true
/-- The guard lets it not. -/
def Gn (ops : Array Oper) (fr : Fr) : Option (Nat × Bool) → Prop
  | none => False
  | some (j, want) => ∃ d v, dstX ops j = some d ∧ look fr d = some v ∧ notB v want = true

theorem wanted_of {ops : Array Oper} {fr : Fr} {o : Oper} {n : Nat} {ds : List Deferred} {a : Act} (h : FrOK n ds fr a) (hg : Gd ops fr o.guard) : Region.wanted o (yielded ops a.tmps) = true := by
  unfold Region.wanted
  cases hgo : o.guard with
  | none => rfl
  | some p =>
    obtain ⟨j, want⟩ := p
    rw [hgo] at hg
    obtain ⟨d, hd, hl⟩ := hg
    have hd' : ((ops[j]?).bind (·.dst)) = some d := hd
    simp [yielded, hd', h.at_ d _ hl]

theorem unwanted_of {ops : Array Oper} {fr : Fr} {o : Oper} {n : Nat} {ds : List Deferred} {a : Act} (h : FrOK n ds fr a) (hg : Gn ops fr o.guard) : Region.wanted o (yielded ops a.tmps) = false := by
  unfold Region.wanted
  cases hgo : o.guard with
  | none => rw [hgo] at hg; exact hg.elim
  | some p =>
    obtain ⟨j, want⟩ := p
    rw [hgo] at hg
    obtain ⟨d, v, hd, hl, hv⟩ := hg
    have hd' : ((ops[j]?).bind (·.dst)) = some d := hd
    simp only [yielded, hd', Option.bind_some, h.at_ d _ hl]
    cases v <;> simp_all [notB]

/-- An operation that yields v, and does nothing else, wherever the blocks M lie. -/
def QV (P : Program) (op : Op) (ty : TypeId) (fr : Fr) (M : Mem) (v : Value) : Prop :=
  ∀ o : Oper, o.op = op → o.type = ty → ∀ (a : Act) (w : World) (n : Nat) (ds : List Deferred), FrOK n ds fr a → Has M w → (∀ c, op ≠ .defer c) ∧ (execOp a.eval o).run P w = .ok (.value v) w

/-- One step of an operation from the state s. -/
def OpS (X : Cx) (op : Op) (ty : TypeId) (d : Option Tmp) (s : S) (K : S → Prop) : Prop :=
  ∀ o : Oper, o.op = op → o.type = ty → o.dst = d → ∀ a w, s.ok X a w →
    o.wpIn (FW X.rd) 0 X.P a w (fun a' w' => ∃ s', s'.ok X a' w' ∧ K s') (fun _ _ _ => False)

theorem wpIn_of_value {F : Fence} {n : Nat} {P : Program} {o : Oper} {a : Act} {w w' : World} {v : Value} {K : Act → World → Prop} {Q : Exit → Act → World → Prop} (hF : ∀ f, F.fn f) (hnd : ∀ c, o.op ≠ .defer c)
    (hr : (execOp a.eval o).run P w = .ok (.value v) w') (hK : K (a.put o.dst v) w') : o.wpIn F n P a w K Q := by
  refine ⟨fun f _ => hF f, ?_⟩
  rw [Oper.semAt_eq _ _ _ hnd, hr]
  exact hK

theorem wpIn_of_skip {F : Fence} {n : Nat} {P : Program} {o : Oper} {a : Act} {w w' : World} {K : Act → World → Prop} {Q : Exit → Act → World → Prop} (hF : ∀ f, F.fn f) (hnd : ∀ c, o.op ≠ .defer c)
    (hr : (execOp a.eval o).run P w = .ok .skip w') (hK : K (a.put o.dst undef) w') : o.wpIn F n P a w K Q := by
  refine ⟨fun f _ => hF f, ?_⟩
  rw [Oper.semAt_eq _ _ _ hnd, hr]
  exact hK

theorem os_of_qv {X : Cx} {op : Op} {ty : TypeId} {d : Nat} {ds : List Deferred} {fr : Fr} {M : Mem} {v : Value} {K : S → Prop} (hd : d < X.n) (hq : QV X.P op ty fr M v) (h : K ⟨ds, (d, v) :: fr, M⟩) :
    OpS X op ty (some d) ⟨ds, fr, M⟩ K := by
  rintro o hop hty hdst a w ⟨hf, hc⟩
  obtain ⟨hnd, hr⟩ := hq o hop hty a w X.n ds hf hc.at_
  refine wpIn_of_value (fun _ => trivial) (hop ▸ hnd) hr ?_
  rw [hdst]
  exact ⟨⟨ds, (d, v) :: fr, M⟩, ⟨hf.put hd v, hc⟩, h⟩

theorem Oper.wpIn_monoQ {F : Fence} {n : Nat} {P : Program} {o : Oper} {a : Act} {w : World} {K : Act → World → Prop} {Q Q' : Exit → Act → World → Prop} (hQ : ∀ e a w, Q e a w → Q' e a w)
    (h : o.wpIn F n P a w K Q) : o.wpIn F n P a w K Q' := by
  unfold Oper.wpIn at *
  refine ⟨h.1, ?_⟩
  have h2 := h.2
  generalize (o.semAt F.round a.eval).run P w = r at *
  have lets : LetsOut Q → LetsOut Q' := fun ⟨a, w, q⟩ => ⟨a, w, hQ _ _ _ q⟩
  cases r with
  | ok x w' =>
    cases x <;> simp only [Oper.uponIn] at h2 ⊢ <;>
      first
        | exact h2
        | exact ⟨h2.1, CallsIn.mono h2.2 (fun e w'' he => by cases e <;> first | exact he | exact hQ _ _ _ he | exact lets he)⟩
        | exact ⟨h2.1, RoundIn.mono h2.2 (fun e w'' he => by cases e <;> first | exact he | exact hQ _ _ _ he | exact lets he)⟩
  | halt x w' => cases x <;> simp only [Oper.uponIn] at h2 ⊢ <;> first | exact h2 | exact hQ _ _ _ h2

/-- The operations of a region, in the order ord, from the state s. -/
def GO (X : Cx) (ops : Array Oper) (ord : List Nat) (Q : Post) (s : S) : Prop :=
  ∀ a w, s.ok X a w → wpOpsIn (FW X.rd) 0 X.P ops (lift X Q) ord a w

theorem g_region {X : Cx} {id : Nat} {ops : Array Oper} {Q : Post} {s : S} (h : GO X ops (List.range ops.size) Q s) : G X (.region id ops false) Q s :=
  fun a w hs => wpIn_region (h a w hs)

theorem go_nil {X : Cx} {ops : Array Oper} {Q : Post} {s : S} (h : Q .normal s) : GO X ops [] Q s := fun _ _ hs => ⟨trivial, s, hs, h⟩

theorem go_s {X : Cx} {ops : Array Oper} {i : Nat} {ord : List Nat} {Q : Post} {s : S} {d : Option Tmp} {op : Op} {ty : TypeId} {g : Option (Nat × Bool)} (ho : opX ops i = some (d, op, ty, g)) (hg : Gd ops s.fr g)
    (h : OpS X op ty d s (GO X ops ord Q)) : GO X ops (i :: ord) Q s := fun a w hs => by
  obtain ⟨o, h0, h1, h2, h3, h4⟩ := opX_some ho
  rw [wpOpsIn_cons]
  unfold wpOpIn
  simp only [h0]
  rw [if_pos (wanted_of hs.1 (by rw [h4]; exact hg))]
  refine Oper.wpIn_mono ?_ (Oper.wpIn_monoQ (fun _ _ _ q => q.elim) (h o h2 h3 h1 a w hs))
  rintro a' w' ⟨s', hs', hk⟩
  exact hk a' w' hs'

theorem go_q {X : Cx} {ops : Array Oper} {i : Nat} {ord : List Nat} {Q : Post} {ds : List Deferred} {fr : Fr} {M : Mem} {d : Nat} {op : Op} {ty : TypeId} {g : Option (Nat × Bool)} {v : Value}
    (ho : opX ops i = some (some d, op, ty, g)) (hg : Gd ops fr g) (hd : Nat.blt d X.n = true) (hq : QV X.P op ty fr M v) (h : GO X ops ord Q ⟨ds, (d, v) :: fr, M⟩) : GO X ops (i :: ord) Q ⟨ds, fr, M⟩ :=
  go_s ho hg (os_of_qv (by simpa using hd) hq h)

theorem go_n {X : Cx} {ops : Array Oper} {i : Nat} {ord : List Nat} {Q : Post} {ds : List Deferred} {fr : Fr} {M : Mem} {d : Nat} {op : Op} {ty : TypeId} {g : Option (Nat × Bool)}
    (ho : opX ops i = some (some d, op, ty, g)) (hg : Gn ops fr g) (hd : Nat.blt d X.n = true) (h : GO X ops ord Q ⟨ds, (d, undef) :: fr, M⟩) : GO X ops (i :: ord) Q ⟨ds, fr, M⟩ := fun a w hs => by
  obtain ⟨o, h0, h1, h2, h3, h4⟩ := opX_some ho
  rw [wpOpsIn_cons]
  unfold wpOpIn
  simp only [h0]
  rw [if_neg (by rw [unwanted_of hs.1 (by rw [h4]; exact hg)]; simp)]
  refine ⟨fun _ _ => trivial, h _ _ ⟨?_, hs.2⟩⟩
  rw [h1]
  exact hs.1.put (by simpa using hd) undef

theorem g_weaken {X : Cx} {c : Code} {Q : Post} {ds : List Deferred} {fr fr' : Fr} {M : Mem} (l : List Nat) (hp : pick l fr = some fr') (h : G X c Q ⟨ds, fr', M⟩) : G X c Q ⟨ds, fr, M⟩ :=
  fun a w hs => h a w ⟨hs.1.pick hp, hs.2⟩


/-- What a result is read as. -/
inductive ResV (P : Program) (s : S) : ResultVar → Value → Prop
  | tmp {t : Tmp} {v : Value} (h : look s.fr t = some v) : ResV P s (.tmp t) v
  | cell {t : Tmp} {ty : TypeId} {v : Value} {b off : Nat} {cs : Array Value} {e : TypeId} {fz : Nat × Nat} (h : look s.fr t = some (.pointer (some ⟨b, off, none⟩))) (hm : (b, Obj.cells cs e fz) ∈ s.M)
      (hv : ∀ w, w.heap[b]? = some (.cells cs e fz) → (loadVar ty ⟨b, off, none⟩).run P w = .ok v w) : ResV P s (.cell t ty) v

def rdRes (tmps : Array Value) : ResultVar → Sem Value
  | .tmp t => pure (tmps.getD t undef)
  | .cell p t => do loadVar t (← asAddr (tmps.getD p undef))

theorem results_eq (fn : Func) (tmps : Array Value) : results fn tmps = (do let vs ← fn.results.mapM (rdRes tmps); pure (if h : vs.size = 1 then vs[0] else .tuple vs)) := by
  unfold results
  congr 1

theorem ResV.run {P : Program} {s : S} {r : ResultVar} {v : Value} (h : ResV P s r v) {n : Nat} {a : Act} {w : World} (hf : FrOK n s.ds s.fr a) (hm : Has s.M w) :
    (rdRes a.tmps r).run P w = .ok v w := by
  cases h with
  | tmp h => simp [rdRes, hf.at_ _ _ h]
  | cell h hm' hv =>
    have := hv w (hm _ hm')
    simp [rdRes, hf.at_ _ _ h, asAddr, Sem.run_bind, this]

def valOf : List Value → Value
  | [v] => v
  | vs => .tuple vs.toArray

inductive ResVs (P : Program) (s : S) : List ResultVar → List Value → Prop
  | nil : ResVs P s [] []
  | cons {r : ResultVar} {v : Value} {rs : List ResultVar} {vs : List Value} (h : ResV P s r v) (hs : ResVs P s rs vs) : ResVs P s (r :: rs) (v :: vs)

theorem ResVs.run {P : Program} {s : S} {rs : List ResultVar} {vs : List Value} (h : ResVs P s rs vs) {n : Nat} {a : Act} {w : World} (hf : FrOK n s.ds s.fr a) (hm : Has s.M w) :
    (rs.mapM (rdRes a.tmps)).run P w = .ok vs w := by
  induction h with
  | nil => simp
  | cons h _ ih =>
    rw [List.mapM_cons]
    have := h.run hf hm
    simp only [Sem.run_bind, Sem.run_pure, Result.andThen, this, ih]

theorem results_run {P : Program} {s : S} {fn : Func} {vs : List Value} (h : ResVs P s fn.results.toList vs) {n : Nat} {a : Act} {w : World} (hf : FrOK n s.ds s.fr a) (hm : Has s.M w) :
    (results fn a.tmps).run P w = .ok (valOf vs) w := by
  have h1 := h.run hf hm
  rw [results_eq]
  obtain ⟨rs, hrs⟩ : ∃ rs, fn.results = List.toArray rs := ⟨fn.results.toList, by simp⟩
  rw [hrs] at h1 ⊢
  rw [List.mapM_toArray]
  simp only [List.toList_toArray] at h1
  simp only [Sem.run_bind, map_eq_pure_bind, h1, Result.andThen, Sem.run_pure]
  congr 1
  match vs with
  | [] => rfl
  | [v] => rfl
  | v :: u :: r => simp [valOf]

def argFr : Nat → List Value → Fr
  | _, [] => []
  | i, v :: r => (i, v) :: argFr (i + 1) r

theorem argFr_at : ∀ (l : List Value) (i t : Nat) (v : Value), look (argFr i l) t = some v → i ≤ t ∧ l[t - i]? = some v
  | [], _, _, _, h => by simp [argFr, look] at h
  | u :: r, i, t, v, h => by
    simp only [argFr, look] at h
    by_cases e : i = t
    · subst e; simp at h; simp [h]
    · simp [e] at h
      obtain ⟨h1, h2⟩ := argFr_at r (i + 1) t v h
      refine ⟨by omega, ?_⟩
      rw [show t - i = (t - (i + 1)) + 1 by omega]
      simpa using h2

def mark (D : Nat) : Deferred := { target := .collected D, args := #[] }

/-- What a body's walk must come to. -/
def retQ (P : Program) (rv : List ResultVar) (R : Value → Mem → Prop) : Post := fun e s =>
  (e = .normal ∨ e = .ret) ∧ ∃ N, ((s.ds = [] ∧ s.M = N) ∨ ∃ D, s.ds = [mark D] ∧ s.M.Perm ((D, .deferred (some [])) :: N)) ∧
    ∃ vs M' B, ResVs P ⟨[], s.fr, N⟩ rv vs ∧ N.Perm (M' ++ B) ∧ R (valOf vs) M'

theorem ct_of {P : Program} {f : FuncId} {fn : Func} {c : Code} {args : List Value} {M : Mem} {R : Value → Mem → Prop} {n : Nat} {rv : List ResultVar} {fr : Fr}
    (hf : P.funcs[f]? = some fn) (hb : fn.body = some c) (hn : fn.ntmps = n) (hr : fn.results = rv.toArray) (ha : args.length ≤ n) (hfr : argFr 0 args = fr)
    (h : ∀ w0, G ⟨P, none, w0, M, n⟩ c (retQ P rv R) ⟨[], fr, M⟩) : Ct P f args.toArray M R := fun w hnd hM => by
  refine callsIn_wide.1 (?_ : CallsIn (FW none) 0 P f args.toArray w _)
  refine callsIn_of_wp_marks hf hb trivial ?_ rfl
  refine wpIn_mono (h w _ w ⟨⟨?_, rfl, ?_⟩, Chg.refl hnd hM⟩) ?_
  · simp [hn]; omega
  · intro t v ht
    rw [← hfr] at ht
    obtain ⟨_, h2⟩ := argFr_at _ _ _ _ ht
    have hlt : t < args.length := by
      rcases Nat.lt_or_ge t args.length with h | h
      · exact h
      · simp [List.getElem?_eq_none h] at h2
    simp at h2
    simp [Array.getElem?_append, hlt]
    simpa [hlt] using h2
  · rintro e a w' ⟨_, s, ⟨hF, hC⟩, he, N, hN, vs, M', B, hvs, hp, hR⟩
    have fin : ∀ w'', Chg w M N w'' → ∃ v, (results fn a.tmps).run P w'' = .ok v w'' ∧ ∃ v' M', Ending.returned v = .returned v' ∧ R v' M' ∧ Chg w M M' w'' := fun w'' hC' => by
      refine ⟨valOf vs, results_run (s := ⟨[], s.fr, N⟩) (by rw [hr]; simpa using hvs) (n := n) (a := { a with defers := [] }) ⟨hF.size, rfl, hF.at_⟩ hC'.at_, _, M', rfl, hR, (hC'.perm hp).drop⟩
    have main : LeavesInM (FW none) 0 P fn a.tmps (fun e w' => ∃ v M', e = .returned v ∧ R v M' ∧ Chg w M M' w') a.defers .returning w' := by
      rw [hF.defers]
      rcases hN with ⟨hds, rfl⟩ | ⟨D, hds, hperm⟩
      · rw [hds]
        exact fin w' hC
      · rw [hds]
        have hC2 := hC.perm hperm
        have hD := hC2.at_ _ (List.mem_cons_self ..)
        refine ⟨by simp, .inl ⟨D, _, rfl, run_takeDeferred hD, ?_⟩⟩
        have hC3 : Chg w M ((D, Obj.deferred none) :: N) (w'.putObj D (.deferred none)) :=
          hC2.up .here rfl rfl rfl (Nat.le_refl _) (by simp) (World.putObj_heap_same (hC2.lt _ (List.mem_cons_self ..))) (fun k hk => World.putObj_heap_other hk)
        exact fin _ ((hC3.perm (M' := N ++ [(D, Obj.deferred none)]) (by simpa using List.perm_append_comm (l₁ := [(D, Obj.deferred none)]) (l₂ := N))).drop)
    rcases he with rfl | rfl <;> exact main

def Sca (P : Program) (t : TypeId) : Prop := ∀ w, (isAgg t).run P w = .ok false w
def Agg (P : Program) (t : TypeId) (n : Nat) : Prop := (∀ w, (isAgg t).run P w = .ok true w) ∧ ∀ w, (sizeOf t).run P w = .ok n w
def Siz (P : Program) (t : TypeId) (n : Nat) : Prop := ∀ w, (sizeOf t).run P w = .ok n w
def Zer (P : Program) (t : TypeId) (v : Value) : Prop := ∀ w, (zeroValue t).run P w = .ok v w
/-- Field f of the struct type t lies at off. -/
def Fld (P : Program) (t : TypeId) (f off : Nat) : Prop := ∀ w b o, (Instr.fieldAt t (.pointer (some ⟨b, o, none⟩)) f).run P w = .ok (.pointer (some ⟨b, o + off, none⟩)) w

/-- Cells, read as a variable of the type t at off, are v. -/
def Ldv (P : Program) (t : TypeId) (cs : Array Value) (off : Nat) (v : Value) : Prop := ∀ w b e fz, w.heap[b]? = some (Obj.cells cs e fz) → (loadVar t ⟨b, off, none⟩).run P w = .ok v w

theorem ldv_sca {P : Program} {t : TypeId} {cs : Array Value} {off : Nat} {v : Value} (ht : Sca P t) (h : cs[off]? = some v) : Ldv P t cs off v := fun w b e fz hb => by
  have hc : w.cell? ⟨b, off, none⟩ = some v := (cell_of_row w b off cs e fz hb).trans h
  unfold loadVar
  rw [Sem.run_bind, ht w]
  simp [Result.andThen, load, Sem.run, hc]

theorem ldv_agg {P : Program} {t : TypeId} {cs : Array Value} {off n : Nat} {vs : Array Value} (ht : Agg P t n) (h : cs.extract off (off + n) = vs) (hn : off + n ≤ cs.size) : Ldv P t cs off (.agg vs) := fun w b e fz hb => by
  have hl : (loadCells ⟨b, off, none⟩ n).run P w = .ok vs w := by
    have hlen : vs.toList.length = n := by rw [← h]; simp; omega
    have := run_loadCells_list (P := P) w ⟨b, off, none⟩ vs.toList (fun j v hv => by
      have hadd : (⟨b, off, none⟩ : Addr).add j = ⟨b, off + j, none⟩ := by unfold Addr.add; split <;> simp_all
      rw [hadd, cell_of_row w b _ cs e fz hb]
      have hj : j < n := by rcases Nat.lt_or_ge j n with h | h; exact h; rw [List.getElem?_eq_none (by omega)] at hv; cases hv
      rw [Array.getElem?_toList, ← h, Array.getElem?_extract] at hv
      split at hv
      · exact hv
      · cases hv)
    rw [hlen] at this
    simpa using this
  unfold loadVar
  rw [Sem.run_bind, ht.1 w]
  simp only [Result.andThen, if_true, Sem.run_bind, ht.2 w, hl, Sem.run_pure]

section
variable {P : Program} {fr : Fr} {M : Mem} {ty : TypeId}

theorem qv_move {x : Operand} {v : Value} (hx : evo fr x = some v) : QV P (.move x) ty fr M v := fun o ho _ a w n ds hf _ => ⟨by simp, by simp [execOp, ho, hf.ev hx]⟩
theorem qv_assign {x : Operand} {v : Value} (hx : evo fr x = some v) : QV P (.assign x) ty fr M v := fun o ho _ a w n ds hf _ => ⟨by simp, by simp [execOp, ho, hf.ev hx]⟩
theorem qv_pick_t {c x y : Operand} {v : Value} (hc : evo fr c = some (.bool true)) (hx : evo fr x = some v) : QV P (.pick c x y) ty fr M v := fun o ho _ a w n ds hf _ =>
  ⟨by simp, by simp [execOp, ho, hf.ev hx, hf.ev hc, asBool]⟩
theorem qv_pick_f {c x y : Operand} {v : Value} (hc : evo fr c = some (.bool false)) (hy : evo fr y = some v) : QV P (.pick c x y) ty fr M v := fun o ho _ a w n ds hf _ =>
  ⟨by simp, by simp [execOp, ho, hf.ev hy, hf.ev hc, asBool]⟩
theorem qv_load {t : TypeId} {x : Operand} {b off : Nat} {cs : Array Value} {e : TypeId} {fz : Nat × Nat} {v : Value} (hx : evo fr x = some (.pointer (some ⟨b, off, none⟩))) (hm : At M b (.cells cs e fz)) (hv : Ldv P t cs off v) :
    QV P (.load t x) ty fr M v := fun o ho _ a w n ds hf hM => ⟨by simp, by simp [execOp, ho, hf.ev hx, Instr.loadAt, Instr.sureAddr, Sem.run_bind, hv w b e fz (hM _ hm.mem)]⟩
theorem qv_field {t : TypeId} {x : Operand} {f b off k : Nat} (hx : evo fr x = some (.pointer (some ⟨b, off, none⟩))) (hk : Fld P t f k) : QV P (.fieldAddr t x f) ty fr M (.pointer (some ⟨b, off + k, none⟩)) := fun o ho _ a w n ds hf _ =>
  ⟨by simp, by simp [execOp, ho, hf.ev hx, Sem.run_bind, hk w b off]⟩
theorem qv_nilCheck {x : Operand} {a : Addr} (hx : evo fr x = some (.pointer (some a))) : QV P (.nilCheck x) ty fr M (.pointer (some a)) := fun o ho _ a w n ds hf _ => ⟨by simp, by simp [execOp, ho, hf.ev hx]⟩
theorem qv_not {t : TypeId} {x : Operand} {b : Bool} (hx : evo fr x = some (.bool b)) : QV P (.unOp .not t x) ty fr M (.bool !b) := fun o ho _ a w n ds hf _ => ⟨by simp, by simp [execOp, ho, hf.ev hx, Op.unary, Sem.run_bind]⟩
theorem qv_extract {x : Operand} {i : Nat} {vs : Array Value} {v : Value} (hx : evo fr x = some (.tuple vs)) (hv : vs[i]? = some v) : QV P (.extract x i) ty fr M v := fun o ho _ a w n ds hf _ => ⟨by simp, by simp [execOp, ho, hf.ev hx, Instr.extract, Sem.run_bind, hv]⟩

theorem qv_int {op : BinOp} {t u : TypeId} {x y : Operand} {k : IntKind} {p q : Int} {v : Value} (hx : evo fr x = some (.int k p)) (hy : evo fr y = some (.int k q)) (hv : ∀ w, (binOp op t (.int k p) (.int k q)).run P w = .ok v w) :
    QV P (.binOp op t x y u) ty fr M v := fun o ho _ a w n ds hf _ => by
  refine ⟨by simp, ?_⟩
  have hg : (eqGuard op t x y (.int k p) (.int k q)).run P w = .ok () w := by unfold eqGuard; split <;> simp [Sem.run_bind]
  simp [execOp, ho, hf.ev hx, hf.ev hy, Sem.run_bind, hg, hv w]

theorem bin_add {w : World} {t : TypeId} {k : IntKind} {p q : Int} : (binOp .add t (.int k p) (.int k q)).run P w = .ok (.int k (k.wrap (p + q))) w := by simp [binOp, Op.intArith]
theorem bin_sub {w : World} {t : TypeId} {k : IntKind} {p q : Int} : (binOp .sub t (.int k p) (.int k q)).run P w = .ok (.int k (k.wrap (p - q))) w := by simp [binOp, Op.intArith]
theorem bin_mul {w : World} {t : TypeId} {k : IntKind} {p q : Int} : (binOp .mul t (.int k p) (.int k q)).run P w = .ok (.int k (k.wrap (p * q))) w := by simp [binOp, Op.intArith]
theorem bin_eql {w : World} {t : TypeId} {k : IntKind} {p q : Int} : (binOp .eql t (.int k p) (.int k q)).run P w = .ok (.bool (p == q)) w := by simp [binOp, Op.intCmp]
theorem bin_neq {w : World} {t : TypeId} {k : IntKind} {p q : Int} : (binOp .neq t (.int k p) (.int k q)).run P w = .ok (.bool (p != q)) w := by simp [binOp, Op.intCmp]
theorem bin_lss {w : World} {t : TypeId} {k : IntKind} {p q : Int} : (binOp .lss t (.int k p) (.int k q)).run P w = .ok (.bool (decide (p < q))) w := by simp [binOp, Op.intCmp]
theorem bin_leq {w : World} {t : TypeId} {k : IntKind} {p q : Int} : (binOp .leq t (.int k p) (.int k q)).run P w = .ok (.bool (decide (p ≤ q))) w := by simp [binOp, Op.intCmp]
theorem bin_gtr {w : World} {t : TypeId} {k : IntKind} {p q : Int} : (binOp .gtr t (.int k p) (.int k q)).run P w = .ok (.bool (decide (q < p))) w := by simp [binOp, Op.intCmp]
theorem bin_geq {w : World} {t : TypeId} {k : IntKind} {p q : Int} : (binOp .geq t (.int k p) (.int k q)).run P w = .ok (.bool (decide (q ≤ p))) w := by simp [binOp, Op.intCmp]
/-- What an operation of two whole numbers comes to; a bare wrap may be taken off. -/
theorem qv_add {t u : TypeId} {x y : Operand} {k : IntKind} {p q r : Int} (hx : evo fr x = some (.int k p)) (hy : evo fr y = some (.int k q)) (hr : k.wrap (p + q) = r) : QV P (.binOp .add t x y u) ty fr M (.int k r) := qv_int hx hy fun _ => hr ▸ bin_add
theorem qv_sub {t u : TypeId} {x y : Operand} {k : IntKind} {p q r : Int} (hx : evo fr x = some (.int k p)) (hy : evo fr y = some (.int k q)) (hr : k.wrap (p - q) = r) : QV P (.binOp .sub t x y u) ty fr M (.int k r) := qv_int hx hy fun _ => hr ▸ bin_sub
theorem qv_mul {t u : TypeId} {x y : Operand} {k : IntKind} {p q r : Int} (hx : evo fr x = some (.int k p)) (hy : evo fr y = some (.int k q)) (hr : k.wrap (p * q) = r) : QV P (.binOp .mul t x y u) ty fr M (.int k r) := qv_int hx hy fun _ => hr ▸ bin_mul
theorem qv_eql {t u : TypeId} {x y : Operand} {k : IntKind} {p q : Int} (hx : evo fr x = some (.int k p)) (hy : evo fr y = some (.int k q)) {b : Bool} (hb : (p == q) = b) : QV P (.binOp .eql t x y u) ty fr M (.bool b) := qv_int hx hy fun _ => hb ▸ bin_eql
theorem qv_neq {t u : TypeId} {x y : Operand} {k : IntKind} {p q : Int} (hx : evo fr x = some (.int k p)) (hy : evo fr y = some (.int k q)) {b : Bool} (hb : (p != q) = b) : QV P (.binOp .neq t x y u) ty fr M (.bool b) := qv_int hx hy fun _ => hb ▸ bin_neq
theorem qv_lss {t u : TypeId} {x y : Operand} {k : IntKind} {p q : Int} (hx : evo fr x = some (.int k p)) (hy : evo fr y = some (.int k q)) {b : Bool} (hb : decide (p < q) = b) : QV P (.binOp .lss t x y u) ty fr M (.bool b) := qv_int hx hy fun _ => hb ▸ bin_lss
theorem qv_leq {t u : TypeId} {x y : Operand} {k : IntKind} {p q : Int} (hx : evo fr x = some (.int k p)) (hy : evo fr y = some (.int k q)) {b : Bool} (hb : decide (p ≤ q) = b) : QV P (.binOp .leq t x y u) ty fr M (.bool b) := qv_int hx hy fun _ => hb ▸ bin_leq
theorem qv_gtr {t u : TypeId} {x y : Operand} {k : IntKind} {p q : Int} (hx : evo fr x = some (.int k p)) (hy : evo fr y = some (.int k q)) {b : Bool} (hb : decide (q < p) = b) : QV P (.binOp .gtr t x y u) ty fr M (.bool b) := qv_int hx hy fun _ => hb ▸ bin_gtr
theorem qv_geq {t u : TypeId} {x y : Operand} {k : IntKind} {p q : Int} (hx : evo fr x = some (.int k p)) (hy : evo fr y = some (.int k q)) {b : Bool} (hb : decide (q ≤ p) = b) : QV P (.binOp .geq t x y u) ty fr M (.bool b) := qv_int hx hy fun _ => hb ▸ bin_geq
/-- A shift, the count of another kind. -/
theorem qv_shift {op : BinOp} {t u : TypeId} {x y : Operand} {k k' : IntKind} {p q : Int} {v : Value} (hop : op = .shl ∨ op = .shr) (hx : evo fr x = some (.int k p)) (hy : evo fr y = some (.int k' q)) (hv : ∀ w, (Op.shift op k p k' q).run P w = .ok v w) :
    QV P (.binOp op t x y u) ty fr M v := fun o ho _ a w n ds hf _ => by
  refine ⟨by simp, ?_⟩
  have hg : (eqGuard op t x y (.int k p) (.int k' q)).run P w = .ok () w := by rcases hop with rfl | rfl <;> simp [eqGuard]
  have hb : (binOp op t (.int k p) (.int k' q)).run P w = .ok v w := by rcases hop with rfl | rfl <;> simpa [binOp] using hv w
  simp [execOp, ho, hf.ev hx, hf.ev hy, Sem.run_bind, hg, hb]
/-- Whatever else two values are held against each other by: the run is given. -/
theorem qv_bin {op : BinOp} {t u : TypeId} {x y : Operand} {p q v : Value} (hx : evo fr x = some p) (hy : evo fr y = some q) (hg : ∀ w, (eqGuard op t x y p q).run P w = .ok () w) (hv : ∀ w, (binOp op t p q).run P w = .ok v w) : QV P (.binOp op t x y u) ty fr M v := fun o ho _ a w n ds hf _ =>
  ⟨by simp, by simp only [execOp, ho, hf.ev hx, hf.ev hy, Sem.run_bind, hg w, hv w, Result.andThen, Sem.run_pure]⟩
theorem run_eqlV {t : TypeId} {p q : Value} {b : Bool} (he : ∀ d w, (Op.equalIn (d + 1) t p q).run P w = .ok b w) (w : World) : (Op.equal t p q).run P w = .ok b w := he 9999 w
theorem qv_eqlV {t u : TypeId} {x y : Operand} {p q : Value} {b : Bool} (hx : evo fr x = some p) (hy : evo fr y = some q) (hg : ∀ w, (eqGuard .eql t x y p q).run P w = .ok () w) (hb : binOp .eql t p q = (do pure (.bool (← Op.equal t p q))))
    (he : ∀ d w, (Op.equalIn (d + 1) t p q).run P w = .ok b w) : QV P (.binOp .eql t x y u) ty fr M (.bool b) := qv_bin hx hy hg fun w => by rw [hb]; simp only [Sem.run_bind, run_eqlV he w, Result.andThen, Sem.run_pure]
/-- Two bools. -/
theorem qv_eqlB {t u : TypeId} {x y : Operand} {p q : Bool} (ht : P.underlying t = some .bool) (hx : evo fr x = some (.bool p)) (hy : evo fr y = some (.bool q)) : QV P (.binOp .eql t x y u) ty fr M (.bool (p == q)) :=
  qv_eqlV hx hy (fun _ => rfl) rfl fun d w => by simp [Op.equalIn, Sem.run_bind, run_underlying ht]
/-- A pointer held against nil. -/
theorem qv_eqlP {t u e : TypeId} {x : Operand} {p : Option Addr} (ht : P.underlying t = some (.pointer e)) (hx : evo fr x = some (.pointer p)) : QV P (.binOp .eql t x (.const (.pointer none)) u) ty fr M (.bool p.isNone) :=
  qv_eqlV hx rfl (fun _ => rfl) rfl fun d w => by cases p <;> simp [Op.equalIn, Sem.run_bind, run_underlying ht]
/-- A slice held against nil. -/
theorem qv_eqlS {t u e : TypeId} {x : Operand} {p : Option Addr} {n c : Nat} (ht : P.underlying t = some (.slice e)) (hx : evo fr x = some (.slice p n c)) : QV P (.binOp .eql t x (.const (.slice none 0 0)) u) ty fr M (.bool p.isNone) :=
  qv_eqlV hx rfl (fun _ => rfl) rfl fun d w => by cases p <;> simp [Op.equalIn, Sem.run_bind, run_underlying ht]
/-- A number made one of another kind. -/
theorem qv_conv {s d : TypeId} {x : Operand} {k k' : IntKind} {p r : Int} (hs : P.underlying s = some (.int k)) (hd : P.underlying d = some (.int k')) (hx : evo fr x = some (.int k p)) (hr : k'.wrap p = r) : QV P (.convert s d x) ty fr M (.int k' r) := fun o ho _ a w n ds hf _ =>
  ⟨by simp, by simp [execOp, ho, hf.ev hx, convert, Sem.run_bind, run_underlying hs, run_underlying hd, Conv.intToInt, hr]⟩
theorem qv_lenS {t e : TypeId} {x : Operand} {p : Option Addr} {n c : Nat} (ht : P.underlying t = some (.slice e)) (hx : evo fr x = some (.slice p n c)) : QV P (.call { callee := .builtin .len, args := #[x], argTypes := #[t] }) ty fr M (.int .i64 n) := fun o ho _ a w _ ds hf _ =>
  ⟨by simp, by simp [execOp, ho, resolve, invoke, builtin, hf.ev hx, Sem.run_bind, Builtin.len_, run_underlying ht, goInt]⟩
theorem evs_map {fr : Fr} {xs : List Operand} {vs : List Value} (h : evs fr xs = some vs) {n : Nat} {ds : List Deferred} {a : Act} (hf : FrOK n ds fr a) : xs.map a.eval = vs := by
  induction xs generalizing vs with
  | nil => simp [evs] at h; subst h; rfl
  | cons x r ih =>
    simp only [evs] at h
    split at h
    · rename_i v vs' hv hvs
      simp at h
      subst h
      simp [hf.ev hv, ih hvs]
    · cases h
theorem evps_map {fr : Fr} {ps : List (Nat × Operand)} {vs : List (Nat × Value)} (h : evps fr ps = some vs) {n : Nat} {ds : List Deferred} {a : Act} (hf : FrOK n ds fr a) : ps.toArray.map (fun (i, x) => (i, a.eval x)) = vs.toArray := by
  simp only [List.map_toArray]
  congr 1
  induction ps generalizing vs with
  | nil => simp [evps] at h; subst h; rfl
  | cons x r ih =>
    obtain ⟨i, x⟩ := x
    simp only [evps] at h
    split at h
    · rename_i v vs' hv hvs
      simp at h
      subst h
      simp only [List.map_cons, hf.ev hv]
      rw [ih hvs]
    · cases h
theorem qv_makeFunc {f : Fn} {cs : List Operand} {vs : List Value} (hv : evs fr cs = some vs) : QV P (.makeFunc f #[] cs.toArray) ty fr M (.func f #[] vs.toArray) := fun o ho _ a w n ds hf _ => by
  have key : cs.toArray.map a.eval = vs.toArray := by rw [List.map_toArray, evs_map hv hf]
  exact ⟨by simp, by simp only [execOp, ho, key, Instr.makeFunc, Sem.run_bind]; simp⟩
/-- A struct built of parts: the run is given. -/
theorem qv_build {t : TypeId} {ps : List (Nat × Operand)} {vs : List (Nat × Value)} {v : Value} (hp : evps fr ps = some vs) (hb : ∀ w, (Instr.build t vs.toArray).run P w = .ok v w) : QV P (.build t ps.toArray) ty fr M v := fun o ho _ a w n ds hf _ => by
  exact ⟨by simp, by simp only [execOp, ho, evps_map hp hf, Sem.run_bind, hb w]; rfl⟩
/-- An element's address: of a slice. -/
theorem qv_index {t e : TypeId} {x y : Operand} {b off n c : Nat} {k : IntKind} {i : Int} {sz j : Nat} (ht : P.underlying t = some (.slice e)) (hz : Siz P e sz) (hx : evo fr x = some (.slice (some ⟨b, off, none⟩) n c)) (hy : evo fr y = some (.int k i)) (hi : i = (j : Int)) (hj : j < n) :
    QV P (.indexAddr t x y) ty fr M (.pointer (some ⟨b, off + j * sz, none⟩)) := fun o ho _ a w _ ds hf _ => by
  subst hi
  have hadd : (⟨b, off, none⟩ : Addr).add (j * sz) = ⟨b, off + j * sz, none⟩ := by unfold Addr.add; split <;> simp_all
  exact ⟨by simp, by simp [execOp, ho, hf.ev hx, hf.ev hy, Instr.indexAt, asIntOf, Sem.run_bind, run_underlying ht, hz w, hj, hadd]⟩
/-- An array's, by its address. -/
theorem qv_indexA {t e : TypeId} {x y : Operand} {b off n : Nat} {k : IntKind} {i : Int} {sz j : Nat} (ht : P.underlying t = some (.array n e)) (hz : Siz P e sz) (hx : evo fr x = some (.pointer (some ⟨b, off, none⟩))) (hy : evo fr y = some (.int k i)) (hi : i = (j : Int)) (hj : j < n) :
    QV P (.indexAddr t x y) ty fr M (.pointer (some ⟨b, off + j * sz, none⟩)) := fun o ho _ a w _ ds hf _ => by
  subst hi
  have hadd : (⟨b, off, none⟩ : Addr).add (j * sz) = ⟨b, off + j * sz, none⟩ := by unfold Addr.add; split <;> simp_all
  exact ⟨by simp, by simp [execOp, ho, hf.ev hx, hf.ev hy, Instr.indexAt, asIntOf, Instr.sureAddr, Sem.run_bind, run_underlying ht, hz w, hj, hadd]⟩
end
end Go.E
