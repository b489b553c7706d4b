import Derived.Test.YtobmcpoejhhemaaOEngE
namespace Go.E
open Go

/-- The operation's step, beside its act. -/
def OutV (X : Cx) (r : Result Next) (K : Value → World → Prop) : Prop :=
  match r with
  | .ok (.value v) w' => K v w'
  | .ok (.enter g args) w' => CallsIn (FW X.rd) 0 X.P g args w' fun e w'' => ∃ v, e = .returned v ∧ K v w''
  | _ => False
theorem OutV.mono {X : Cx} {r : Result Next} {K K' : Value → World → Prop} (h : OutV X r K) (hk : ∀ v w, K v w → K' v w) : OutV X r K' := by
  unfold OutV at *
  split at h
  · exact hk _ _ h
  · exact CallsIn.mono h fun e w ⟨v, he, h⟩ => ⟨v, he, hk _ _ h⟩
  · exact h.elim
theorem wpIn_of_out {X : Cx} {o : Oper} {a : Act} {w : World} {K : Act → World → Prop} {Q : Exit → Act → World → Prop} (hnd : ∀ c, o.op ≠ .defer c)
    (h : OutV X ((execOp a.eval o).run X.P w) (fun v w' => K (a.put o.dst v) w')) : o.wpIn (FW X.rd) 0 X.P a w K Q := by
  refine ⟨fun f _ => trivial, ?_⟩
  rw [Oper.semAt_eq _ _ _ hnd]
  generalize (execOp a.eval o).run X.P w = r at *
  unfold OutV at h
  split at h
  · exact h
  · refine ⟨by simp [FW], CallsIn.mono h ?_⟩
    rintro e w' ⟨v, rfl, hk⟩
    exact hk
  · exact h.elim

/-- It computes v: what was known of the memory stays known. -/
def PV (X : Cx) (op : Op) (ty : TypeId) (fr : Fr) (M : Mem) (v : Value) : Prop :=
  ∀ o : Oper, o.op = op → o.type = ty → (∀ c, op ≠ .defer c) ∧ ∀ (a : Act) ds w, FrOK X.n ds fr a → (M.map (·.1)).Nodup → Has M w →
    OutV X ((execOp a.eval o).run X.P w) fun u w' => u = v ∧ ∀ M1, Chg X.w0 X.M0 M1 w → Chg X.w0 X.M0 M1 w'
theorem pv_q {X : Cx} {op : Op} {ty : TypeId} {fr : Fr} {M : Mem} {v : Value} (hw : ∀ o : Oper, o.op = op → ∀ c, op ≠ .defer c) (h : QV X.P op ty fr M v) : PV X op ty fr M v := fun o ho ht =>
  ⟨hw o ho, fun a ds w hf _ hM => by rw [(h o ho ht a w X.n ds hf hM).2]; exact ⟨rfl, fun _ h => h⟩⟩
theorem pv_call {X : Cx} {ty : TypeId} {g : FuncId} {xs : Array Operand} {ts : Array TypeId} {args : List Value} {v : Value} {fr : Fr} {M : Mem} (hg : Ent X.P g) (hx : evs fr xs.toList = some args) (hc : Pu X.P g args v) :
    PV X (.call { callee := .value (.func g), args := xs, argTypes := ts }) ty fr M v := fun o hop _ => ⟨by simp, fun a ds w hf _ hM => by
  have hm : xs.map a.eval = args.toArray := by
    apply Array.ext'
    simpa using evs_map hx hf
  have hr : (execOp a.eval o).run X.P w = .ok (.enter g args.toArray) w := by
    simp only [execOp, hop, resolve, Act.eval, Deferred.ofValue, hm]
    simp [Sem.run_bind, invoke]
    exact hg _ _
  rw [hr]
  have h1 : CallsIn (FW none) 0 X.P g args.toArray w fun e w' => ∃ u, e = .returned u ∧ u = v ∧ ∀ M1, Chg X.w0 X.M0 M1 w → Chg X.w0 X.M0 M1 w' := by
    refine callsIn_wide.2 ((hc w (by simp) (fun p hp => by simp at hp)).mono ?_)
    rintro e w' ⟨u, M', rfl, ⟨rfl, rfl⟩, hch⟩
    exact ⟨u, rfl, rfl, fun M1 h => Chg.call (A := []) (A' := []) h hch⟩
  exact h1⟩
/-- A call that only reads known memory. -/
theorem pv_callR {X : Cx} {ty : TypeId} {g : FuncId} {xs : Array Operand} {ts : Array TypeId} {args : List Value} {v : Value} {fr : Fr} {M A B : Mem} (hg : Ent X.P g) (hx : evs fr xs.toList = some args) (hs : Sel M A B) (hc : Ct X.P g args.toArray A fun u A' => u = v ∧ A' = A) :
    PV X (.call { callee := .value (.func g), args := xs, argTypes := ts }) ty fr M v := fun o hop _ => ⟨by simp, fun a ds w hf hnM hM => by
  have hn : (A.map (·.1)).Nodup := by
    have := (hs.perm.map (·.1)).nodup_iff.1 hnM
    rw [List.map_append, List.nodup_append] at this
    exact this.1
  have hm : xs.map a.eval = args.toArray := by
    apply Array.ext'
    simpa using evs_map hx hf
  have hr : (execOp a.eval o).run X.P w = .ok (.enter g args.toArray) w := by
    simp only [execOp, hop, resolve, Act.eval, Deferred.ofValue, hm]
    simp [Sem.run_bind, invoke]
    exact hg _ _
  rw [hr]
  have hA : Has A w := fun p hp => hM p (hs.perm.mem_iff.2 (by simp [hp]))
  have h1 : CallsIn (FW none) 0 X.P g args.toArray w fun e w' => ∃ u, e = .returned u ∧ u = v ∧ ∀ M1, Chg X.w0 X.M0 M1 w → Chg X.w0 X.M0 M1 w' := by
    refine callsIn_wide.2 ((hc w hn hA).mono ?_)
    rintro e w' ⟨u, A', rfl, ⟨rfl, rfl⟩, hch⟩
    refine ⟨u, rfl, rfl, fun M1 h => ?_⟩
    have hb : ∀ k, k < w.heap.size → w'.heap[k]? = w.heap[k]? := fun k hk => by
      by_cases hp : ∃ p ∈ A', p.1 = k
      · obtain ⟨p, hp, rfl⟩ := hp
        rw [hch.at_ p hp, hA p hp]
      · exact hch.old k hk fun p hp' e => hp ⟨p, hp', e⟩
    refine ⟨hch.os.trans h.os, hch.tape.trans h.tape, hch.output.trans h.output, Nat.le_trans h.drawn hch.drawn, Nat.le_trans h.size hch.size, fun k hk hp => ?_, h.fresh, h.nodup, fun p hp => ?_⟩
    · rw [hb k (Nat.lt_of_lt_of_le hk h.size)]
      exact h.old k hk hp
    · rw [hb _ (h.lt p hp)]
      exact h.at_ p hp
  exact h1⟩

/-- An operation that only computes, in its place. -/
theorem os_pv {X : Cx} {op : Op} {ty : TypeId} {d : Nat} {ds : List Deferred} {fr : Fr} {M : Mem} {v : Value} {K : S → Prop} (hd : Nat.blt d X.n = true) (hp : PV X op ty fr M v) (h : K ⟨ds, (d, v) :: fr, M⟩) : OpS X op ty (some d) ⟨ds, fr, M⟩ K := by
  rintro o hop hty hdst a w ⟨hf, hC⟩
  obtain ⟨hnd, hp⟩ := hp o hop hty
  refine wpIn_of_out (by rw [hop]; exact hnd) ((hp a ds w hf hC.nodup hC.at_).mono ?_)
  rintro u w' ⟨rfl, hw⟩
  rw [hdst]
  exact ⟨⟨ds, (d, u) :: fr, M⟩, ⟨hf.put (by simpa using hd) u, hw _ hC⟩, h⟩

/-- What one operation does, an own block aside. -/
inductive En
  | p (i d : Nat) (v : Value)
  | a (i d : Nat) (t : TypeId) (cs : Array Value)
def En.i : En → Nat
  | .p i _ _ => i
  | .a i _ _ _ => i
def En.d : En → Nat
  | .p _ d _ => d
  | .a _ d _ _ => d
def En.v (β : Nat → Nat) : En → Value
  | .p _ _ v => v
  | .a i _ _ _ => .pointer (some ⟨β i, 0, none⟩)
def En.m (β : Nat → Nat) : En → Mem
  | .p _ _ _ => []
  | .a i _ t cs => [(β i, .cells cs t (0, 0))]

def ObP (X : Cx) (ops : Array Oper) (M : Mem) (fr : Fr) (i d : Nat) (v : Value) : Prop :=
  ∃ op ty g, opX ops i = some (some d, op, ty, g) ∧ ((Gd ops fr g ∧ PV X op ty fr M v) ∨ (Gn ops fr g ∧ v = undef))
def ObA (X : Cx) (ops : Array Oper) (i d : Nat) (t : TypeId) (cs : Array Value) : Prop :=
  ∃ ty z, opX ops i = some (some d, .alloc t, ty, none) ∧ Zer X.P t z ∧ z.cells = cs

/-- The operations ord, one behind the other: each one's value out of what is known. -/
inductive SeqK (X : Cx) (ops : Array Oper) (M : Mem) (K : ((Nat → Nat) → Fr) → ((Nat → Nat) → Mem) → Prop) : List Nat → Fr → ((Nat → Nat) → Fr) → ((Nat → Nat) → Mem) → Prop
  | nil {fr : Fr} {F : (Nat → Nat) → Fr} {Mm : (Nat → Nat) → Mem} (h : K F Mm) : SeqK X ops M K [] fr F Mm
  | p {i d : Nat} {v : Value} {r : List Nat} {fr : Fr} {F : (Nat → Nat) → Fr} {Mm : (Nat → Nat) → Mem} (h1 : ObP X ops M fr i d v) (h : SeqK X ops M K r ((d, v) :: fr) (fun β => (d, v) :: F β) Mm) : SeqK X ops M K (i :: r) fr F Mm
  | a {i d : Nat} {t : TypeId} {cs : Array Value} {r : List Nat} {fr : Fr} {F : (Nat → Nat) → Fr} {Mm : (Nat → Nat) → Mem} (h1 : ObA X ops i d t cs)
      (h : SeqK X ops M K r fr (fun β => (d, .pointer (some ⟨β i, 0, none⟩)) :: F β) (fun β => (β i, .cells cs t (0, 0)) :: Mm β)) : SeqK X ops M K (i :: r) fr F Mm
  | know {d : Nat} {u : Value} {r : List Nat} {fr : Fr} {F : (Nat → Nat) → Fr} {Mm : (Nat → Nat) → Mem} (h1 : look fr d = some u) (h2 : ∀ β, look (F β) d = some u) (h : SeqK X ops M K r ((d, u) :: fr) (fun β => (d, u) :: F β) Mm) : SeqK X ops M K r fr F Mm

def Kn (fr : Fr) (es : List En) (fr' : Fr) : Prop := ∀ t u, look fr' t = some u → look fr t = some u ∨ ∃ i, .p i t u ∈ es

theorem SeqK.spec {X : Cx} {ops : Array Oper} {M : Mem} {K : ((Nat → Nat) → Fr) → ((Nat → Nat) → Mem) → Prop} {ord : List Nat} {fr : Fr} {F : (Nat → Nat) → Fr} {Mm : (Nat → Nat) → Mem} (h : SeqK X ops M K ord fr F Mm) :
    ∃ (es : List En) (Ff : (Nat → Nat) → Fr) (Mf : (Nat → Nat) → Mem), es.map En.i = ord ∧
      (∀ i d v, .p i d v ∈ es → ∃ fr', Kn fr es fr' ∧ ObP X ops M fr' i d v) ∧ (∀ i d t cs, .a i d t cs ∈ es → ObA X ops i d t cs) ∧
      (∀ β t u, look (Ff β) t = some u → look (F β) t = some u ∨ ∃ e ∈ es, e.d = t ∧ e.v β = u) ∧ (∀ β, (Mf β).Perm (es.flatMap (En.m β) ++ Mm β)) ∧ K Ff Mf := by
  induction h with
  | nil h => exact ⟨[], _, _, rfl, by simp, by simp, fun _ _ _ h => .inl h, fun _ => by simp, h⟩
  | @p i d v r fr F Mm h1 _ ih =>
    obtain ⟨es, Ff, Mf, e1, e2, e3, e4, e5, e6⟩ := ih
    refine ⟨.p i d v :: es, Ff, Mf, by simp [En.i, e1], ?_, ?_, ?_, fun β => by simpa [En.m] using e5 β, e6⟩
    · intro i' d' v' hm
      rcases List.mem_cons.1 hm with he | hm
      · cases he
        exact ⟨fr, fun t u h => .inl h, h1⟩
      · obtain ⟨fr', h2, h3⟩ := e2 i' d' v' hm
        refine ⟨fr', fun t u h => ?_, h3⟩
        rcases h2 t u h with h4 | ⟨j, h4⟩
        · simp only [look] at h4
          by_cases e : d = t
          · subst e; simp at h4; subst h4; exact .inr ⟨i, by simp⟩
          · simp [e] at h4; exact .inl h4
        · exact .inr ⟨j, by simp [h4]⟩
    · intro i' d' t' cs' hm
      rcases List.mem_cons.1 hm with he | hm
      · cases he
      · exact e3 i' d' t' cs' hm
    · intro β t u h
      rcases e4 β t u h with h4 | ⟨e, he, h5⟩
      · simp only [look] at h4
        by_cases e : d = t
        · subst e; simp at h4; subst h4; exact .inr ⟨.p i d v, by simp, rfl, rfl⟩
        · simp [e] at h4; exact .inl h4
      · exact .inr ⟨e, by simp [he], h5⟩
  | @a i d t0 cs r fr F Mm h1 _ ih =>
    obtain ⟨es, Ff, Mf, e1, e2, e3, e4, e5, e6⟩ := ih
    refine ⟨.a i d t0 cs :: es, Ff, Mf, by simp [En.i, e1], ?_, ?_, ?_, fun β => ?_, e6⟩
    · intro i' d' v' hm
      rcases List.mem_cons.1 hm with he | hm
      · cases he
      · obtain ⟨fr', h2, h3⟩ := e2 i' d' v' hm
        refine ⟨fr', fun t u h => ?_, h3⟩
        rcases h2 t u h with h4 | ⟨j, h4⟩
        · exact .inl h4
        · exact .inr ⟨j, by simp [h4]⟩
    · intro i' d' t' cs' hm
      rcases List.mem_cons.1 hm with he | hm
      · cases he; exact h1
      · exact e3 i' d' t' cs' hm
    · intro β t u h
      rcases e4 β t u h with h4 | ⟨e, he, h5⟩
      · simp only [look] at h4
        by_cases e : d = t
        · subst e; simp at h4; subst h4; exact .inr ⟨.a i d t0 cs, by simp, rfl, rfl⟩
        · simp [e] at h4; exact .inl h4
      · exact .inr ⟨e, by simp [he], h5⟩
    · refine (e5 β).trans ?_
      simp only [List.flatMap_cons, En.m, List.cons_append, List.nil_append]
      exact List.perm_middle
  | @know d u r fr F Mm h1 h2 _ ih =>
    obtain ⟨es, Ff, Mf, e1, e2, e3, e4, e5, e6⟩ := ih
    refine ⟨es, Ff, Mf, e1, ?_, e3, ?_, e5, e6⟩
    · intro i' d' v' hm
      obtain ⟨fr', h3, h4⟩ := e2 i' d' v' hm
      refine ⟨fr', fun t u' h => ?_, h4⟩
      rcases h3 t u' h with h5 | h5
      · simp only [look] at h5
        by_cases e : d = t
        · subst e; simp at h5; subst h5; exact .inl h1
        · simp [e] at h5; exact .inl h5
      · exact .inr h5
    · intro β t u' h
      rcases e4 β t u' h with h5 | h5
      · simp only [look] at h5
        by_cases e : d = t
        · subst e; simp at h5; subst h5; exact .inl (h2 β)
        · simp [e] at h5; exact .inl h5
      · exact .inr h5

def dstI (ops : Array Oper) (i : Nat) : Option Nat := (ops[i]?).bind (·.dst)
def waits (o : Oper) (j : Nat) : Bool := o.after.any fun e => Region.binds .any e && e.on == j
def opOK (n : Nat) (ops : Array Oper) (listed : Array Bool) (ord keys : List Nat) (i : Nat) (o : Oper) : Bool :=
  (match o.dst with
   | some d => Nat.blt d n && !keys.contains d && (ord.all fun j => j == i || dstI ops j != some d)
   | none => false) &&
  o.after.all (fun e => !Region.binds .any e || listed.getD e.on false || ord.contains e.on && Nat.blt e.on i) &&
  (o.looksAt ops).all fun t => keys.contains t || ord.all fun j => dstI ops j != some t || waits o j
/-- Those of ord that o waits for, one behind the other. -/
def heldGo (ops : Array Oper) (o : Oper) : List Nat → List Nat → List Nat
  | [], held => held
  | i :: r, held => heldGo ops o r (if waits o i || held.any (fun j => match ops[j]? with | some oj => waits oj i | none => false) then i :: held else held)
def closedB (ops : Array Oper) (listed : Array Bool) : Bool := (List.range ops.size).all fun k => !listed.getD k false || (match ops[k]? with | some o => o.after.all (fun e => !Region.binds .any e || listed.getD e.on false) | none => true)
/-- May the operations ord be walked in this order, whichever is drawn? -/
def drawOK (n : Nat) (ops : Array Oper) (nR : Nat) (listed : Array Bool) (ord keys : List Nat) : Bool :=
  plainOps ops && Nat.ble ops.size listed.size && closedB ops listed &&
  ((List.range ops.size).all fun t => Nat.blt t nR || (match ops[t]? with | some o => ord.all fun i => (heldGo ops o ord.reverse []).contains i | none => true)) &&
  (ord.all fun i => Nat.blt i nR && !listed.getD i true && (match ops[i]? with | some o => opOK n ops listed ord keys i o | none => false)) &&
  (List.range nR).all fun k => ord.contains k || listed.getD k true
def lists (listed : Array Bool) : List Nat → Array Bool
  | [] => listed
  | i :: r => lists (listed.setIfInBounds i true) r

theorem lists_getD : ∀ (ord : List Nat) (listed : Array Bool) (k : Nat) (b : Bool), (lists listed ord).getD k b = if k ∈ ord ∧ k < listed.size then true else listed.getD k b
  | [], listed, k, b => by simp [lists]
  | i :: r, listed, k, b => by
    rw [lists, lists_getD r]
    by_cases hk : k < listed.size
    · by_cases hr : k ∈ r
      · simp [hk, hr]
      · by_cases hi : i = k
        · subst hi; simp [hk, hr]
        · have : k ≠ i := Ne.symm hi
          simp [hk, hr, this, Array.getElem_setIfInBounds, hi]
    · by_cases hi : i = k
      · subst hi; simp [hk]
      · simp [hk]
theorem lists_size : ∀ (ord : List Nat) (listed : Array Bool), (lists listed ord).size = listed.size
  | [], _ => rfl
  | i :: r, listed => by rw [lists, lists_size r]; simp

def patch (fr : Fr) (a : Act) : Act := { a with tmps := fr.foldr (fun p tm => tm.setIfInBounds p.1 p.2) a.tmps }
theorem patch_size (fr : Fr) (a : Act) : (patch fr a).tmps.size = a.tmps.size := by
  unfold patch
  induction fr with
  | nil => rfl
  | cons p r ih => simp only [List.foldr_cons, Array.size_setIfInBounds]; exact ih
theorem patch_at (fr : Fr) (a : Act) (t : Nat) : (patch fr a).tmps[t]? = match look fr t with | some u => if t < a.tmps.size then some u else none | none => a.tmps[t]? := by
  unfold patch
  induction fr with
  | nil => rfl
  | cons p r ih =>
    obtain ⟨d, v⟩ := p
    have hs : (List.foldr (fun p tm => tm.setIfInBounds p.1 p.2) a.tmps r).size = a.tmps.size := patch_size r a
    simp only [List.foldr_cons, look] at ih ⊢
    by_cases e : d = t
    · subst e
      simp only [BEq.rfl, if_true, Array.getElem?_setIfInBounds_self, hs]
    · have e' : (d == t) = false := by simp [e]
      rw [e', Array.getElem?_setIfInBounds_ne e]
      simpa using ih

theorem nodup_inj {α β : Type} {f : α → β} : ∀ {l : List α}, (l.map f).Nodup → ∀ {a b : α}, a ∈ l → b ∈ l → f a = f b → a = b
  | [], _, a, b, ha, _, _ => by cases ha
  | x :: l, h, a, b, ha, hb, e => by
    simp only [List.map_cons, List.nodup_cons, List.mem_map, not_exists, not_and] at h
    rcases List.mem_cons.1 ha with h1 | h1 <;> rcases List.mem_cons.1 hb with h2 | h2
    · rw [h1, h2]
    · exact absurd (h1 ▸ e.symm) (h.1 b h2)
    · exact absurd (h2 ▸ e) (h.1 a h1)
    · exact nodup_inj h.2 h1 h2 e
theorem exists_min {α : Type} (l : List α) (f : α → Nat) (h : 0 < l.length) : ∃ a ∈ l, ∀ b ∈ l, f a ≤ f b := by
  induction l with
  | nil => simp at h
  | cons x l ih =>
    cases l with
    | nil => exact ⟨x, by simp, by simp⟩
    | cons y l =>
      obtain ⟨a, ha, hm⟩ := ih (by simp)
      by_cases hx : f x ≤ f a
      · refine ⟨x, by simp, fun b hb => ?_⟩
        rcases List.mem_cons.1 hb with rfl | hb
        · exact Nat.le_refl _
        · exact Nat.le_trans hx (hm b hb)
      · refine ⟨a, by simp [ha], fun b hb => ?_⟩
        rcases List.mem_cons.1 hb with rfl | hb
        · omega
        · exact hm b hb
theorem heldGo_listed {ops : Array Oper} {o : Oper} {cur : Array Bool} (hclosed : ∀ k o, ops[k]? = some o → cur.getD k false = true → ∀ x ∈ o.after, Region.binds .any x = true → cur.getD x.on false = true)
    (ho : ∀ j, waits o j = true → cur.getD j false = true) : ∀ (l held : List Nat), (∀ j ∈ held, cur.getD j false = true) → ∀ j ∈ heldGo ops o l held, cur.getD j false = true
  | [], _, h, j, hj => h j hj
  | i :: r, held, h, j, hj => by
    refine heldGo_listed hclosed ho r _ ?_ j hj
    intro k hk
    split at hk
    · rename_i hc
      rcases List.mem_cons.1 hk with rfl | hk
      · simp only [Bool.or_eq_true, List.any_eq_true] at hc
        rcases hc with hc | ⟨q, hq, hc⟩
        · exact ho _ hc
        · split at hc
          · rename_i oj hoj
            obtain ⟨x, hx, hb⟩ := Array.any_eq_true'.1 hc
            simp only [Bool.and_eq_true, beq_iff_eq] at hb
            have := hclosed q oj hoj (h q hq) x hx hb.1
            rwa [hb.2] at this
          · cases hc
      · exact h k hk
    · exact h k hk
theorem anyS_all {X : Cx} {ops : Array Oper} {nR : Nat} {Mk M : Mem} {Q : Exit → Act → World → Prop} {listed : Array Bool} {ord keys : List Nat} {es : List En} {fr0 : Fr} {ds : List Deferred} {fuel : Nat} {Ff : (Nat → Nat) → Fr} {Mf : (Nat → Nat) → Mem}
    (hck : drawOK X.n ops nR listed ord keys = true) (hkeys : ∀ t u, look fr0 t = some u → t ∈ keys) (hkn : ∀ t ∈ keys, ∃ u, look fr0 t = some u) (hes : es.map En.i = ord) (hMk : ∀ p ∈ Mk, p ∈ M) (hnd : ord.Nodup)
    (hP : ∀ i d v, .p i d v ∈ es → ∃ fr', Kn fr0 es fr' ∧ ObP X ops M fr' i d v) (hA : ∀ i d t cs, .a i d t cs ∈ es → ObA X ops i d t cs)
    (hF : ∀ β t u, look (Ff β) t = some u → look fr0 t = some u ∨ ∃ e ∈ es, e.d = t ∧ e.v β = u) (hM : ∀ β, (Mf β).Perm (es.flatMap (En.m β) ++ M))
    (hK : ∀ β a w, FrOK X.n ds (Ff β) a → Chg X.w0 X.M0 (Mf β) w → Has Mk w → anyS (FW X.rd) X.P ops nR Mk Q fuel (lists listed ord) a w) :
    ∀ (n : Nat) (rem done : List En) (β : Nat → Nat) (cur : Array Bool) (a : Act) (w : World), rem.length = n → (done ++ rem).Perm es → cur.size = listed.size → (∀ k b, cur.getD k b = if (∃ e ∈ done, e.i = k) ∧ k < listed.size then true else listed.getD k b) →
      (∀ e ∈ done, a.tmps[e.d]? = some (e.v β)) → FrOK X.n ds fr0 a → Chg X.w0 X.M0 (done.flatMap (En.m β) ++ M) w →
      (∀ k o, ops[k]? = some o → cur.getD k false = true → ∀ x ∈ o.after, Region.binds .any x = true → cur.getD x.on false = true) → anyS (FW X.rd) X.P ops nR Mk Q (n + fuel) cur a w := by
  unfold drawOK at hck
  simp only [Bool.and_eq_true, List.all_eq_true, Bool.or_eq_true, List.mem_range, List.contains_iff_mem] at hck
  obtain ⟨⟨⟨⟨⟨hpl, hsz⟩, hclo⟩, htail⟩, hord⟩, hcov⟩ := hck
  have hsz' : ops.size ≤ listed.size := by simpa using hsz
  have hesn : (es.map En.i).Nodup := by rw [hes]; exact hnd
  have hinj : ∀ e ∈ es, ∀ e' ∈ es, e.i = e'.i → e = e' := fun e he e' he' h => nodup_inj hesn he he' h
  have hin : ∀ e ∈ es, e.i ∈ ord := fun e he => hes ▸ List.mem_map_of_mem he
  have hmem : ∀ i ∈ ord, ∃ e ∈ es, e.i = i := fun i hi => by rw [← hes] at hi; simpa using List.mem_map.1 hi
  have hunl : ∀ i ∈ ord, listed.getD i true = false := fun i hi => by
    have := (hord i hi).1.2
    simpa using this
  have hlt : ∀ i ∈ ord, i < listed.size := fun i hi => by
    rcases Nat.lt_or_ge i listed.size with h | h
    · exact h
    · have := hunl i hi
      simp [Array.getD, Nat.not_lt.2 h] at this
  have hunl2 : ∀ i ∈ ord, listed.getD i false = false := fun i hi => by
    have h1 := hunl i hi
    have h2 := hlt i hi
    simp [Array.getD, h2] at h1 ⊢
    exact h1
  have hop : ∀ i ∈ ord, ∃ o, ops[i]? = some o ∧ opOK X.n ops listed ord keys i o = true := fun i hi => by
    have h1 := (hord i hi).2
    cases ho : ops[i]? with
    | none => rw [ho] at h1; simp at h1
    | some o => rw [ho] at h1; exact ⟨o, rfl, h1⟩
  have hdst : ∀ e ∈ es, dstI ops e.i = some e.d := fun e he => by
    cases e with
    | p i d v =>
      obtain ⟨_, _, op, ty, g, h1, _⟩ := hP i d v he
      obtain ⟨o, h2, h3, _⟩ := opX_some h1
      simp [dstI, En.i, En.d, h2, h3]
    | a i d t cs =>
      obtain ⟨ty, _, h1, _⟩ := hA i d t cs he
      obtain ⟨o, h2, h3, _⟩ := opX_some h1
      simp [dstI, En.i, En.d, h2, h3]
  have hd : ∀ e ∈ es, e.d < X.n ∧ e.d ∉ keys ∧ ∀ j ∈ ord, j ≠ e.i → dstI ops j ≠ some e.d := fun e he => by
    obtain ⟨o, h1, h2⟩ := hop e.i (hin e he)
    have h3 := hdst e he
    simp only [dstI, h1, Option.bind_some] at h3
    unfold opOK at h2
    rw [h3] at h2
    simp only [Bool.and_eq_true, List.all_eq_true, Bool.or_eq_true, Bool.not_eq_true', beq_iff_eq, bne_iff_ne, ne_eq] at h2
    obtain ⟨⟨⟨⟨h4, h5⟩, h6⟩, _⟩, _⟩ := h2
    refine ⟨by simpa using h4, by simpa using h5, fun j hj hne => (h6 j hj).resolve_left hne⟩
  intro n
  induction n with
  | zero =>
    intro rem done β cur a w hl hperm hcs hcur hdone hfr hch _
    have : rem = [] := List.length_eq_zero_iff.1 hl
    subst this
    rw [List.append_nil] at hperm
    have hce : cur = lists listed ord := by
      apply Array.ext
      · rw [lists_size, hcs]
      · intro k h1 h2
        have e1 := hcur k false
        have e2 := lists_getD ord listed k false
        have e3 : (∃ e ∈ done, e.i = k) ↔ k ∈ ord := by
          rw [← hes]
          constructor
          · rintro ⟨e, he, rfl⟩
            exact List.mem_map_of_mem (hperm.mem_iff.1 he)
          · intro h
            obtain ⟨e, he, rfl⟩ := List.mem_map.1 h
            exact ⟨e, hperm.mem_iff.2 he, rfl⟩
        simp only [e3] at e1
        rw [← e2] at e1
        simpa [Array.getD, h1, h2] using e1
    subst hce
    rw [Nat.zero_add]
    refine hK β a w ⟨hfr.size, hfr.defers, fun t u h => ?_⟩ (hch.perm ?_) (fun p hp => hch.at_ p (by simp [hMk p hp]))
    · rcases hF β t u h with h | ⟨e, he, rfl, rfl⟩
      · exact hfr.at_ t u h
      · exact hdone e (hperm.mem_iff.2 he)
    · exact ((hperm.flatMap_right _).append_right M).trans (hM β).symm
  | succ n ih =>
    intro rem done β cur a w hl hperm hcs hcur hdone hfr hch hclosed
    have hdm : ∀ e ∈ done, e ∈ es := fun e he => hperm.mem_iff.1 (by simp [he])
    have hrm : ∀ e ∈ rem, e ∈ es := fun e he => hperm.mem_iff.1 (by simp [he])
    have hsplit : ∀ e ∈ es, e ∈ done ∨ e ∈ rem := fun e he => by simpa using hperm.mem_iff.2 he
    have hnd2 : ((done ++ rem).map En.i).Nodup := (hperm.map En.i).nodup_iff.2 hesn
    have hdisj : ∀ e ∈ rem, ∀ e' ∈ done, e'.i ≠ e.i := fun e he e' he' h => by
      rw [List.map_append, List.nodup_append] at hnd2
      exact hnd2.2.2 _ (List.mem_map_of_mem he') _ (List.mem_map_of_mem he) h
    have hcr : ∀ e ∈ rem, ∀ b, cur.getD e.i b = listed.getD e.i b := fun e he b => by
      rw [hcur, if_neg]
      rintro ⟨⟨e', he', h⟩, _⟩
      exact hdisj e he e' he' h
    have hcd : ∀ e ∈ done, ∀ b, cur.getD e.i b = true := fun e he b => by
      rw [hcur, if_pos ⟨⟨e, he, rfl⟩, hlt _ (hin e (hdm e he))⟩]
    rw [show n + 1 + fuel = (n + fuel) + 1 by omega]
    refine ⟨fun h0 => ?_, fun i hi => ?_⟩
    · exfalso
      obtain ⟨e, he, hmin⟩ := exists_min rem En.i (by omega)
      have : e.i ∈ Region.ready .any ops cur := by
        obtain ⟨o, ho, hok⟩ := hop e.i (hin e (hrm e he))
        refine mem_ready.2 ⟨by rw [hcr e he]; exact hunl _ (hin e (hrm e he)), o, ho, fun x hx hb => ?_⟩
        unfold opOK at hok
        simp only [Bool.and_eq_true, Array.all_eq_true_iff_forall_mem, Bool.or_eq_true, Bool.not_eq_true', List.contains_iff_mem] at hok
        rcases hok.1.2 x hx with (h1 | h1) | h1
        · rw [hb] at h1; cases h1
        · rw [hcur]; split
          · rfl
          · exact h1
        · obtain ⟨e', he', h2⟩ := hmem x.on h1.1
          have h3 : x.on < e.i := by simpa using h1.2
          rcases hsplit e' he' with h4 | h4
          · rw [← h2]; exact hcd e' h4 false
          · have := hmin e' h4; omega
      rw [h0] at this
      cases this
    · obtain ⟨hun, o, ho, hall⟩ := mem_ready.1 hi
      have hio : i ∈ ord := by
        rcases Nat.lt_or_ge i nR with hlt' | hge
        · rcases hcov i hlt' with h | h
          · exact h
          · rw [hcur] at hun
            split at hun
            · cases hun
            · rw [h] at hun; cases hun
        · obtain ⟨e0, he0, _⟩ := exists_min rem En.i (by omega)
          have hlt' : i < ops.size := (Array.getElem?_eq_some_iff.1 ho).1
          have h1 := htail i hlt'
          rw [ho] at h1
          simp only [List.all_eq_true, List.contains_iff_mem] at h1
          rcases h1 with h1 | h1
          · have : i < nR := by simpa using h1
            omega
          · have h2 := heldGo_listed (ops := ops) (o := o) (cur := cur) hclosed (fun j hw => by
              obtain ⟨x, hx, hb⟩ := Array.any_eq_true'.1 hw
              simp only [Bool.and_eq_true, beq_iff_eq] at hb
              have := hall x hx hb.1
              rwa [hb.2] at this) ord.reverse [] (by simp) _ (h1 e0.i (hin e0 (hrm e0 he0)))
            rw [hcr e0 he0, hunl2 _ (hin e0 (hrm e0 he0))] at h2
            cases h2
      obtain ⟨e, he, rfl⟩ := hmem i hio
      have her : e ∈ rem := by
        rcases hsplit e he with h | h
        · rw [hcd e h] at hun; cases hun
        · exact h
      obtain ⟨r1, r2, rfl⟩ := List.append_of_mem her
      obtain ⟨o', ho', hok⟩ := hop e.i hio
      have hoo : o' = o := by rw [ho] at ho'; exact (Option.some.inj ho').symm
      subst hoo
      have hod : o'.dst = some e.d := by have := hdst e he; simpa [dstI, ho] using this
      have hperm' : ((e :: done) ++ (r1 ++ r2)).Perm es := by
        refine List.Perm.trans ?_ hperm
        have : (done ++ (r1 ++ e :: r2)).Perm (done ++ (e :: (r1 ++ r2))) := List.Perm.append_left _ List.perm_middle
        exact (this.trans List.perm_middle).symm
      have hcur' : ∀ k b, (cur.setIfInBounds e.i true).getD k b = if (∃ x ∈ e :: done, x.i = k) ∧ k < listed.size then true else listed.getD k b := fun k b => by
        by_cases hk : e.i = k
        · subst hk
          have h1 := hlt _ hio
          rw [if_pos ⟨⟨e, by simp, rfl⟩, h1⟩]
          simp [Array.getD, hcs, h1]
        · rw [getD_set_ne b hk, hcur]
          simp [hk]
      have hclosed' : ∀ k o, ops[k]? = some o → (cur.setIfInBounds e.i true).getD k false = true → ∀ x ∈ o.after, Region.binds .any x = true → (cur.setIfInBounds e.i true).getD x.on false = true := fun k ok hok' hk x hx hb => by
        refine getD_set_true ?_
        by_cases hki : e.i = k
        · subst hki
          rw [ho] at hok'
          cases hok'
          exact hall x hx hb
        · rw [getD_set_ne false hki] at hk
          exact hclosed k ok hok' hk x hx hb
      have hfr' : ∀ v, FrOK X.n ds fr0 (a.put o'.dst v) := fun v => by
        refine ⟨by simp [Act.put, hod, hfr.size], by rw [hod]; exact hfr.defers, fun t u h => ?_⟩
        have hne : e.d ≠ t := fun h' => (hd e he).2.1 (h' ▸ hkeys t u h)
        rw [hod]
        simp only [Act.put, Array.getElem?_setIfInBounds_ne hne]
        exact hfr.at_ t u h
      have hput : ∀ v, (a.put o'.dst v).tmps[e.d]? = some v := fun v => by
        rw [hod]
        simp [Act.put, hfr.size, (hd e he).1]
      have hkeep : ∀ v, ∀ x ∈ done, (a.put o'.dst v).tmps[x.d]? = a.tmps[x.d]? := fun v x hx => by
        have hne : e.d ≠ x.d := fun h' => by
          have h1 := (hd e he).2.2 x.i (hin x (hdm x hx)) (hdisj e her x hx)
          exact h1 (by rw [h']; exact hdst x (hdm x hx))
        rw [hod]
        simp only [Act.put, Array.getElem?_setIfInBounds_ne hne]
      unfold wpOpIn
      simp only [ho]
      cases e with
      | p i d v =>
        obtain ⟨fr', hkn', op, ty, g, hopx, hcase⟩ := hP i d v he
        obtain ⟨o2, h2, h3, h4, h5, h6⟩ := opX_some hopx
        have h2' : ops[i]? = some o' := ho
        rw [h2'] at h2
        cases h2
        have hag : ∀ t ∈ o'.looksAt ops, ∀ u, look fr' t = some u → a.tmps[t]? = some u := fun t ht u hu => by
          rcases hkn' t u hu with h | ⟨j, hj⟩
          · exact hfr.at_ t u h
          · unfold opOK at hok
            simp only [Bool.and_eq_true, List.all_eq_true, Bool.or_eq_true, List.contains_iff_mem] at hok
            have hj1 : dstI ops j = some t := hdst _ hj
            rcases hok.2 t ht with h | h
            · exact absurd h (hd _ hj).2.1
            · rcases h j (hin _ hj) with h | h
              · rw [hj1] at h; simp at h
              · obtain ⟨x, hx, hb⟩ := Array.any_eq_true'.1 h
                simp only [Bool.and_eq_true, beq_iff_eq] at hb
                have h7 := hall x hx hb.1
                rw [hb.2] at h7
                rcases hsplit _ hj with h8 | h8
                · exact hdone _ h8
                · have h9 := hcr _ h8 false
                  simp only [En.i] at h9
                  rw [h9, show listed.getD j false = false from hunl2 _ (hin _ hj)] at h7
                  cases h7
        have hsz2 : ∀ t u, look fr' t = some u → t < a.tmps.size := fun t u h => by
          rcases hkn' t u h with h | ⟨j, hj⟩
          · exact (Array.getElem?_eq_some_iff.1 (hfr.at_ t u h)).1
          · rw [hfr.size]; exact (hd _ hj).1
        have hend : ∀ w' u, u = v → (∀ M1, Chg X.w0 X.M0 M1 w → Chg X.w0 X.M0 M1 w') →
            (i < nR → Has Mk w') ∧ anyS (FW X.rd) X.P ops nR Mk Q (n + fuel) (cur.setIfInBounds i true) (a.put o'.dst u) w' := fun w' u hu hw => by
          subst hu
          have hch' := hw _ hch
          refine ⟨fun _ p hp => hch'.at_ p (by simp [hMk p hp]), ih (r1 ++ r2) (.p i d u :: done) β _ _ _ (by simp at hl ⊢; omega) hperm' (by simp [hcs]) hcur' ?_ (hfr' u) (by simpa [En.m] using hch') hclosed'⟩
          intro x hx
          rcases List.mem_cons.1 hx with rfl | hx
          · exact hput u
          · rw [hkeep u x hx]; exact hdone x hx
        rcases hcase with ⟨hg, hpv⟩ | ⟨hg, rfl⟩
        · have hw : Region.wanted o' (yielded ops a.tmps) = true := by
            unfold Region.wanted
            cases hgo : o'.guard with
            | none => rfl
            | some q =>
              obtain ⟨j, want⟩ := q
              rw [← h6, hgo] at hg
              obtain ⟨dg, hdg, hlg⟩ := hg
              have hdg' : ((ops[j]?).bind (·.dst)) = some dg := hdg
              have := hag dg (by unfold Oper.looksAt; rw [hgo]; simp [hdg']) _ hlg
              simp [yielded, hdg', this]
          rw [if_pos hw]
          obtain ⟨hnd', hpv⟩ := hpv o' h4 h5
          refine wpIn_of_out (by rw [h4]; exact hnd') ?_
          have hev : execOp a.eval o' = execOp (patch fr' a).eval o' := by
            refine execOp_congr o' (plainOps_spec hpl i o' h2').1 fun x hx => ?_
            cases x with
            | tmp t =>
              have ht : t ∈ o'.looksAt ops := List.mem_append_left _ (List.mem_filterMap.2 ⟨.tmp t, by simpa using hx, rfl⟩)
              have h8 : (patch fr' a).tmps[t]? = a.tmps[t]? := by
                rw [patch_at]
                cases hl' : look fr' t with
                | none => rfl
                | some u =>
                  simp only [hsz2 t u hl', if_true]
                  exact (hag t ht u hl').symm
              simp only [Act.eval, Array.getD_eq_getD_getElem?, h8]
            | const c => rfl
            | global c => rfl
            | func c => rfl
          rw [hev]
          refine (hpv (patch fr' a) ds w ⟨by rw [patch_size]; exact hfr.size, hfr.defers, fun t u h => ?_⟩ (by have h9 := hch.nodup; rw [List.map_append, List.nodup_append] at h9; exact h9.2.1) (fun p hp => hch.at_ p (by simp [hp]))).mono ?_
          · rw [patch_at, h]
            simp only [hsz2 t u h, if_true]
          · rintro u w' ⟨hu, hw'⟩
            exact hend w' u hu hw'
        · have hw : Region.wanted o' (yielded ops a.tmps) = false := by
            unfold Region.wanted
            cases hgo : o'.guard with
            | none => rw [← h6, hgo] at hg; exact hg.elim
            | some q =>
              obtain ⟨j, want⟩ := q
              rw [← h6, hgo] at hg
              obtain ⟨dg, vg, hdg, hlg, hvg⟩ := hg
              have hdg' : ((ops[j]?).bind (·.dst)) = some dg := hdg
              have := hag dg (by unfold Oper.looksAt; rw [hgo]; simp [hdg']) _ hlg
              simp only [yielded, hdg', Option.bind_some, this]
              cases vg with
              | bool b => cases b <;> cases want <;> first | rfl | cases hvg
              | _ => rfl
          rw [if_neg (by rw [hw]; simp)]
          exact ⟨fun _ _ => trivial, hend w _ rfl (fun _ h => h)⟩
      | a i d t cs =>
        obtain ⟨ty, z, hopx, hz, hzc⟩ := hA i d t cs he
        obtain ⟨o2, h2, h3, h4, h5, h6⟩ := opX_some hopx
        have h2' : ops[i]? = some o' := ho
        rw [h2'] at h2
        cases h2
        rw [if_pos (by unfold Region.wanted; rw [h6])]
        refine wpIn_of_value (fun _ => trivial) (by rw [h4]; simp) (v := .pointer (some ⟨w.heap.size, 0, none⟩)) (w' := w.alloc (.cells cs t (0, 0))) ?_ ?_
        · simp only [execOp, h4, Instr.alloc, Sem.run_bind, hz w, Result.andThen, newVar, newRow, newObj, Sem.run, Sem.run_pure, hzc]
          rfl
        · have hβ : ∀ x ∈ done, x.i ≠ i := fun x hx => hdisj _ her x hx
          have hch' : Chg X.w0 X.M0 ((En.a i d t cs :: done).flatMap (En.m fun j => if j = i then w.heap.size else β j) ++ M) (w.alloc (.cells cs t (0, 0))) := by
            have h7 : done.flatMap (En.m fun j => if j = i then w.heap.size else β j) = done.flatMap (En.m β) := by
              simp only [List.flatMap]
              congr 1
              refine List.map_congr_left fun x hx => ?_
              have := hβ x hx
              cases x with
              | p => rfl
              | a j d' t' cs' => simp only [En.i] at this; simp [En.m, this]
            rw [List.flatMap_cons, h7]
            simpa [En.m] using hch.alloc (.cells cs t (0, 0))
          refine ⟨fun _ p hp => hch'.at_ p (by simp [hMk p hp]), ih (r1 ++ r2) (.a i d t cs :: done) (fun j => if j = i then w.heap.size else β j) _ _ _ (by simp at hl ⊢; omega) hperm' (by simp [hcs]) hcur' ?_ (hfr' _) hch' hclosed'⟩
          intro x hx
          rcases List.mem_cons.1 hx with rfl | hx
          · simpa [En.v] using hput _
          · rw [hkeep _ x hx, hdone x hx]
            have := hβ x hx
            cases x with
            | p => rfl
            | a j d' t' cs' => simp only [En.i] at this; simp [En.v, this]

/-- **A region that draws its order, of operations that only compute or lay a new block: each one is walked once.** Then its tail comes. -/
theorem gd_all {X : Cx} {ops : Array Oper} {nR : Nat} {Mk : Mem} {fuel : Nat} {listed : Array Bool} {Q : Post} {ds : List Deferred} {fr : Fr} {M : Mem} (ord keys : List Nat) (hkeys : (fr.map (·.1)) = keys) (hck : drawOK X.n ops nR listed ord keys = true) (hnd : ord.Nodup) (hMk : ∀ p ∈ Mk, p ∈ M) (hf : fuel = ord.length + (fuel - ord.length))
    (h : SeqK X ops M (fun F Mm => ∀ β, GD X ops nR Mk (fuel - ord.length) (lists listed ord) Q ⟨ds, F β, Mm β⟩) ord fr (fun _ => fr) (fun _ => M)) : GD X ops nR Mk fuel listed Q ⟨ds, fr, M⟩ := fun a w hs hM => by
  obtain ⟨es, Ff, Mf, h1, h2, h3, h4, h5, h6⟩ := h.spec
  have hlook : ∀ (fr : Fr) t, (∃ u, look fr t = some u) ↔ t ∈ fr.map (·.1) := fun fr t => by
    induction fr with
    | nil => simp [look]
    | cons p r ih =>
      obtain ⟨d, v⟩ := p
      simp only [look, List.map_cons, List.mem_cons]
      by_cases e : d = t
      · subst e; simp
      · simp [e, Ne.symm e, ih]
  have hcl : closedB ops listed = true := by
    unfold drawOK at hck
    simp only [Bool.and_eq_true] at hck
    exact hck.1.1.1.2
  have := anyS_all (Q := lift X Q) (ds := ds) (Mk := Mk) (M := M) (fr0 := fr) (fuel := fuel - ord.length) (Ff := Ff) (Mf := Mf) hck (fun t u h => hkeys ▸ (hlook fr t).1 ⟨u, h⟩) (fun t ht => (hlook fr t).2 (hkeys ▸ ht)) h1 hMk hnd h2 h3 h4 h5
    (fun β a w hfr hch hmk => h6 β a w ⟨hfr, hch⟩ hmk) es.length es [] (fun _ => 0) listed a w rfl (by simp) rfl (by simp) (by simp) hs.1 (by simpa using hs.2) (fun k o ho hk x hx hb => by
      unfold closedB at hcl
      have h7 := List.all_eq_true.1 hcl k (List.mem_range.2 (Array.getElem?_eq_some_iff.1 ho).1)
      rw [ho, hk] at h7
      simp only [Bool.not_true, Bool.false_or, Array.all_eq_true_iff_forall_mem, Bool.or_eq_true, Bool.not_eq_true'] at h7
      exact (h7 x hx).resolve_left (by simp [hb]))
  rw [← h1, List.length_map] at hf
  rw [hf]
  rw [← h1, List.length_map] at this
  exact this
section
variable {X : Cx} {ops : Array Oper} {M : Mem} {K : ((Nat → Nat) → Fr) → ((Nat → Nat) → Mem) → Prop} {i d : Nat} {op : Op} {ty : TypeId} {g : Option (Nat × Bool)} {v : Value} {r : List Nat} {fr : Fr} {F : (Nat → Nat) → Fr} {Mm : (Nat → Nat) → Mem}
theorem sq_q (ho : opX ops i = some (some d, op, ty, g)) (hg : Gd ops fr g) (hw : ∀ c, op ≠ .defer c) (hq : QV X.P op ty fr M v) (h : SeqK X ops M K r ((d, v) :: fr) (fun β => (d, v) :: F β) Mm) : SeqK X ops M K (i :: r) fr F Mm :=
  .p ⟨op, ty, g, ho, .inl ⟨hg, pv_q (fun _ _ => hw) hq⟩⟩ h
theorem sq_q0 (d : Nat) (op : Op) (ty : TypeId) (hq : QV X.P op ty fr M v) (h : SeqK X ops M K r ((d, v) :: fr) (fun β => (d, v) :: F β) Mm) (ho : opX ops i = some (some d, op, ty, none) := by kernel_rfl) (hw : ∀ c, op ≠ .defer c := by exact fun _ h => nomatch h) : SeqK X ops M K (i :: r) fr F Mm :=
  sq_q ho trivial hw hq h
theorem sq_p (ho : opX ops i = some (some d, op, ty, g)) (hg : Gd ops fr g) (hq : PV X op ty fr M v) (h : SeqK X ops M K r ((d, v) :: fr) (fun β => (d, v) :: F β) Mm) : SeqK X ops M K (i :: r) fr F Mm :=
  .p ⟨op, ty, g, ho, .inl ⟨hg, hq⟩⟩ h
theorem sq_n (ho : opX ops i = some (some d, op, ty, g)) (hg : Gn ops fr g) (h : SeqK X ops M K r ((d, undef) :: fr) (fun β => (d, undef) :: F β) Mm) : SeqK X ops M K (i :: r) fr F Mm :=
  .p ⟨op, ty, g, ho, .inr ⟨hg, rfl⟩⟩ h
theorem sq_a {t : TypeId} {z : Value} {cs : Array Value} (ho : opX ops i = some (some d, .alloc t, ty, none)) (hz : Zer X.P t z) (hc : z.cells = cs) (h : SeqK X ops M K r fr (fun β => (d, .pointer (some ⟨β i, 0, none⟩)) :: F β) (fun β => (β i, .cells cs t (0, 0)) :: Mm β)) : SeqK X ops M K (i :: r) fr F Mm :=
  .a ⟨ty, z, ho, hz, hc⟩ h
theorem sq_case {b : Bool} (hl : look fr d = some (.bool b)) (hF : ∀ β, look (F β) d = some (.bool b)) (ht : b = true → SeqK X ops M K r ((d, .bool true) :: fr) (fun β => (d, .bool true) :: F β) Mm)
    (hf : b = false → SeqK X ops M K r ((d, .bool false) :: fr) (fun β => (d, .bool false) :: F β) Mm) : SeqK X ops M K r fr F Mm := by
  cases b with
  | true => exact .know hl hF (ht rfl)
  | false => exact .know hl hF (hf rfl)
end
end Go.E
