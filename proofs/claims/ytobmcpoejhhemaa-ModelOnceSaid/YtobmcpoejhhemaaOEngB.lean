import Derived.Test.YtobmcpoejhhemaaOEng
import Derived.Maps.AppendAt
namespace Go.E
open Go

def splice (cs : Array Value) (off : Nat) (vs : Array Value) : Array Value := (cs.toList.take off ++ vs.toList ++ cs.toList.drop (off + vs.size)).toArray

theorem setRow_chg {w0 w : World} {M0 M M' : Mem} {b : Nat} {cs cs' : Array Value} {e : TypeId} (h : Chg w0 M0 M w) (u : Up M b (.cells cs e (0, 0)) (.cells cs' e (0, 0)) M') : Chg w0 M0 M' (w.setRow b cs') := by
  obtain ⟨r, h1, _⟩ := u.perm
  have hb : w.heap[b]? = some (.cells cs e (0, 0)) := (h.perm h1).at_ (b, _) (by simp)
  exact h.up u rfl rfl rfl (Nat.le_refl _) (by simp) (setRow_heap w b cs cs' e (0, 0) hb) (fun k hk => setRow_other w b k cs' hk)

theorem Up.mem {M M' : Mem} {b : Nat} {o o' : Obj} (u : Up M b o o' M') : (b, o) ∈ M := by
  obtain ⟨r, h1, _⟩ := u.perm
  exact h1.mem_iff.2 (by simp)

theorem os_store {X : Cx} {ty t : TypeId} {x y : Operand} {b off n : Nat} {cs cs' : Array Value} {e : TypeId} {v : Value} {ds : List Deferred} {fr : Fr} {M M' : Mem} {K : S → Prop}
    (hx : evo fr x = some (.pointer (some ⟨b, off, none⟩))) (hy : evo fr y = some v) (hz : Siz X.P t n) (hv : v.cells.size = n) (h1 : ∀ u ∈ v.cells.toList, u.oneCell' = true)
    (hu : Up M b (.cells cs e (0, 0)) (.cells cs' e (0, 0)) M') (hfit : off + n ≤ cs.size) (hcs : splice cs off v.cells = cs') (h : K ⟨ds, fr, M'⟩) : OpS X (.store t x y) ty none ⟨ds, fr, M⟩ K := by
  rintro o hop hty hdst a w ⟨hf, hc⟩
  have hb : w.heap[b]? = some (.cells cs e (0, 0)) := hc.at_ _ hu.mem
  have hst := run_storeCells_at (P := X.P) b off e v.cells.toList 0 cs w hb (by simpa [hv] using hfit) h1
  simp only [Nat.add_zero, Array.length_toList] at hst
  have hcs' : (cs.toList.take off ++ v.cells.toList ++ cs.toList.drop (off + v.cells.size)).toArray = cs' := hcs
  rw [hcs'] at hst
  refine wpIn_of_skip (fun _ => trivial) (by rw [hop]; simp) (w' := w.setRow b cs') ?_ ?_
  · simp [execOp, hop, hf.ev hx, hf.ev hy, Instr.storeAt, Instr.sureAddr, storeVar, Sem.run_bind, hz w, hv, hst]
  · rw [hdst]
    exact ⟨⟨ds, fr, M'⟩, ⟨hf, setRow_chg hc hu⟩, h⟩

theorem splice_one {cs : Array Value} {off : Nat} {v : Value} (h : off < cs.size) : splice cs off #[v] = cs.setIfInBounds off v := by
  unfold splice
  apply Array.ext'
  simp only [Array.toList_setIfInBounds]
  have h' : off < cs.toList.length := by simpa using h
  rw [List.set_eq_take_append_cons_drop, if_pos h']
  simp

theorem splice_whole {cs vs : Array Value} (h : cs.size = vs.size) : splice cs 0 vs = vs := by
  unfold splice
  apply Array.ext'
  have : cs.toList.drop (0 + vs.size) = [] := List.drop_eq_nil_of_le (by simp [h])
  simp only [this]
  simp

/-- A store of one cell. -/
theorem os_store1 {X : Cx} {ty t : TypeId} {x y : Operand} {b off : Nat} {cs cs' : Array Value} {e : TypeId} {v : Value} {ds : List Deferred} {fr : Fr} {M M' : Mem} {K : S → Prop}
    (hx : evo fr x = some (.pointer (some ⟨b, off, none⟩))) (hy : evo fr y = some v) (hz : Siz X.P t 1) (hv : v.cells = #[v]) (h1 : v.oneCell' = true)
    (hu : Up M b (.cells cs e (0, 0)) (.cells cs' e (0, 0)) M') (hfit : off < cs.size) (hcs : cs.setIfInBounds off v = cs') (h : K ⟨ds, fr, M'⟩) : OpS X (.store t x y) ty none ⟨ds, fr, M⟩ K :=
  os_store hx hy hz (by rw [hv]; rfl) (by rw [hv]; simpa using h1) hu (by omega) (by rw [hv, splice_one hfit]; exact hcs) h

theorem os_alloc {X : Cx} {ty t : TypeId} {d : Nat} {z : Value} {ds : List Deferred} {fr : Fr} {M : Mem} {K : S → Prop} (hd : d < X.n) (hz : Zer X.P t z)
    (h : ∀ b, K ⟨ds, (d, .pointer (some ⟨b, 0, none⟩)) :: fr, (b, .cells z.cells t (0, 0)) :: M⟩) : OpS X (.alloc t) ty (some d) ⟨ds, fr, M⟩ K := by
  rintro o hop hty hdst a w ⟨hf, hc⟩
  refine wpIn_of_value (fun _ => trivial) (by rw [hop]; simp) (v := .pointer (some ⟨w.heap.size, 0, none⟩)) (w' := w.alloc (.cells z.cells t (0, 0))) ?_ ?_
  · simp only [execOp, hop, Instr.alloc, Sem.run_bind, hz w, Result.andThen, newVar, newRow, newObj, Sem.run, Sem.run_pure]
    rfl
  · rw [hdst]
    exact ⟨⟨ds, (d, .pointer (some ⟨w.heap.size, 0, none⟩)) :: fr, (w.heap.size, .cells z.cells t (0, 0)) :: M⟩, ⟨hf.put hd _, hc.alloc _⟩, h _⟩

theorem os_box {X : Cx} {ty t : TypeId} {x : Operand} {d : Nat} {v : Value} {ds : List Deferred} {fr : Fr} {M : Mem} {K : S → Prop} (hd : d < X.n) (hx : evo fr x = some v)
    (h : ∀ b, K ⟨ds, (d, .pointer (some ⟨b, 0, none⟩)) :: fr, (b, .cells v.cells t (0, 0)) :: M⟩) : OpS X (.box t x) ty (some d) ⟨ds, fr, M⟩ K := by
  rintro o hop hty hdst a w ⟨hf, hc⟩
  refine wpIn_of_value (fun _ => trivial) (by rw [hop]; simp) (v := .pointer (some ⟨w.heap.size, 0, none⟩)) (w' := w.alloc (.cells v.cells t (0, 0))) ?_ ?_
  · simp only [execOp, hop, hf.ev hx, Instr.box, Sem.run_bind, Result.andThen, newVar, newRow, newObj, Sem.run, Sem.run_pure]
    rfl
  · rw [hdst]
    exact ⟨⟨ds, (d, .pointer (some ⟨w.heap.size, 0, none⟩)) :: fr, (w.heap.size, .cells v.cells t (0, 0)) :: M⟩, ⟨hf.put hd _, hc.alloc _⟩, h _⟩

theorem os_boxA {X : Cx} {ty t : TypeId} {x : Operand} {d : Nat} {cs : Array Value} {ds : List Deferred} {fr : Fr} {M : Mem} {K : S → Prop} (hd : Nat.blt d X.n = true) (hx : evo fr x = some (.agg cs))
    (h : ∀ b, K ⟨ds, (d, .pointer (some ⟨b, 0, none⟩)) :: fr, (b, .cells cs t (0, 0)) :: M⟩) : OpS X (.box t x) ty (some d) ⟨ds, fr, M⟩ K := os_box (by simpa using hd) hx h
theorem os_box1 {X : Cx} {ty t : TypeId} {x : Operand} {d : Nat} {v : Value} {ds : List Deferred} {fr : Fr} {M : Mem} {K : S → Prop} (hd : Nat.blt d X.n = true) (hx : evo fr x = some v) (hv : v.cells = #[v])
    (h : ∀ b, K ⟨ds, (d, .pointer (some ⟨b, 0, none⟩)) :: fr, (b, .cells #[v] t (0, 0)) :: M⟩) : OpS X (.box t x) ty (some d) ⟨ds, fr, M⟩ K := os_box (by simpa using hd) hx (by rw [hv]; exact h)
theorem os_allocA {X : Cx} {ty t : TypeId} {d : Nat} {cs : Array Value} {ds : List Deferred} {fr : Fr} {M : Mem} {K : S → Prop} (hd : Nat.blt d X.n = true) (hz : Zer X.P t (.agg cs))
    (h : ∀ b, K ⟨ds, (d, .pointer (some ⟨b, 0, none⟩)) :: fr, (b, .cells cs t (0, 0)) :: M⟩) : OpS X (.alloc t) ty (some d) ⟨ds, fr, M⟩ K := os_alloc (by simpa using hd) hz h
theorem os_alloc1 {X : Cx} {ty t : TypeId} {d : Nat} {v : Value} {ds : List Deferred} {fr : Fr} {M : Mem} {K : S → Prop} (hd : Nat.blt d X.n = true) (hz : Zer X.P t v) (hv : v.cells = #[v])
    (h : ∀ b, K ⟨ds, (d, .pointer (some ⟨b, 0, none⟩)) :: fr, (b, .cells #[v] t (0, 0)) :: M⟩) : OpS X (.alloc t) ty (some d) ⟨ds, fr, M⟩ K := os_alloc (by simpa using hd) hz (by rw [hv]; exact h)

/-- Whatever lays one new block: the run is given. -/
theorem os_new {X : Cx} {op : Op} {ty : TypeId} {d : Nat} {vf : Nat → Value} {ob : Obj} {ds : List Deferred} {fr : Fr} {M : Mem} {K : S → Prop} (hd : d < X.n) (hnd : ∀ c, op ≠ .defer c)
    (hr : ∀ o : Oper, o.op = op → ∀ (a : Act) n ds w, FrOK n ds fr a → (execOp a.eval o).run X.P w = .ok (.value (vf w.heap.size)) (w.alloc ob))
    (h : ∀ b, K ⟨ds, (d, vf b) :: fr, (b, ob) :: M⟩) : OpS X op ty (some d) ⟨ds, fr, M⟩ K := by
  rintro o hop hty hdst a w ⟨hf, hc⟩
  refine wpIn_of_value (fun _ => trivial) (by rw [hop]; exact hnd) (hr o hop a _ _ w hf) ?_
  rw [hdst]
  exact ⟨⟨ds, (d, vf w.heap.size) :: fr, (w.heap.size, ob) :: M⟩, ⟨hf.put hd _, hc.alloc _⟩, h _⟩

/-- A slice literal. -/
theorem os_buildSlice {X : Cx} {ty t e : TypeId} {len d : Nat} {ps : List (Nat × Operand)} {vs : List (Nat × Value)} {cs : Array Value} {ds : List Deferred} {fr : Fr} {M : Mem} {K : S → Prop} (hd : d < X.n)
    (hp : evps fr ps = some vs)
    (hb : ∀ w, (Instr.buildSlice t len vs.toArray).run X.P w = .ok (.slice (some ⟨w.heap.size, 0, none⟩) len len) (w.alloc (.cells cs e (0, 0))))
    (h : ∀ b, K ⟨ds, (d, .slice (some ⟨b, 0, none⟩) len len) :: fr, (b, .cells cs e (0, 0)) :: M⟩) : OpS X (.buildSlice t len ps.toArray) ty (some d) ⟨ds, fr, M⟩ K :=
  os_new (vf := fun b => .slice (some ⟨b, 0, none⟩) len len) hd (by simp) (fun o hop a n ds w hf => by simp only [execOp, hop, evps_map hp hf, Sem.run_bind, hb w]; rfl) h

/-- make of a slice: the run is given. -/
theorem os_makeSlice {X : Cx} {ty t e : TypeId} {x y : Operand} {p q : Value} {n c d : Nat} {cs : Array Value} {ds : List Deferred} {fr : Fr} {M : Mem} {K : S → Prop} (hd : d < X.n)
    (hx : evo fr x = some p) (hy : evo fr y = some q)
    (hb : ∀ w, (Instr.makeSlice t p q).run X.P w = .ok (.slice (some ⟨w.heap.size, 0, none⟩) n c) (w.alloc (.cells cs e (0, 0))))
    (h : ∀ b, K ⟨ds, (d, .slice (some ⟨b, 0, none⟩) n c) :: fr, (b, .cells cs e (0, 0)) :: M⟩) : OpS X (.makeSlice t x y) ty (some d) ⟨ds, fr, M⟩ K :=
  os_new (vf := fun b => .slice (some ⟨b, 0, none⟩) n c) hd (by simp) (fun o hop a n ds w hf => by simp only [execOp, hop, hf.ev hx, hf.ev hy, Sem.run_bind, hb w]; rfl) h

/-- Function g has a body. -/
def Ent (P : Program) (g : FuncId) : Prop := ∀ args w, (callFunc g args).run P w = .ok (.enter g args) w

theorem wpIn_of_call {X : Cx} {o : Oper} {a : Act} {w : World} {g : FuncId} {args : Array Value} {K : Act → World → Prop} {Q : Exit → Act → World → Prop} (hnd : ∀ c, o.op ≠ .defer c)
    (hr : (execOp a.eval o).run X.P w = .ok (.enter g args) w) (hc : Calls X.P g args w fun e w' => ∃ v, e = .returned v ∧ K (a.put o.dst v) w') : o.wpIn (FW X.rd) 0 X.P a w K Q := by
  refine ⟨fun f _ => trivial, ?_⟩
  rw [Oper.semAt_eq _ _ _ hnd, hr]
  refine ⟨by simp [FW], ?_⟩
  have h1 : CallsIn (FW none) 0 X.P g args w fun e w' => ∃ v, e = .returned v ∧ K (a.put o.dst v) w' := callsIn_wide.2 hc
  have h2 : CallsIn (FW X.rd) 0 X.P g args w fun e w' => ∃ v, e = .returned v ∧ K (a.put o.dst v) w' := h1
  refine CallsIn.mono h2 ?_
  rintro e w' ⟨v, rfl, hk⟩
  exact hk

theorem os_callW {X : Cx} {ty : TypeId} {g : FuncId} {args : List Value} {op : Op} {d : Nat} {A B M : Mem} {R : Value → Mem → Prop} {ds : List Deferred} {fr : Fr} {K : S → Prop} (hd : d < X.n) (hnd : ∀ c, op ≠ .defer c)
    (hr : ∀ o : Oper, o.op = op → ∀ (a : Act) n ds w, FrOK n ds fr a → (execOp a.eval o).run X.P w = .ok (.enter g args.toArray) w)
    (hs : Sel M A B) (hc : Ct X.P g args.toArray A R) (h : ∀ v A', R v A' → K ⟨ds, (d, v) :: fr, A' ++ B⟩) : OpS X op ty (some d) ⟨ds, fr, M⟩ K := by
  rintro o hop hty hdst a w ⟨hf, hC⟩
  have hC2 := hC.perm hs.perm
  refine wpIn_of_call (by rw [hop]; exact hnd) (hr o hop a _ _ w hf) ((hc w hC2.nodup_left (fun p hp => hC2.at_ p (by simp [hp]))).mono ?_)
  rintro e w' ⟨v, A', rfl, hR, hch⟩
  refine ⟨v, rfl, ⟨ds, (d, v) :: fr, A' ++ B⟩, ⟨?_, hC2.call hch⟩, h v A' hR⟩
  rw [hdst]
  exact hf.put hd v

/-- A call of a function. -/
theorem os_call {X : Cx} {ty : TypeId} {g : FuncId} {xs : Array Operand} {ts : Array TypeId} {args : List Value} {d : Nat} {A B M : Mem} {R : Value → Mem → Prop} {ds : List Deferred} {fr : Fr} {K : S → Prop} (hd : d < X.n)
    (hg : Ent X.P g) (hx : evs fr xs.toList = some args) (hs : Sel M A B) (hc : Ct X.P g args.toArray A R) (h : ∀ v A', R v A' → K ⟨ds, (d, v) :: fr, A' ++ B⟩) :
    OpS X (.call { callee := .value (.func g), args := xs, argTypes := ts }) ty (some d) ⟨ds, fr, M⟩ K :=
  os_callW hd (by simp) (fun o hop a n ds w hf => by
    have hm : xs.map a.eval = args.toArray := by
      apply Array.ext'
      simpa using evs_map hx hf
    simp only [execOp, hop, resolve, Act.eval, Deferred.ofValue, hm]
    simp [Sem.run_bind, invoke]
    exact hg _ _) hs hc h

/-- A function that only computes: it may lay blocks of its own. -/
def Pu (P : Program) (g : FuncId) (args : List Value) (v : Value) : Prop := Ct P g args.toArray [] fun u M' => u = v ∧ M' = []
theorem os_callP {X : Cx} {ty : TypeId} {g : FuncId} {xs : Array Operand} {ts : Array TypeId} {args : List Value} {v : Value} {d : Nat} {M : Mem} {ds : List Deferred} {fr : Fr} {K : S → Prop} (hd : Nat.blt d X.n = true)
    (hg : Ent X.P g) (hx : evs fr xs.toList = some args) (hc : Pu X.P g args v) (h : K ⟨ds, (d, v) :: fr, M⟩) :
    OpS X (.call { callee := .value (.func g), args := xs, argTypes := ts }) ty (some d) ⟨ds, fr, M⟩ K :=
  os_call (by simpa using hd) hg hx .nil hc (by rintro v A' ⟨rfl, rfl⟩; exact h)

/-- A call of a function value. -/
theorem os_callV {X : Cx} {ty : TypeId} {g : FuncId} {x : Operand} {caps : Array Value} {xs : Array Operand} {ts : Array TypeId} {args args' : List Value} {d : Nat} {A B M : Mem} {R : Value → Mem → Prop} {ds : List Deferred} {fr : Fr} {K : S → Prop} (hd : d < X.n)
    (hf0 : evo fr x = some (.func (.func g) #[] caps)) (hg : Ent X.P g) (hx : evs fr xs.toList = some args) (ha : args ++ caps.toList = args') (hs : Sel M A B) (hc : Ct X.P g args'.toArray A R) (h : ∀ v A', R v A' → K ⟨ds, (d, v) :: fr, A' ++ B⟩) :
    OpS X (.call { callee := .value x, args := xs, argTypes := ts }) ty (some d) ⟨ds, fr, M⟩ K :=
  os_callW hd (by simp) (fun o hop a n ds w hf => by
    have hm : xs.map a.eval = args.toArray := by
      apply Array.ext'
      simpa using evs_map hx hf
    have hm2 : args.toArray ++ caps = args'.toArray := by rw [← ha]; simp
    simp only [execOp, hop, resolve, hf.ev hf0, Deferred.ofValue, hm]
    simp [Sem.run_bind, invoke, hm2]
    exact hg _ _) hs hc h

/-- A call of a function that the model itself carries out: the run is given. -/
theorem qv_extern {P : Program} {fr : Fr} {M : Mem} {ty : TypeId} {g : FuncId} {xs : Array Operand} {ts : Array TypeId} {args : List Value} {v : Value} (hx : evs fr xs.toList = some args)
    (hg : ∀ w, Has M w → (callFunc g args.toArray).run P w = .ok (.value v) w) : QV P (.call { callee := .value (.func g), args := xs, argTypes := ts }) ty fr M v := fun o hop _ a w n ds hf hM => by
  have hm : xs.map a.eval = args.toArray := by
    apply Array.ext'
    simpa using evs_map hx hf
  refine ⟨by simp, ?_⟩
  simp only [execOp, hop, resolve, Act.eval, Deferred.ofValue, hm]
  simp [Sem.run_bind, invoke, hg w hM]


/-- No run takes a draw back. -/
theorem ask_drawn {α : Type} (q : Ask α) : ∀ w : World, w.drawn ≤ (w.ask q).2.drawn := by
  induction q with
  | done a => intro w; exact Nat.le_refl _
  | ask what range k ih =>
    intro w
    simp only [World.ask]
    split
    · exact ih _ w
    · have := ih ((Question.extern what range).cut (w.tape w.drawn (.extern what range))) { w with drawn := w.drawn + 1 }
      exact Nat.le_trans (Nat.le_succ _) this

theorem viewStore_drawn {P : Program} {w w2 : World} {at_ : Addr} {u : TypeId} {k : Addr} {v : Value} {b : Bool} {l : List Addr} (h : w.viewStore P at_ u k v b = .ok (w2, l)) : w2.drawn = w.drawn := by
  unfold World.viewStore at h
  simp only [bind, Except.bind, pure, Except.pure] at h
  repeat (split at h <;> try cases h)
  all_goals rfl

theorem farStore_drawn {P : Program} {w w2 : World} {a : Addr} {v : Value} {b : Bool} {l : List Addr} (h : w.farStore P a v b = .ok (w2, l)) : w2.drawn = w.drawn := by
  unfold World.farStore at h
  split at h
  · split at h
    · rename_i hr; cases h; exact viewStore_drawn hr
    · cases h
  · cases h

theorem run_drawn {α : Type} {P : Program} (s : Sem α) : ∀ (w w' : World) (v : α), s.run P w = .ok v w' → w.drawn ≤ w'.drawn := by
  induction s with
  | pure a => intro w w' v h; simp only [Sem.run] at h; cases h; exact Nat.le_refl _
  | load m a k ih =>
    intro w w' v h
    simp only [Sem.run] at h
    split at h
    · exact ih _ w w' v h
    · split at h
      · exact ih _ w w' v h
      · cases h
  | store m a u k ih =>
    intro w w' v h
    cases u <;> simp only [Sem.run] at h <;> first
      | cases h
      | (split at h
         · split at h
           · cases h
           · have := ih _ w' v h
             exact this
         · split at h
           · rename_i hf
             have h1 := ih _ w' v h
             rw [farStore_drawn hf] at h1
             exact h1
           · cases h)
  | new o k ih => intro w w' v h; simp only [Sem.run] at h; have := ih _ _ w' v h; exact this
  | shape r k ih => intro w w' v h; simp only [Sem.run] at h; exact ih _ _ w' v h
  | freeze a n k ih => intro w w' v h; simp only [Sem.run] at h; have := ih _ w' v h; unfold World.freeze at this; split at this <;> exact this
  | frozen a k ih => intro w w' v h; simp only [Sem.run] at h; exact ih _ _ w' v h
  | getObj r k ih =>
    intro w w' v h
    simp only [Sem.run] at h
    split at h
    · cases h
    · exact ih _ _ w' v h
    · cases h
  | setObj r o k ih =>
    intro w w' v h
    simp only [Sem.run] at h
    split at h
    · cases h
    · have := ih _ w' v h
      exact this
    · cases h
  | choose q k ih =>
    intro w w' v h
    simp only [Sem.run] at h
    split at h
    · exact ih _ _ w' v h
    · have := ih _ _ w' v h
      exact Nat.le_trans (Nat.le_succ _) this
  | sys c k ih =>
    intro w w' v h
    simp only [Sem.run] at h
    refine Nat.le_trans ?_ (ih _ _ w' v h)
    unfold World.sys
    have := ask_drawn (Kernel.perform c w.os) w
    split
    · exact Nat.le_refl _
    · rename_i heq; rw [heq] at this; exact this
  | program k ih => intro w w' v h; simp only [Sem.run] at h; exact ih _ _ w' v h
  | mark m k ih => intro w w' v h; simp only [Sem.run] at h; exact ih _ w' v h
  | halt x => intro w w' v h; simp only [Sem.run] at h; cases h

/-- The slice value sv owns the memory A, whose first cells are xs. -/
def Own (e : TypeId) (size : Nat) (sv : Value) (n : Nat) (xs : List Value) (A : Mem) : Prop :=
  xs.length = n * size ∧ ((sv = .slice none 0 0 ∧ n = 0 ∧ A = []) ∨
    ∃ b cap cur, sv = .slice (some ⟨b, 0, none⟩) n cap ∧ A = [(b, .cells cur e (0, 0))] ∧ n ≤ cap ∧ cap ≤ maxLen ∧ cur.size = cap * size ∧ cur.toList.take (n * size) = xs)

structure ElT (P : Program) (t e : TypeId) (size bytes : Nat) : Prop where
  sl : P.underlying t = some (.slice e)
  inf : ∃ i z, P.info? e = some i ∧ i.zero = some z ∧ i.size = size ∧ i.bytes = bytes ∧ z.cells.size = size
  pos : 0 < size

theorem os_append {X : Cx} {ty t e : TypeId} {size bytes : Nat} {x y : Operand} {sv : Value} {n m c b2 off2 d : Nat} {xs news : List Value} {cs2 : Array Value} {e2 : TypeId} {fz : Nat × Nat} {ds : List Deferred} {fr : Fr} {M A B : Mem} {K : S → Prop} (hd : d < X.n)
    (ht : ElT X.P t e size bytes) (hx : evo fr x = some sv) (hy : evo fr y = some (.slice (some ⟨b2, off2, none⟩) m c)) (hs : Sel M A B) (ho : Own e size sv n xs A)
    (h2 : At M b2 (.cells cs2 e2 fz)) (hl : news.length = m * size) (hn : (cs2.toList.drop off2).take (m * size) = news) (h1 : ∀ u ∈ news, u.oneCell' = true)
    (h63 : n + m ≤ maxLen) (hby : (n + m) * bytes ≤ 140737488355328)
    (h : ∀ sv' A', Own e size sv' (n + m) (xs ++ news) A' → K ⟨ds, (d, sv') :: fr, A' ++ B⟩) :
    OpS X (.call { callee := .builtin .append, args := #[x, y], argTypes := #[t, t] }) ty (some d) ⟨ds, fr, M⟩ K := by
  rintro o hop hty hdst a w ⟨hf, hC⟩
  have hC2 := hC.perm hs.perm
  obtain ⟨i, z, hi, hz, hsz, hbt, hzs⟩ := ht.inf
  have hown : w.ownsRow 0 e size sv n xs := by
    refine ⟨ho.1, ?_⟩
    rcases ho.2 with ⟨h1, h2, _⟩ | ⟨b, cap, cur, h1, h2, h3⟩
    · exact .inl ⟨h1, h2⟩
    · exact .inr ⟨b, cap, cur, h1, Nat.zero_le _, hC2.at_ (b, _) (by simp [h2]), h3⟩
  have hnews : ∀ j u, news[j]? = some u → w.cell? ((⟨b2, off2, none⟩ : Addr).add j) = some u := fun j u hu => by
    have hadd : (⟨b2, off2, none⟩ : Addr).add j = ⟨b2, off2 + j, none⟩ := by unfold Addr.add; split <;> simp_all
    rw [hadd, cell_of_row w b2 _ cs2 e2 fz (hC.at_ _ h2.mem)]
    rw [← hn, List.getElem?_take] at hu
    split at hu
    · rw [List.getElem?_drop] at hu; simpa using hu
    · cases hu
  obtain ⟨v', w', hrun, hown', hg, _, hbl⟩ := run_append_own_at (P := X.P) w 0 t o.type e i z size bytes ht.sl hi hz hsz hbt hzs ht.pos sv n xs hown ⟨b2, off2, none⟩ m c news hl hnews h1 h63 hby (Nat.zero_le _)
  have hdr := run_drawn _ _ _ _ hrun
  refine wpIn_of_value (fun _ => trivial) (by rw [hop]; simp) (v := v') (w' := w') ?_ ?_
  · simp only [execOp, hop, resolve, List.map_toArray, List.map_cons, List.map_nil, hf.ev hx, hf.ev hy, Sem.run_bind, Sem.run_pure, Result.andThen, invoke, builtin, hrun]
  · rw [hdst]
    have key : ∃ A', Own e size v' (n + m) (xs ++ news) A' ∧ Chg w A A' w' := by
      have hA : ∀ k, sv.ownBlock = some k → ∃ o, A = [(k, o)] := fun k hk => by
        rcases ho.2 with ⟨h1, _⟩ | ⟨b, cap, cur, h1, h2, _⟩
        · rw [h1] at hk; simp [Value.ownBlock] at hk
        · rw [h1] at hk; simp [Value.ownBlock] at hk; subst hk; exact ⟨_, h2⟩
      have hold : ∀ k, k < w.heap.size → (∀ p ∈ A, p.1 ≠ k) → w'.heap[k]? = w.heap[k]? := fun k hk hp => hg.block k hk fun e => by
        obtain ⟨o, rfl⟩ := hA k e.symm
        exact hp (k, o) (by simp) rfl
      rcases hown'.2 with ⟨h1, h2⟩ | ⟨g, cap, cur, h1, _, h3, h4⟩
      · exact ⟨[], ⟨hown'.1, .inl ⟨h1, h2, rfl⟩⟩, ⟨hg.os, hg.tape, hg.output, hdr, hg.size, hold, by simp, by simp, by simp⟩⟩
      · refine ⟨[(g, .cells cur e (0, 0))], ⟨hown'.1, .inr ⟨g, cap, cur, h1, rfl, h4⟩⟩, ⟨hg.os, hg.tape, hg.output, hdr, hg.size, hold, ?_, by simp, ?_⟩⟩
        · intro p hp
          simp at hp
          subst hp
          have hgb : v'.ownBlock = some g := by rw [h1]; rfl
          rcases hbl with hb | hb
          · obtain ⟨o, rfl⟩ := hA g (hb ▸ hgb)
            exact .inl ⟨(g, o), by simp, rfl⟩
          · rw [hgb] at hb
            simp at hb
            exact .inr (by simp [hb])
        · intro p hp
          simp at hp
          subst hp
          exact h3
    obtain ⟨A', ho', hch⟩ := key
    exact ⟨⟨ds, (d, v') :: fr, A' ++ B⟩, ⟨hf.put hd v', hC2.call hch⟩, h v' A' ho'⟩
end Go.E
