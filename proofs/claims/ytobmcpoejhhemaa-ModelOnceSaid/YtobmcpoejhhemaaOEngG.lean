import Derived.Test.YtobmcpoejhhemaaOEngF
import Derived.RangeFuncIn
import Derived.RangeFuncRecord
import Derived.Laws.MakeOwn
namespace Go.E
open Go

/-- A loop over a function: its record. -/
structure Rg where
  l : Nat
  D : Nat
  fn : FuncId
  tm : Array Value
  ps : Array Tmp
  assign : Code
  body : Code
def Rg.r (g : Rg) (st : LoopState) (pend : Option Code) : Loop := { state := st, pending := pend, fn := g.fn, tmps := g.tm, params := g.ps, assign := g.assign, body := g.body, defers := g.D }
def Rg.o (g : Rg) (st : LoopState) (pend : Option Code) : Nat × Obj := (g.l, .loop (g.r st pend))

/-- What a round does: yield's contract. -/
def RCt (P : Program) (g : Rg) (args : List Value) (A : Mem) (R : Value → Mem → Prop) : Prop :=
  ∀ rd w, (A.map (·.1)).Nodup → Has A w → RoundIn (FW rd) 0 P g.l g.fn ((g.ps.zip args.toArray).foldl (fun tmps (t, a) => tmps.setIfInBounds t a) g.tm) g.assign g.body w fun e w' => ∃ u A', e = .returned u ∧ R u A' ∧ Chg w A A' w'

/-- A call of yield. -/
theorem os_yield {X : Cx} {ty : TypeId} {x : Operand} {xs : Array Operand} {ts : Array TypeId} {args : List Value} {g : Rg} {d : Nat} {A B M : Mem} {R : Value → Mem → Prop} {ds : List Deferred} {fr : Fr} {K : S → Prop} (hd : Nat.blt d X.n = true)
    (hx : evo fr x = some (.func (.yield g.l) #[] #[])) (hxs : evs fr xs.toList = some args) (hlen : args.length = g.ps.size) (hs : Sel M A B) (hl : g.o .ready none ∈ A) (hc : RCt X.P g args A R)
    (h : ∀ u A', R u A' → K ⟨ds, (d, u) :: fr, A' ++ B⟩) : OpS X (.call { callee := .value x, args := xs, argTypes := ts }) ty (some d) ⟨ds, fr, M⟩ K := by
  rintro o hop hty hdst a w ⟨hf, hC⟩
  have hC2 := hC.perm hs.perm
  have hlw : w.heap[g.l]? = some (.loop (g.r .ready none)) := hC2.at_ _ (by simp [hl] : g.o .ready none ∈ A ++ B)
  have hm : xs.map a.eval = args.toArray := by
    apply Array.ext'
    simpa using evs_map hxs hf
  have hrun : (execOp a.eval o).run X.P w = .ok (.round g.l g.fn ((g.ps.zip args.toArray).foldl (fun tmps (t, a) => tmps.setIfInBounds t a) g.tm) g.assign g.body) w := by
    have hy := run_yield (P := X.P) (args := args.toArray) hlw (by simpa [Rg.r] using hlen)
    simp only [execOp, hop, resolve, hf.ev hx, Deferred.ofValue, hm]
    simp only [Sem.run_bind, Sem.run_pure, Result.andThen, invoke, Array.empty_append]
    exact hy
  refine ⟨fun f _ => trivial, ?_⟩
  rw [Oper.semAt_eq _ _ _ (by rw [hop]; simp), hrun]
  refine ⟨by simp [FW], RoundIn.mono (hc X.rd w hC2.nodup_left (fun p hp => hC2.at_ p (by simp [hp]))) ?_⟩
  rintro e w' ⟨u, A', rfl, hR, hch⟩
  refine ⟨⟨ds, (d, u) :: fr, A' ++ B⟩, ⟨?_, hC2.call hch⟩, h u A' hR⟩
  rw [hdst]
  exact hf.put (by simpa using hd) u

/-- What a round's body must come to. -/
def rndQ (g : Rg) (R : Value → Mem → Prop) : Post := fun e s =>
  let fin (jump : Option Code) : Prop := ∃ M1 own, s.M.Perm (g.o .busy none :: (M1 ++ own)) ∧ R (.bool jump.isNone) (g.o (if jump.isNone then .ready else .done) jump :: M1)
  match e with
  | .normal => fin none
  | .ret => fin (some .ret)
  | .exit id => fin (some (.exit id))
  | _ => False

theorem rndQ_end {P : Program} {g : Rg} {R : Value → Mem → Prop} {w w1 : World} {A : Mem} {s : S} {jump : Option Code} (hC : Chg w A s.M w1)
    (hf : ∃ M1 own, s.M.Perm (g.o .busy none :: (M1 ++ own)) ∧ R (.bool jump.isNone) (g.o (if jump.isNone then .ready else .done) jump :: M1)) :
    ∃ v w', (Instr.endRound g.l jump).run P w1 = .ok v w' ∧ ∃ u A', Ending.returned v = .returned u ∧ R u A' ∧ Chg w A A' w' := by
  obtain ⟨M1, own, hp, hR⟩ := hf
  have hC2 := hC.perm hp
  have hb : w1.heap[g.l]? = some (.loop (g.r .busy none)) := hC2.at_ _ (List.mem_cons_self ..)
  refine ⟨_, _, run_endRound (P := P) jump hb, _, _, rfl, hR, ?_⟩
  have h3 := hC2.up (b := g.l) (o' := .loop (g.r (if jump.isNone then .ready else .done) jump)) .here
    (w' := w1.putObj g.l (.loop { g.r .busy none with state := if jump.isNone then .ready else .done, pending := jump })) rfl rfl rfl (Nat.le_refl _) (by simp) (World.putObj_heap_same (hC2.lt _ (List.mem_cons_self ..))) (fun k hk => World.putObj_heap_other hk)
  have h4 : Chg w A ((g.o (if jump.isNone then .ready else .done) jump :: M1) ++ own) _ := h3
  exact h4.drop

/-- A round's contract, out of the walks of its parts. -/
theorem rct_of {P : Program} {g : Rg} {A : Mem} {R : Value → Mem → Prop} {p n : Nat} {v : Value} {fr : Fr} (hps : g.ps = #[p]) (hn : g.tm.size = n) (hp : Nat.blt p n = true) (hfr : FrOK n [] fr ⟨g.tm, []⟩)
    (h : ∀ w0, G ⟨P, some g.l, w0, A, n⟩ g.assign (thenQ (fun s => s.ds = [] ∧ ∃ M1, s.M.Perm (g.o .ready none :: M1) ∧ G ⟨P, some g.l, w0, A, n⟩ g.body (rndQ g R) ⟨[], s.fr, g.o .busy none :: M1⟩) (fun _ _ => False)) ⟨[], (p, v) :: fr, A⟩) :
    RCt P g [v] A R := fun rd w hnd hM => by
  have hz : (g.ps.zip [v].toArray).foldl (fun tmps (t, a) => tmps.setIfInBounds t a) g.tm = g.tm.setIfInBounds p v := by rw [hps]; simp
  rw [hz]
  refine roundIn_of_wpIn trivial ?_
  have h0 := h w ⟨g.tm.setIfInBounds p v, []⟩ w ⟨by
    have := hfr.put (d := p) (by simpa using hp) v
    exact this, Chg.refl hnd hM⟩
  refine wpIn_mono (F := FW (some g.l)) h0 ?_
  rintro e a w1 ⟨hnp, s, ⟨hF, hC⟩, hq⟩
  cases e with
  | normal =>
    obtain ⟨hds, M1, hperm, hb⟩ := hq
    have hC2 := hC.perm hperm
    have hlw : w1.heap[g.l]? = some (.loop (g.r .ready none)) := hC2.at_ _ (List.mem_cons_self ..)
    refine ⟨_, run_beginRound (P := P) hlw rfl, ?_⟩
    have hC3 : Chg w A (g.o .busy none :: M1) (w1.putObj g.l (.loop { g.r .ready none with state := .busy })) :=
      hC2.up .here rfl rfl rfl (Nat.le_refl _) (by simp) (World.putObj_heap_same (hC2.lt _ (List.mem_cons_self ..))) (fun k hk => World.putObj_heap_other hk)
    have hF' : FrOK n [] s.fr a := hds ▸ hF
    refine wpIn_mono (hb a _ ⟨hF', hC3⟩) ?_
    rintro e a2 w2 ⟨hnp2, s2, ⟨_, hC4⟩, hq2⟩
    cases e with
    | normal => exact rndQ_end hC4 hq2
    | ret => exact rndQ_end hC4 hq2
    | exit id => exact rndQ_end hC4 hq2
    | goto t => exact hq2.elim
    | panic c => exact hnp2.elim
    | outgrown => exact hq2.elim
  | exit id => exact hq.elim
  | goto t => exact hq.elim
  | ret => exact hq.elim
  | panic c => exact hnp.elim
  | outgrown => exact hq.elim

/-- What comes behind the loop. -/
def aftQ (Q : Post) (ds : List Deferred) (fr : Fr) (M : Mem) : Option Code → Prop
  | none => Q .normal ⟨ds, fr, M⟩
  | some .ret => Q .ret ⟨ds, fr, M⟩
  | some (.exit id) => Q (.exit id) ⟨ds, fr, M⟩
  | _ => False
/-- The statement, outermost. -/
theorem g_range {X : Cx} {gop : Operand} {ps : Array Tmp} {assign body : Code} {f : FuncId} {caps : Array Value} {ds : List Deferred} {fr : Fr} {M A B : Mem} {Q : Post} (hrd : X.rd = none) (hg : evo fr gop = some (.func (.func f) #[] caps)) (hent : Ent X.P f) (hs : Sel M A B)
    (hc : ∀ g : Rg, g.ps = ps → g.assign = assign → g.body = body → g.tm.size = X.n → FrOK X.n [] fr ⟨g.tm, []⟩ →
      Ct X.P f (Value.func (.yield g.l) #[] #[] :: caps.toList).toArray (g.o .ready none :: (g.D, .deferred (some [])) :: A)
        (fun _ M' => ∃ st pend A', M' = g.o st pend :: (g.D, .deferred (some [])) :: A' ∧ st ≠ .busy ∧ aftQ Q (mark g.D :: ds) fr ((g.D, .deferred (some [])) :: (A' ++ B)) pend)) :
    G X (.rangeFunc gop ps assign body) Q ⟨ds, fr, M⟩ := fun a w hw => by
  obtain ⟨hF, hC⟩ := hw
  refine wpIn_rangeFunc fun fn _ => ?_
  let g : Rg := ⟨w.heap.size + 1, w.heap.size, fn, a.tmps, ps, assign, body⟩
  have hgF : FrOK X.n [] fr ⟨g.tm, []⟩ := ⟨hF.size, rfl, hF.at_⟩
  have hct := hc g rfl rfl rfl hF.size hgF
  have hC2 : Chg X.w0 X.M0 (g.o .ready none :: (g.D, .deferred (some [])) :: (A ++ B)) ((w.alloc (.deferred (some []))).alloc (.loop (g.r .ready none))) := by
    have h1 := (hC.perm hs.perm).alloc (.deferred (some []))
    have h2 := h1.alloc (.loop (g.r .ready none))
    have hsz : (w.alloc (.deferred (some []))).heap.size = w.heap.size + 1 := by simp
    rw [hsz] at h2
    exact h2
  have hC3 : Chg X.w0 X.M0 ((g.o .ready none :: (g.D, .deferred (some [])) :: A) ++ B) ((w.alloc (.deferred (some []))).alloc (.loop (g.r .ready none))) := hC2
  refine ⟨g.l, [mark g.D], (w.alloc (.deferred (some []))).alloc (.loop (g.r .ready none)), ⟨.fn (.func f) caps, #[.func (.yield g.l) #[] #[]]⟩, (w.alloc (.deferred (some []))).alloc (.loop (g.r .ready none)), f, (Value.func (.yield g.l) #[] #[] :: caps.toList).toArray, (w.alloc (.deferred (some []))).alloc (.loop (g.r .ready none)), ?_, ?_, fun _ _ => trivial, ?_, by simp [FW], ?_⟩
  · have := run_enterLoop_outer (P := X.P) (w := w) fn a.tmps ps assign body
    rw [show (FW X.rd).round = none by simp [FW, hrd]]
    exact this
  · have hev := hF.ev hg
    change (Deferred.ofValue (a.eval gop) (#[Operand.const (.func (.yield g.l) #[] #[])].map a.eval)).run X.P _ = _
    rw [hev]
    simp [Deferred.ofValue, Act.eval]
  · have := hent (Value.func (.yield g.l) #[] #[] :: caps.toList).toArray ((w.alloc (.deferred (some []))).alloc (.loop (g.r .ready none)))
    simp only [invoke]
    have he : #[Value.func (.yield g.l) #[] #[]] ++ caps = (Value.func (.yield g.l) #[] #[] :: caps.toList).toArray := by
      apply Array.ext'; simp
    rw [he]
    exact this
  · have h1 : CallsIn (FW none) 0 X.P f (Value.func (.yield g.l) #[] #[] :: caps.toList).toArray ((w.alloc (.deferred (some []))).alloc (.loop (g.r .ready none))) _ := callsIn_wide.2 (hct _ hC3.nodup_left (fun p hp => hC3.at_ p (by simp only [List.mem_append]; exact .inl hp)))
    have h2 : CallsIn (FW X.rd) 0 X.P f (Value.func (.yield g.l) #[] #[] :: caps.toList).toArray ((w.alloc (.deferred (some []))).alloc (.loop (g.r .ready none))) _ := h1
    refine CallsIn.mono h2 ?_
    rintro e w3 ⟨v, M', rfl, ⟨st, pend, A', rfl, hst, hq⟩, hch⟩
    have hC4 : Chg X.w0 X.M0 (g.o st pend :: ((g.D, .deferred (some [])) :: (A' ++ B))) w3 := hC3.call hch
    have hlw : w3.heap[g.l]? = some (.loop (g.r st pend)) := hC4.at_ _ (List.mem_cons_self ..)
    refine ⟨pend, _, run_endLoop (P := X.P) hlw hst, ?_⟩
    have hC5 : Chg X.w0 X.M0 (g.o .exhausted pend :: ((g.D, .deferred (some [])) :: (A' ++ B))) (w3.putObj g.l (.loop { g.r st pend with state := .exhausted })) :=
      hC4.up .here rfl rfl rfl (Nat.le_refl _) (by simp) (World.putObj_heap_same (hC4.lt _ (List.mem_cons_self ..))) (fun k hk => World.putObj_heap_other hk)
    have hC6 : Chg X.w0 X.M0 ((g.D, .deferred (some [])) :: (A' ++ B)) (w3.putObj g.l (.loop { g.r st pend with state := .exhausted })) :=
      (hC5.perm (M' := ((g.D, .deferred (some [])) :: (A' ++ B)) ++ [g.o .exhausted pend]) (List.perm_append_comm (l₁ := [g.o .exhausted pend]) (l₂ := (g.D, .deferred (some [])) :: (A' ++ B)))).drop
    have hok : S.ok X ⟨mark g.D :: ds, fr, (g.D, .deferred (some [])) :: (A' ++ B)⟩ { a with defers := [mark g.D] ++ a.defers } (w3.putObj g.l (.loop { g.r st pend with state := .exhausted })) :=
      ⟨⟨hF.size, by simp [hF.defers], hF.at_⟩, hC6⟩
    cases pend with
    | none => exact ⟨trivial, _, hok, hq⟩
    | some c =>
      cases c with
      | ret => exact g_ret hq _ _ hok
      | exit id => exact g_exit hq _ _ hok
      | _ => exact hq.elim
def isRange : Code → Option (Operand × Array Tmp)
  | .rangeFunc gop ps _ _ => some (gop, ps)
  | _ => none
theorem p_range {X : Cx} {c : Code} {gop : Operand} {ps : Array Tmp} {f : FuncId} {caps : Array Value} {ds : List Deferred} {fr : Fr} {M A B : Mem} {Q : Post} (h : isRange c = some (gop, ps)) (hrd : X.rd = none) (hg : evo fr gop = some (.func (.func f) #[] caps)) (hent : Ent X.P f) (hs : Sel M A B)
    (hc : ∀ g : Rg, g.ps = ps → g.assign = c0 c → g.body = c1 c → g.tm.size = X.n → FrOK X.n [] fr ⟨g.tm, []⟩ →
      Ct X.P f (Value.func (.yield g.l) #[] #[] :: caps.toList).toArray (g.o .ready none :: (g.D, .deferred (some [])) :: A)
        (fun _ M' => ∃ st pend A', M' = g.o st pend :: (g.D, .deferred (some [])) :: A' ∧ st ≠ .busy ∧ aftQ Q (mark g.D :: ds) fr ((g.D, .deferred (some [])) :: (A' ++ B)) pend)) :
    G X c Q ⟨ds, fr, M⟩ := by
  cases c <;> cases h
  exact g_range hrd hg hent hs hc
/-- At the end, a mark among the deferred calls. -/
theorem ret_mark {P : Program} {rv : List ResultVar} {R : Value → Mem → Prop} {fr : Fr} {M : Mem} {D : Nat} (M' : Mem) {vs : List Value} {e : Exit} (he : e = .normal ∨ e = .ret) (hs : ∃ N B, M.Perm ((D, .deferred (some [])) :: N) ∧ N.Perm (M' ++ B) ∧ ResVs P ⟨[], fr, N⟩ rv vs) (hR : R (valOf vs) M') : retQ P rv R e ⟨[mark D], fr, M⟩ := by
  obtain ⟨N, B, h1, h2, h3⟩ := hs
  exact ⟨he, N, .inr ⟨D, rfl, h1⟩, vs, M', B, h3, h2, hR⟩
theorem FrOK.pickT {n : Nat} {fr fr' : Fr} {tm : Array Value} (h : FrOK n [] fr ⟨tm, []⟩) (l : List Nat) (hp : E.pick l fr = some fr') : FrOK n [] fr' ⟨tm, []⟩ := FrOK.pick h hp
theorem Enc.flat_take {α : Type} (E : Enc α) : ∀ (l : List α) (i : Nat), (E.flat l).take (i * E.n) = E.flat (l.take i)
  | [], i => by simp [Enc.flat]
  | x :: l, 0 => by simp [Enc.flat]
  | x :: l, i + 1 => by
    rw [E.flat_cons, List.take_succ_cons, E.flat_cons, Nat.succ_mul, List.take_append, Array.length_toList, E.sz, Nat.add_sub_cancel, E.flat_take l i, List.take_of_length_le (by simp [E.sz])]
theorem Enc.flat_drop {α : Type} (E : Enc α) : ∀ (l : List α) (i : Nat), (E.flat l).drop (i * E.n) = E.flat (l.drop i)
  | [], i => by simp [Enc.flat]
  | x :: l, 0 => by simp [Enc.flat]
  | x :: l, i + 1 => by
    rw [E.flat_cons, List.drop_succ_cons, Nat.succ_mul, List.drop_append, Array.length_toList, E.sz, Nat.add_sub_cancel, E.flat_drop l i, List.drop_eq_nil_of_le (by simp [E.sz]), List.nil_append]
/-- An element is written over. -/
theorem splice_flat {α : Type} (E : Enc α) {l : List α} {i : Nat} (a : α) (hi : i < l.length) : splice (E.flat l).toArray (0 + i * E.n) (E.c a) = (E.flat (l.set i a)).toArray := by
  unfold splice
  rw [Nat.zero_add, E.sz]
  congr 1
  show (E.flat l).take (i * E.n) ++ (E.c a).toList ++ (E.flat l).drop (i * E.n + E.n) = _
  rw [show i * E.n + E.n = (i + 1) * E.n from (Nat.succ_mul i E.n).symm, E.flat_take, E.flat_drop, List.set_eq_take_append_cons_drop, if_pos hi, E.flat_append, E.flat_cons, List.append_assoc]
theorem flat_fit {α : Type} (E : Enc α) {l : List α} {i : Nat} (hi : i < l.length) : 0 + i * E.n + E.n ≤ (E.flat l).toArray.size := by
  have h := E.flat_length l
  have h2 : (i + 1) * E.n ≤ l.length * E.n := Nat.mul_le_mul_right _ hi
  rw [Nat.succ_mul] at h2
  simp [h]
  omega
theorem qv_ix {P : Program} {fr : Fr} {M : Mem} {ty t : TypeId} {x y : Operand} {p q v : Value} (hx : evo fr x = some p) (hy : evo fr y = some q) (hr : ∀ w, (Instr.index t p q).run P w = .ok v w) : QV P (.index t x y) ty fr M v := fun o ho _ a w n ds hf _ =>
  ⟨by simp, by simp only [execOp, ho, hf.ev hx, hf.ev hy, Sem.run_bind, hr w, Result.andThen, Sem.run_pure]⟩
end Go.E
