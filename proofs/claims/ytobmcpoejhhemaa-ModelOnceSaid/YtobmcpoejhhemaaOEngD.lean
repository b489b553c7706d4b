import Derived.Test.YtobmcpoejhhemaaOEngC
namespace Go.E
open Go

def bodyOf (f : Func) : Code := f.body.getD .skip
def c0 : Code → Code
  | .seq a _ => a
  | .cond _ a _ => a
  | .block _ b => b
  | .loop b => b
  | .scope b => b
  | .rangeFunc _ _ a _ => a
  | c => c
def c1 : Code → Code
  | .seq _ b => b
  | .cond _ _ b => b
  | .rangeFunc _ _ _ b => b
  | c => c
def opsOf : Code → Array Oper
  | .region _ ops _ => ops
  | _ => #[]
def isSeq : Code → Bool
  | .seq .. => true
  | _ => false
def isLoop : Code → Bool
  | .loop .. => true
  | _ => false
def isRet : Code → Bool
  | .ret => true
  | _ => false
def isSkip : Code → Bool
  | .skip => true
  | _ => false
def isPlain : Code → Bool
  | .region _ _ false => true
  | _ => false
def isDraw : Code → Bool
  | .region _ _ true => true
  | _ => false
def isBlock : Code → Option Nat
  | .block id _ => some id
  | _ => none
def isExit : Code → Option Nat
  | .exit id => some id
  | _ => none
def isCond : Code → Option Operand
  | .cond x _ _ => some x
  | _ => none

section
variable {X : Cx} {Q : Post} {s : S} {c : Code}
theorem p_seq (h : isSeq c = true) (h1 : G X (c0 c) (thenQ (G X (c1 c) Q) Q) s) : G X c Q s := by cases c <;> cases h; exact g_seq h1
theorem p_ret (h : isRet c = true) (h1 : Q .ret s) : G X c Q s := by cases c <;> cases h; exact g_ret h1
theorem p_skip (h : isSkip c = true) (h1 : Q .normal s) : G X c Q s := by cases c <;> cases h; exact g_skip h1
theorem p_exit (id : Nat) (h : isExit c = some id) (h1 : Q (.exit id) s) : G X c Q s := by cases c <;> cases h; exact g_exit h1
theorem p_block (id : Nat) (h : isBlock c = some id) (h1 : G X (c0 c) (inBlockQ id Q) s) : G X c Q s := by cases c <;> cases h; exact g_block h1
theorem p_cond (x : Operand) (h : isCond c = some x) {b : Bool} (hx : evo s.fr x = some (.bool b)) (ht : b = true → G X (c0 c) Q s) (hf : b = false → G X (c1 c) Q s) : G X c Q s := by cases c <;> cases h; exact g_cond hx ht hf
theorem p_condT (x : Operand) (h : isCond c = some x) (hx : evo s.fr x = some (.bool true)) (ht : G X (c0 c) Q s) : G X c Q s := p_cond x h hx (fun _ => ht) (fun h => by cases h)
theorem p_condF (x : Operand) (h : isCond c = some x) (hx : evo s.fr x = some (.bool false)) (hf : G X (c1 c) Q s) : G X c Q s := p_cond x h hx (fun h => by cases h) (fun _ => hf)
theorem p_loop (h : isLoop c = true) (I : S → Nat → Prop) {m : Nat} (h0 : I s m) (h1 : ∀ s m, I s m → G X (c0 c) (thenQ (fun s' => ∃ m', I s' m' ∧ m' < m) Q) s) : G X c Q s := by cases c <;> cases h; exact g_loop I h0 h1
theorem p_plain (h : isPlain c = true) (ord : List Nat) (ho : List.range (opsOf c).size = ord) (h1 : GO X (opsOf c) ord Q s) : G X c Q s := by
  cases c with
  | region id ops d => cases d <;> cases h; rw [← ho] at h1; exact g_region h1
  | _ => cases h
theorem p_draw (h : isDraw c = true) (hm : X.P.follows .mixedOrders = true) (nR n : Nat) (Mk : Mem) (hMk : ∀ p ∈ Mk, p ∈ s.M) (hn : (opsOf c).size = n) (h1 : GD X (opsOf c) nR Mk n (Array.replicate n false) Q s) : G X c Q s := by
  cases c with
  | region id ops d =>
    cases d <;> cases h
    subst hn
    exact g_draw hm nR Mk hMk h1
  | _ => cases h
end

theorem p_seqJ {X : Cx} {Q : Post} {s : S} {c : Code} (J : S → Prop) (h : isSeq c = true) (h1 : G X (c0 c) (thenQ J Q) s) (h2 : ∀ s, J s → G X (c1 c) Q s) : G X c Q s := by
  refine p_seq h (g_mono h1 ?_)
  intro e s q
  cases e <;> first | exact h2 s q | exact q
theorem look_cons_ok {n : Nat} {ds : List Deferred} {fr : Fr} {a : Act} {d : Nat} {v : Value} (h : FrOK n ds fr a) (hl : look fr d = some v) : FrOK n ds ((d, v) :: fr) a :=
  ⟨h.size, h.defers, fun t u ht => by
    simp only [look] at ht
    by_cases e : d = t
    · subst e; simp at ht; subst ht; exact h.at_ d v hl
    · simp [e] at ht; exact h.at_ t u ht⟩
theorem go_case {X : Cx} {ops : Array Oper} {ord : List Nat} {Q : Post} {ds : List Deferred} {fr : Fr} {M : Mem} {d : Nat} {b : Bool} (hl : look fr d = some (.bool b)) (ht : b = true → GO X ops ord Q ⟨ds, (d, .bool true) :: fr, M⟩) (hf : b = false → GO X ops ord Q ⟨ds, (d, .bool false) :: fr, M⟩) : GO X ops ord Q ⟨ds, fr, M⟩ := fun a w hs => by
  cases b with
  | true => exact ht rfl a w ⟨look_cons_ok hs.1 hl, hs.2⟩
  | false => exact hf rfl a w ⟨look_cons_ok hs.1 hl, hs.2⟩
theorem gd_case {X : Cx} {ops : Array Oper} {nR : Nat} {Mk : Mem} {fuel : Nat} {listed : Array Bool} {Q : Post} {ds : List Deferred} {fr : Fr} {M : Mem} {d : Nat} {b : Bool} (hl : look fr d = some (.bool b)) (ht : b = true → GD X ops nR Mk fuel listed Q ⟨ds, (d, .bool true) :: fr, M⟩) (hf : b = false → GD X ops nR Mk fuel listed Q ⟨ds, (d, .bool false) :: fr, M⟩) : GD X ops nR Mk fuel listed Q ⟨ds, fr, M⟩ := fun a w hs => by
  cases b with
  | true => exact ht rfl a w ⟨look_cons_ok hs.1 hl, hs.2⟩
  | false => exact hf rfl a w ⟨look_cons_ok hs.1 hl, hs.2⟩

/-- What is asked behind a piece of code is asked of fewer temporaries. -/
theorem p_weaken {X : Cx} {c : Code} {Q : Post} {ds : List Deferred} {fr fr' : Fr} {M : Mem} (l : List Nat) (hp : pick l fr = some fr') (h : G X c Q ⟨ds, fr', M⟩) : G X c Q ⟨ds, fr, M⟩ := g_weaken l hp h

/-- A function's contract, its body named. -/
theorem ct_body {P : Program} {f : FuncId} {fn : Func} {args : List Value} {M : Mem} {R : Value → Mem → Prop} {n : Nat} {rv : List ResultVar} (fr : Fr)
    (hf : P.funcs[f]? = some fn) (hb : fn.body.isSome = true) (hn : fn.ntmps = n) (hr : fn.results = rv.toArray) (ha : Nat.ble args.length n = true) (hfr : argFr 0 args = fr)
    (h : ∀ w0, G ⟨P, none, w0, M, n⟩ (bodyOf fn) (retQ P rv R) ⟨[], fr, M⟩) : Ct P f args.toArray M R :=
  ct_of hf (c := bodyOf fn) (by unfold bodyOf; cases hb' : fn.body <;> simp_all) hn hr (by simpa using ha) hfr h

/-- At the end: what is returned. -/
theorem ret_now {P : Program} {rv : List ResultVar} {R : Value → Mem → Prop} {fr : Fr} {M M' B : Mem} {vs : List Value} {e : Exit} (he : e = .normal ∨ e = .ret) (hv : ResVs P ⟨[], fr, M⟩ rv vs) (hs : Sel M M' B) (hR : R (valOf vs) M') : retQ P rv R e ⟨[], fr, M⟩ :=
  ⟨he, M, .inl ⟨rfl, rfl⟩, vs, M', B, hv, hs.perm, hR⟩

theorem res_tmp {P : Program} {s : S} {t : Tmp} {v : Value} (h : look s.fr t = some v) : ResV P s (.tmp t) v := .tmp h
theorem res_cell {P : Program} {s : S} {t : Tmp} {ty : TypeId} {v : Value} {b off : Nat} {cs : Array Value} {e : TypeId} {fz : Nat × Nat} (h : look s.fr t = some (.pointer (some ⟨b, off, none⟩))) (hm : (b, Obj.cells cs e fz) ∈ s.M) (hv : Ldv P ty cs off v) : ResV P s (.cell t ty) v :=
  .cell h hm fun w hw => hv w b e fz hw

/-- Blocks that hold the same. -/
theorem Ct.mono {P : Program} {f : FuncId} {args : Array Value} {M : Mem} {R R' : Value → Mem → Prop} (h : Ct P f args M R) (hr : ∀ v M', R v M' → R' v M') : Ct P f args M R' := fun w hn hM =>
  (h w hn hM).mono fun _ _ ⟨v, M', he, hR, hc⟩ => ⟨v, M', he, hr v M' hR, hc⟩
end Go.E
