import Derived.Test.YtobmcpoejhhemaaOEngB
namespace Go.E
open Go

section
variable {F : Fence} {P : Program} {ops : Array Oper} {Q : Exit → Act → World → Prop} {nR : Nat} {Mk : Mem}

/-- Whatever order is picked from here on; behind each of the first nR operations the blocks Mk lie as they lay. -/
def anyS (F : Fence) (P : Program) (ops : Array Oper) (nR : Nat) (Mk : Mem) (Q : Exit → Act → World → Prop) : Nat → Array Bool → Act → World → Prop
  | 0, listed, a, w => Region.ready .any ops listed = [] ∧ Q .normal a w
  | fuel + 1, listed, a, w =>
    (Region.ready .any ops listed = [] → Q .normal a w) ∧
    ∀ i ∈ Region.ready .any ops listed, wpOpIn F 0 P ops Q i (fun a' w' => (i < nR → Has Mk w') ∧ anyS F P ops nR Mk Q fuel (listed.setIfInBounds i true) a' w') a w

theorem wpAnyIn_of_anyS : ∀ (fuel : Nat) (listed : Array Bool) (a : Act) (w : World), anyS F P ops nR Mk Q fuel listed a w → wpAnyIn F 0 P .any ops Q fuel listed a w
  | 0, _, _, _, h => h
  | fuel + 1, _, _, _, h => ⟨h.1, fun i hi => wpOpIn_mono (fun a' w' h' => wpAnyIn_of_anyS fuel _ a' w' h'.2) (h.2 i hi)⟩

/-- In the state a, wherever Mk lies, the operation o leaves v and does nothing else (or is passed over, v being undef). -/
def YieldsMk (P : Program) (ops : Array Oper) (Mk : Mem) (o : Oper) (v : Value) (a : Act) : Prop :=
  (∀ c, o.op ≠ .defer c) ∧ ((Region.wanted o (yielded ops a.tmps) = true ∧ ∀ w, Has Mk w → (execOp a.eval o).run P w = .ok (.value v) w) ∨ (Region.wanted o (yielded ops a.tmps) = false ∧ v = undef))

theorem YieldsMk.of_same {o : Oper} {v : Value} {a a' : Act} (hy : YieldsMk P ops Mk o v a) (he : execOp a'.eval o = execOp a.eval o) (hw : Region.wanted o (yielded ops a'.tmps) = Region.wanted o (yielded ops a.tmps)) : YieldsMk P ops Mk o v a' := by
  unfold YieldsMk at *
  rw [he, hw]
  exact hy

theorem YieldsMk.wpOpIn {i : Nat} {o : Oper} {v : Value} {a : Act} {K : Act → World → Prop} {w : World} (hF : ∀ f, F.fn f) (hi : ops[i]? = some o) (hy : YieldsMk P ops Mk o v a) (hM : Has Mk w) (h : K (a.put o.dst v) w) : wpOpIn F 0 P ops Q i K a w := by
  unfold Go.wpOpIn
  simp only [hi]
  rcases hy.2 with ⟨hw, hv⟩ | ⟨hw, rfl⟩
  · simp only [hw, if_true]
    exact wpIn_of_value hF hy.1 (hv w hM) h
  · simp only [hw, Bool.false_eq_true, if_false]
    exact ⟨fun f _ => hF f, h⟩

theorem wpOpIn_putMk {j : Nat} {oi oj : Oper} {v : Value} (hF : ∀ f, F.fn f) (hj : ops[j]? = some oj) (hap : oi.apart ops oj = true)
    (hsi : ∀ cs b, oi.op ≠ .select cs b) (hsj : ∀ cs b, oj.op ≠ .select cs b) (hdj : ∀ c, oj.op ≠ .defer c)
    (hQ : ∀ c a w, Q (.panic c) (a.put oi.dst v) w → Q (.panic c) a w) {K : Act → World → Prop} {a : Act} {w : World}
    (hy : YieldsMk P ops Mk oi v a) (h : wpOpIn F 0 P ops Q j K (a.put oi.dst v) w) :
    wpOpIn F 0 P ops Q j (fun a' w' => YieldsMk P ops Mk oi v a' ∧ K (a'.put oi.dst v) w') a w := by
  obtain ⟨h1, h2, h3⟩ := Oper.apart_spec hap
  have keep : ∀ (a : Act), YieldsMk P ops Mk oi v a → ∀ u, YieldsMk P ops Mk oi v (a.put oj.dst u) := fun a hy u =>
    hy.of_same (execOp_put oi hsi a oj.dst u h3) (wanted_put oi a oj.dst u h3)
  have keepD : ∀ d, YieldsMk P ops Mk oi v { a with defers := d :: a.defers } := fun d => hy.of_same rfl rfl
  unfold wpOpIn at *
  simp only [hj] at *
  rw [wanted_put oj a oi.dst v h1, about_put oj w a oi.dst v h1] at h
  split
  · rename_i hw
    simp only [hw, if_true] at h
    unfold Oper.wpIn at *
    rw [about_put oj w a oi.dst v h1] at h
    refine ⟨h.1, ?_⟩
    have h := h.2
    rw [Oper.semAt_eq _ _ _ hdj, execOp_put oj hsj a oi.dst v h1] at h
    rw [Oper.semAt_eq _ _ _ hdj]
    generalize (execOp a.eval oj).run P w = r at *
    cases r with
    | ok x w' =>
      cases x <;> simp only [Oper.uponIn] at h ⊢
      case value u => exact ⟨keep a hy u, by rw [← Act.put_comm a v u h2]; exact h⟩
      case skip => exact ⟨keep a hy _, by rw [← Act.put_comm a v undef h2]; exact h⟩
      case defer d =>
        refine ⟨keep _ (keepD d) _, ?_⟩
        rw [← Act.put_comm _ v undef h2, ← Act.put_defers]
        exact h
      case enter f args =>
        refine ⟨h.1, CallsIn.mono h.2 fun e w'' he => ?_⟩
        cases e with
        | returned u => exact ⟨keep a hy u, by rw [← Act.put_comm a v u h2]; exact he⟩
        | panicked c => exact hQ _ _ _ he
        | outgrown => exact he
      case row row args => exact ⟨h.1, RowsIn.mono h.2 fun u w'' he => ⟨keep a hy u, by rw [← Act.put_comm a v u h2]; exact he⟩⟩
      case round l f tmps assign body =>
        refine ⟨h.1, RoundIn.mono h.2 fun e w'' he => ?_⟩
        cases e with
        | returned u => exact ⟨keep a hy u, by rw [← Act.put_comm a v u h2]; exact he⟩
        | panicked c => exact hQ _ _ _ he
        | outgrown => exact he
    | halt x w' =>
      cases x <;> simp only [Oper.uponIn] at h ⊢
      case panic u => exact hQ _ _ _ h
  · rename_i hw
    simp only [hw] at h
    exact ⟨h.1, keep a hy _, by rw [← Act.put_comm a v undef h2]; exact h.2⟩

def plainOps (ops : Array Oper) : Bool := ops.all fun o => match o.op with | .select .. | .defer .. => false | _ => true

theorem plainOps_spec (h : plainOps ops = true) : ∀ (j : Nat) (o : Oper), ops[j]? = some o → (∀ cs b, o.op ≠ .select cs b) ∧ ∀ c, o.op ≠ .defer c := fun j o ho => by
  unfold plainOps at h
  rw [Array.all_eq_true'] at h
  have := h o (Array.mem_of_getElem? ho)
  constructor
  · intro cs b e
    rw [e] at this
    simp at this
  · intro c e
    rw [e] at this
    simp at this

/-- Each operation from number nR on waits for i. -/
def tailWaits (ops : Array Oper) (nR i : Nat) : Bool := (List.range ops.size).all fun t => decide (t < nR) || ((ops[t]?).map fun o => o.after.any fun e => Region.binds .any e && e.on == i).getD false

theorem anyS_first {i : Nat} {oi : Oper} {v : Value} (hF : ∀ f, F.fn f) (hi : ops[i]? = some oi) (hpl : plainOps ops = true) (htw : tailWaits ops nR i = true)
    (hQ : ∀ c a w, Q (.panic c) (a.put oi.dst v) w → Q (.panic c) a w) :
    ∀ (fuel : Nat) (listed : Array Bool) (a : Act) (w : World),
      (∀ j oj, ops[j]? = some oj → j ≠ i → listed.getD j true = false → (∀ e ∈ oj.after, Region.binds .any e = true → e.on ≠ i) → oi.apart ops oj = true) →
      i ∈ Region.ready .any ops listed → YieldsMk P ops Mk oi v a → Has Mk w →
      anyS F P ops nR Mk Q fuel (listed.setIfInBounds i true) (a.put oi.dst v) w → anyS F P ops nR Mk Q (fuel + 1) listed a w := by
  intro fuel
  induction fuel with
  | zero =>
    intro listed a w _ hr hy hM H
    refine ⟨fun h => (by rw [h] at hr; cases hr), fun j hj => ?_⟩
    by_cases hji : j = i
    · subst hji; exact hy.wpOpIn hF hi hM ⟨fun _ => hM, H⟩
    · have := ready_mono hj hji
      rw [H.1] at this
      cases this
  | succ fuel ih =>
    intro listed a w hfree hr hy hM H
    refine ⟨fun h => (by rw [h] at hr; cases hr), fun j hj => ?_⟩
    by_cases hji : j = i
    · subst hji; exact hy.wpOpIn hF hi hM ⟨fun _ => hM, H⟩
    · have h1 := H.2 j (ready_mono hj hji)
      obtain ⟨hjun, oj, hoj, hall⟩ := mem_ready.1 hj
      have hnot : ∀ e ∈ oj.after, Region.binds .any e = true → e.on ≠ i := fun e he hb heq => by
        have h1 := hall e he hb
        have h0 := (mem_ready.1 hr).1
        rw [heq] at h1
        rcases Nat.lt_or_ge i listed.size with h' | h'
        · simp [h'] at h0 h1; rw [h0] at h1; cases h1
        · simp [Array.getElem?_eq_none h'] at h1
      have hjR : j < nR := by
        have hlt : j < ops.size := (Array.getElem?_eq_some_iff.1 hoj).1
        have := List.all_eq_true.1 htw j (List.mem_range.2 hlt)
        simp only [Bool.or_eq_true, decide_eq_true_eq, hoj, Option.map_some, Option.getD_some] at this
        rcases this with h | h
        · exact h
        · obtain ⟨e, he, hb⟩ := Array.any_eq_true'.1 h
          simp only [Bool.and_eq_true, beq_iff_eq] at hb
          exact absurd hb.2 (hnot e he hb.1)
      have h2 := wpOpIn_putMk hF hoj (hfree j oj hoj hji hjun hnot) (plainOps_spec hpl i oi hi).1 (plainOps_spec hpl j oj hoj).1 (plainOps_spec hpl j oj hoj).2 hQ hy h1
      have hfree' : ∀ k ok, ops[k]? = some ok → k ≠ i → (listed.setIfInBounds j true).getD k true = false →
          (∀ e ∈ ok.after, Region.binds .any e = true → e.on ≠ i) → oi.apart ops ok = true := fun k ok hk hki hun hno => by
        refine hfree k ok hk hki ?_ hno
        by_cases hjk : j = k
        · subst hjk; exact hjun
        · rw [getD_set_ne true hjk] at hun; exact hun
      refine wpOpIn_mono (fun a' w' h3 => ⟨h3.2.1, ih (listed.setIfInBounds j true) a' w' hfree' (ready_mono hr (Ne.symm hji)) h3.1 (h3.2.1 hjR) ?_⟩) h2
      rw [Array.setIfInBounds_comm _ _ hji]
      exact h3.2.2
end

/-- The walk of a region that draws its order, from the state s: 'listed' has come up. -/
def GD (X : Cx) (ops : Array Oper) (nR : Nat) (Mk : Mem) (fuel : Nat) (listed : Array Bool) (Q : Post) (s : S) : Prop :=
  ∀ a w, s.ok X a w → Has Mk w → anyS (FW X.rd) X.P ops nR Mk (lift X Q) fuel listed a w

theorem g_draw {X : Cx} {id : Nat} {ops : Array Oper} {Q : Post} {s : S} (hm : X.P.follows .mixedOrders = true) (nR : Nat) (Mk : Mem) (hMk : ∀ p ∈ Mk, p ∈ s.M) (h : GD X ops nR Mk ops.size (Array.replicate ops.size false) Q s) : G X (.region id ops true) Q s := fun a w hs => by
  refine wpIn_region_any hm (wpAnyIn_of_anyS (nR := nR) (Mk := Mk) _ _ _ _ ?_)
  have hs' : s.ok X a { w with drawn := w.drawn + 1 } := ⟨hs.1, hs.2.drew 1⟩
  exact h a _ hs' fun p hp => hs'.2.at_ p (hMk p hp)

/-- An operation that yields a value and does nothing else is taken first. -/
theorem gd_q {X : Cx} {ops : Array Oper} {nR : Nat} {Mk : Mem} {fuel i : Nat} {listed : Array Bool} {Q : Post} {ds : List Deferred} {fr : Fr} {M : Mem} {d : Nat} {op : Op} {ty : TypeId} {g : Option (Nat × Bool)} {v : Value}
    (ho : opX ops i = some (some d, op, ty, g)) (hg : Gd ops fr g) (hd : Nat.blt d X.n = true) (hpl : plainOps ops = true) (htw : tailWaits ops nR i = true) (hfr : Region.free .any ops listed i = true) (hr : (Region.ready .any ops listed).contains i = true)
    (hq : QV X.P op ty fr Mk v) (h : GD X ops nR Mk fuel (listed.setIfInBounds i true) Q ⟨ds, (d, v) :: fr, M⟩) : GD X ops nR Mk (fuel + 1) listed Q ⟨ds, fr, M⟩ := fun a w hs hM => by
  obtain ⟨o, h0, h1, h2, h3, h4⟩ := opX_some ho
  refine anyS_first (oi := o) (v := v) (fun _ => trivial) h0 hpl htw ?_ fuel listed a w (Region.free_spec h0 hfr) (by simpa using hr) ?_ hM ?_
  · rintro c a w ⟨hp, _⟩
    exact hp.elim
  · exact ⟨(plainOps_spec hpl i o h0).2, .inl ⟨wanted_of hs.1 (by rw [h4]; exact hg), fun w hw => (hq o h2 h3 a w X.n ds hs.1 hw).2⟩⟩
  · rw [h1]
    exact h _ _ ⟨hs.1.put (by simpa using hd) v, hs.2⟩ hM

/-- One that its guard passes over. -/
theorem gd_n {X : Cx} {ops : Array Oper} {nR : Nat} {Mk : Mem} {fuel i : Nat} {listed : Array Bool} {Q : Post} {ds : List Deferred} {fr : Fr} {M : Mem} {d : Nat} {op : Op} {ty : TypeId} {g : Option (Nat × Bool)}
    (ho : opX ops i = some (some d, op, ty, g)) (hg : Gn ops fr g) (hd : Nat.blt d X.n = true) (hpl : plainOps ops = true) (htw : tailWaits ops nR i = true) (hfr : Region.free .any ops listed i = true) (hr : (Region.ready .any ops listed).contains i = true)
    (h : GD X ops nR Mk fuel (listed.setIfInBounds i true) Q ⟨ds, (d, undef) :: fr, M⟩) : GD X ops nR Mk (fuel + 1) listed Q ⟨ds, fr, M⟩ := fun a w hs hM => by
  obtain ⟨o, h0, h1, h2, h3, h4⟩ := opX_some ho
  refine anyS_first (oi := o) (v := undef) (fun _ => trivial) h0 hpl htw ?_ fuel listed a w (Region.free_spec h0 hfr) (by simpa using hr) ?_ hM ?_
  · rintro c a w ⟨hp, _⟩
    exact hp.elim
  · exact ⟨(plainOps_spec hpl i o h0).2, .inr ⟨unwanted_of hs.1 (by rw [h4]; exact hg), rfl⟩⟩
  · rw [h1]
    exact h _ _ ⟨hs.1.put (by simpa using hd) undef, hs.2⟩ hM

theorem gd_op {X : Cx} {ops : Array Oper} {nR : Nat} {Mk : Mem} {fuel i : Nat} {listed : Array Bool} {Q : Post} {s : S} {d : Option Tmp} {op : Op} {ty : TypeId} {g : Option (Nat × Bool)} (ho : opX ops i = some (d, op, ty, g)) (hg : Gd ops s.fr g) (hi : Nat.blt i nR = true)
    (h : OpS X op ty d s fun s' => (∀ p ∈ Mk, p ∈ s'.M) ∧ GD X ops nR Mk fuel (listed.setIfInBounds i true) Q s') {a : Act} {w : World} (hs : s.ok X a w) :
    wpOpIn (FW X.rd) 0 X.P ops (lift X Q) i (fun a' w' => (i < nR → Has Mk w') ∧ anyS (FW X.rd) X.P ops nR Mk (lift X Q) fuel (listed.setIfInBounds i true) a' w') a w := by
  obtain ⟨o, h0, h1, h2, h3, h4⟩ := opX_some ho
  unfold wpOpIn
  simp only [h0]
  rw [if_pos (wanted_of hs.1 (by rw [h4]; exact hg))]
  refine Oper.wpIn_mono ?_ (Oper.wpIn_monoQ (fun _ _ _ q => q.elim) (h o h2 h3 h1 a w hs))
  rintro a' w' ⟨s', hs', hM, hk⟩
  have : Has Mk w' := fun p hp => hs'.2.at_ p (hM p hp)
  exact ⟨fun _ => this, hk a' w' hs' this⟩

/-- The one that may come up comes up. -/
theorem gd_one {X : Cx} {ops : Array Oper} {nR : Nat} {Mk : Mem} {fuel i : Nat} {listed : Array Bool} {Q : Post} {s : S} {d : Option Tmp} {op : Op} {ty : TypeId} {g : Option (Nat × Bool)} (ho : opX ops i = some (d, op, ty, g)) (hg : Gd ops s.fr g) (hi : Nat.blt i nR = true) (hr : Region.ready .any ops listed = [i])
    (h : OpS X op ty d s fun s' => (∀ p ∈ Mk, p ∈ s'.M) ∧ GD X ops nR Mk fuel (listed.setIfInBounds i true) Q s') : GD X ops nR Mk (fuel + 1) listed Q s := fun a w hs hM => by
  refine ⟨fun h0 => (by rw [hr] at h0; cases h0), fun j hj => ?_⟩
  rw [hr] at hj
  simp at hj
  subst hj
  exact gd_op ho hg hi h hs

/-- The tail: what is left comes up in this order alone. -/
def forced (ops : Array Oper) : Array Bool → List Nat → Bool
  | listed, [] => Region.ready .any ops listed == []
  | listed, i :: r => Region.ready .any ops listed == [i] && forced ops (listed.setIfInBounds i true) r

theorem anyS_forced {F : Fence} {P : Program} {ops : Array Oper} {nR : Nat} {Mk : Mem} {Q : Exit → Act → World → Prop} : ∀ (ord : List Nat) (fuel : Nat) (listed : Array Bool) (a : Act) (w : World), fuel = ord.length → (∀ i ∈ ord, nR ≤ i) → forced ops listed ord = true →
    wpOpsIn F 0 P ops Q ord a w → anyS F P ops nR Mk Q fuel listed a w
  | [], _, listed, a, w, rfl, _, hf, h => ⟨by simpa [forced] using hf, h⟩
  | i :: r, _, listed, a, w, rfl, hn, hf, h => by
    simp only [forced, Bool.and_eq_true, beq_iff_eq] at hf
    refine ⟨fun h0 => (by rw [hf.1] at h0; cases h0), fun j hj => ?_⟩
    rw [hf.1] at hj
    simp at hj
    subst hj
    rw [wpOpsIn_cons] at h
    exact wpOpIn_mono (fun a' w' h' => ⟨fun hlt => absurd (hn j (by simp)) (by omega), anyS_forced r r.length _ a' w' rfl (fun k hk => hn k (by simp [hk])) hf.2 h'⟩) h

theorem gd_tail {X : Cx} {ops : Array Oper} {nR : Nat} {Mk : Mem} {fuel : Nat} {listed : Array Bool} {Q : Post} {s : S} (ord : List Nat) (hl : fuel = ord.length) (hn : (ord.all fun i => decide (nR ≤ i)) = true) (hf : forced ops listed ord = true) (h : GO X ops ord Q s) : GD X ops nR Mk fuel listed Q s := fun a w hs _ =>
  anyS_forced ord fuel listed a w hl (fun i hi => by simpa using List.all_eq_true.1 hn i hi) hf (h a w hs)
end Go.E
