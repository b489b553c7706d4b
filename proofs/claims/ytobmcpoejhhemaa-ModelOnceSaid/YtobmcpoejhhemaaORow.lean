import Derived.Test.YtobmcpoejhhemaaRows
import Derived.Test.YtobmcpoejhhemaaOEq
import Derived.ProofKit
import Derived.Below
import Derived.Carry
import Derived.ChangeSame
import Derived.Deep.Slices
namespace Go.Proofs.Ytobmcpoejhhemaa
open Go.E Go.RowKit Go.WideShapes Go.ChangeShapes

def Rdr (P : Program) (t : TypeId) {α : Type} (E : Enc α) (Ok : α → Prop) : Prop :=
  ∀ {H : Type} (enc : TypeId × Value → H) (w : World) (base : Nat) (spare : Nat → Bool) (held : Bool) (fuel : Nat) (cs : List Value) (x : DataW H × List MemPlace),
    DataW.trod enc P w base spare held fuel t cs = some x → ∃ a, cs = (E.c a).toList ∧ Ok a

def eB : Enc Bool := ⟨fun b => #[.bool b], 1, fun _ => rfl⟩
def InK (k : IntKind) (x : Int) : Prop := k.min ≤ x ∧ x ≤ k.max
theorem rd_int {P : Program} {t : TypeId} {k : IntKind} (ht : P.underlying t = some (.int k)) : Rdr P t (eI k) (InK k) := fun enc w base spare held fuel cs x h => by
  obtain ⟨n, rfl, _, hw⟩ := DataW.trod_int ht h
  simp only [Lit.wf, Bool.and_eq_true, decide_eq_true_eq] at hw
  exact ⟨n, rfl, hw⟩
theorem rd_bool {P : Program} {t : TypeId} (ht : P.underlying t = some .bool) : Rdr P t eB (fun _ => True) := fun enc w base spare held fuel cs x h => by
  obtain ⟨n, rfl, _⟩ := DataW.trod_bool ht h
  exact ⟨n, rfl, trivial⟩

theorem rd_field {H : Type} {enc : TypeId × Value → H} {P : Program} {w : World} {base : Nat} {spare : Nat → Bool} {held : Bool} {n : Nat} {cs : List Value} {fs : Array Field} {xs : List (DataW H × List MemPlace)}
    (hx : xs.length = fs.size) (h : ∀ (i : Nat) (f : Field), fs[i]? = some f → DataW.trod enc P w base spare held n f.type ((cs.drop f.offset).take (P.cellsOf f.type)) = xs[i]?)
    {α : Type} {E : Enc α} {Ok : α → Prop} {ft off m : Nat} (i : Nat) (f : Field) (hi : fs[i]? = some f) (ht : f.type = ft) (ho : f.offset = off) (hc : P.cellsOf ft = m) (hr : Rdr P ft E Ok) : ∃ a, (cs.drop off).take m = (E.c a).toList ∧ Ok a := by
  subst ht ho hc
  have h1 := h i f hi
  have hlt : i < xs.length := by rw [hx]; exact (Array.getElem?_eq_some_iff.1 hi).1
  rw [List.getElem?_eq_getElem hlt] at h1
  exact hr _ _ _ _ _ _ _ _ h1
theorem rd_item {H : Type} {enc : TypeId × Value → H} {P : Program} {w : World} {base : Nat} {spare : Nat → Bool} {held : Bool} {n k : Nat} {e : TypeId} {cs : List Value} {xs : List (DataW H × List MemPlace)}
    (hx : xs.length = k) (h : ∀ (i : Nat), i < k → DataW.trod enc P w base spare held n e ((cs.drop (i * P.cellsOf e)).take (P.cellsOf e)) = xs[i]?)
    {α : Type} {E : Enc α} {Ok : α → Prop} {off m : Nat} (i : Nat) (hi : i < k) (hc : P.cellsOf e = m) (ho : i * m = off) (hr : Rdr P e E Ok) : ∃ a, (cs.drop off).take m = (E.c a).toList ∧ Ok a := by
  subst ho hc
  have h1 := h i hi
  rw [List.getElem?_eq_getElem (by omega)] at h1
  exact hr _ _ _ _ _ _ _ _ h1
theorem drop_step {cs a r : List Value} {off m off' : Nat} (h : (cs.drop off).take m = a) (ho : off + m = off') (hr : cs.drop off' = r) : cs.drop off = a ++ r := by
  subst ho
  rw [← h, ← hr, ← List.drop_drop, List.take_append_drop]
theorem drop_end {cs : List Value} {n : Nat} (h : cs.length = n) : cs.drop n = [] := List.drop_eq_nil_of_le (by omega)

theorem add_none (b off j : Nat) : (⟨b, off, none⟩ : Addr).add j = ⟨b, off + j, none⟩ := by unfold Addr.add; split <;> simp_all

/-- A slice that comes in, as a list. -/
theorem rd_slice {H : Type} {enc : TypeId × Value → H} {P : Program} {w : World} {base : Nat} {spare : Nat → Bool} {held : Bool} {t e : TypeId} {v : Value} {d : DataW H} {ps : List MemPlace} {α : Type} {E : Enc α} {Ok : α → Prop}
    (ht : P.underlying t = some (.slice e)) (hc : P.cellsOf e = E.n) (hn : 0 < E.n) (hr : Rdr P e E Ok) (h : DataW.Trod enc P w base spare held t v d ps) (hv : v.cells = #[v]) :
    ∃ (p : Option Addr) (l : List α) (cap b : Nat), v = .slice p l.length cap ∧ (∀ a ∈ l, Ok a) ∧ l.length ≤ cap ∧ cap ≤ maxLen ∧ (l = [] ∨ ∃ off cur e' fz, p = some ⟨b, off, none⟩ ∧ w.heap[b]? = some (.cells cur e' fz) ∧ Holds E cur off l) := by
  obtain ⟨fuel, h⟩ := h
  rw [hv] at h
  rcases Go.Deep.open_slice ht h with ⟨hcs, _⟩ | ⟨a, len, cap, m, n, D, Pl, hcs, _, hl, hm, hmm, _, hi⟩
  · simp at hcs
    subst hcs
    exact ⟨none, [], 0, 0, rfl, by simp, by simp, by simp, .inl rfl⟩
  · simp at hcs
    subst hcs
    have hle : len ≤ m := by rw [hmm]; split <;> omega
    have key : ∀ i, i < len → ∃ a', Ok a' ∧ ∀ j, j < E.n → w.cell? ((a.add (i * E.n)).add j) = (E.c a')[j]? := fun i hi' => by
      obtain ⟨cs', h1, h2⟩ := hi i (by omega)
      obtain ⟨a', ha', ho⟩ := hr _ _ _ _ _ _ _ _ h2
      rw [hc] at h1
      obtain ⟨_, _, h3⟩ := World.cells?_some h1
      refine ⟨a', ho, fun j hj => ?_⟩
      rw [h3 j hj, ha']
      simp
    have hl2 : ∀ k, k ≤ len → ∃ l : List α, l.length = k ∧ ∀ i a', l[i]? = some a' → Ok a' ∧ ∀ j, j < E.n → w.cell? ((a.add (i * E.n)).add j) = (E.c a')[j]? := by
      intro k
      induction k with
      | zero => intro _; exact ⟨[], rfl, by simp⟩
      | succ k ih =>
        intro hk
        obtain ⟨l, h1, h2⟩ := ih (by omega)
        obtain ⟨a', h3, h4⟩ := key k (by omega)
        refine ⟨l ++ [a'], by simp [h1], fun i x hx => ?_⟩
        rcases Nat.lt_trichotomy i l.length with hlt | heq | hgt
        · rw [List.getElem?_append_left hlt] at hx
          exact h2 i x hx
        · subst heq
          simp at hx
          subst hx
          rw [h1]
          exact ⟨h3, h4⟩
        · rw [List.getElem?_eq_none (by simp; omega)] at hx
          cases hx
    obtain ⟨l, h1, h2⟩ := hl2 len (Nat.le_refl _)
    refine ⟨some a, l, cap, a.block, by rw [h1], fun x hx => ?_, by omega, hm, ?_⟩
    · obtain ⟨i, hi', rfl⟩ := List.getElem_of_mem hx
      exact (h2 i _ (List.getElem?_eq_getElem hi')).1
    · cases hlc : l with
      | nil => exact .inl rfl
      | cons x0 l' =>
        right
        have h0 := (h2 0 x0 (by rw [hlc]; rfl)).2 0 hn
        have hsome : ∃ u, (E.c x0)[0]? = some u := ⟨_, Array.getElem?_eq_getElem (by rw [E.sz]; exact hn)⟩
        obtain ⟨u, hu⟩ := hsome
        rw [hu, Nat.zero_mul] at h0
        have ha0 : (a.add 0).add 0 = a := by unfold Addr.add; split <;> simp_all
        rw [ha0] at h0
        obtain ⟨b, off, spot⟩ := a
        unfold World.cell? at h0
        split at h0
        · rename_i c e' fz hb
          cases spot with
          | some s => simp at h0
          | none =>
            refine ⟨off, c, e', fz, rfl, hb, ?_⟩
            rw [← hlc]
            unfold Holds
            apply List.ext_getElem?
            intro q
            rw [List.getElem?_take]
            have hfl := E.flat_length l
            split
            · rename_i hq
              rw [List.getElem?_drop]
              have hi1 : q / E.n < l.length := Nat.div_lt_of_lt_mul (by rw [Nat.mul_comm]; exact hq)
              have hr1 : q % E.n < E.n := Nat.mod_lt _ hn
              have hg := List.getElem?_eq_getElem hi1
              have h3 := (h2 _ _ hg).2 (q % E.n) hr1
              have hqe : q / E.n * E.n + q % E.n = q := by rw [Nat.mul_comm]; exact Nat.div_add_mod q E.n
              rw [add_none, add_none, Nat.add_assoc, hqe] at h3
              have h4 : w.cell? ⟨b, off + q, none⟩ = c[off + q]? := cell_of_row w b _ c e' fz hb
              rw [h4] at h3
              have h5 := E.flat_at l _ _ hg
              have h6 : (((E.flat l).drop (q / E.n * E.n)).take E.n)[q % E.n]? = ((E.c l[q / E.n]).toList)[q % E.n]? := by rw [h5]
              rw [List.getElem?_take, if_pos hr1, List.getElem?_drop, hqe] at h6
              rw [h6]
              simpa using h3
            · rename_i hq
              rw [List.getElem?_eq_none (by omega)]
        · cases h0

/-- The blocks that the input's slices lie in. -/
theorem mk_mem (W : World) : ∀ bs : List Nat, ∃ R : Mem, (R.map (·.1)).Nodup ∧ Has R W ∧ ∀ b ∈ bs, ∀ o, W.heap[b]? = some o → (b, o) ∈ R
  | [] => ⟨[], by simp, fun p hp => by simp at hp, by simp⟩
  | b :: bs => by
    obtain ⟨R, h1, h2, h3⟩ := mk_mem W bs
    cases hb : W.heap[b]? with
    | none =>
      refine ⟨R, h1, h2, fun c hc o ho => ?_⟩
      rcases List.mem_cons.1 hc with rfl | hc
      · rw [hb] at ho; cases ho
      · exact h3 c hc o ho
    | some o0 =>
      by_cases hm : b ∈ R.map (·.1)
      · refine ⟨R, h1, h2, fun c hc o ho => ?_⟩
        rcases List.mem_cons.1 hc with rfl | hc
        · obtain ⟨⟨b', o'⟩, hp, rfl⟩ := List.mem_map.1 hm
          have := h2 _ hp
          rw [ho] at this
          simp at this
          subst this
          exact hp
        · exact h3 c hc o ho
      · refine ⟨(b, o0) :: R, by simp only [List.map_cons, List.nodup_cons]; exact ⟨hm, h1⟩, fun p hp => ?_, fun c hc o ho => ?_⟩
        · rcases List.mem_cons.1 hp with rfl | hp
          · exact hb
          · exact h2 p hp
        · rcases List.mem_cons.1 hc with rfl | hc
          · rw [hb] at ho; cases ho; simp
          · exact List.mem_cons_of_mem _ (h3 c hc o ho)
theorem mk_lst {α : Type} {E : Enc α} {W : World} {p : Option Addr} {l : List α} {b : Nat} {bs : List Nat} {R : Mem} (h : l = [] ∨ ∃ off cur e' fz, p = some ⟨b, off, none⟩ ∧ W.heap[b]? = some (.cells cur e' fz) ∧ Holds E cur off l)
    (hR : ∀ b ∈ bs, ∀ o, W.heap[b]? = some o → (b, o) ∈ R) (hb : b ∈ bs) : Lst E p l R := by
  rcases h with h | ⟨off, cur, e', fz, h1, h2, h3⟩
  · exact .inl h
  · exact .inr ⟨b, off, cur, e', fz, h1, hR b hb _ h2, h3⟩

theorem trodAll_open {H : Type} {enc : TypeId × Value → H} {P : Program} {w : World} {base : Nat} {spare : Nat → Bool} {held : Bool} {t : TypeId} {ts : List TypeId} {vs : List Value} {ds : List (DataW H)} {ps : List MemPlace} (h : DataW.TrodAll enc P w base spare held (t :: ts) vs ds ps) :
    ∃ v vs' d ds' p q, vs = v :: vs' ∧ ds = d :: ds' ∧ DataW.Trod enc P w base spare held t v d p ∧ DataW.TrodAll enc P w base spare held ts vs' ds' q := by
  match vs, ds, h with
  | v :: vs, d :: ds, ⟨p, q, h1, h2, _⟩ => exact ⟨v, vs, d, ds, p, q, rfl, rfl, h1, h2⟩
  | [], _, h => exact h.elim
  | _ :: _, [], h => exact h.elim
theorem trodAll_end {H : Type} {enc : TypeId × Value → H} {P : Program} {w : World} {base : Nat} {spare : Nat → Bool} {held : Bool} {vs : List Value} {ds : List (DataW H)} {ps : List MemPlace} (h : DataW.TrodAll enc P w base spare held [] vs ds ps) : vs = [] ∧ ds = [] := by
  match vs, ds, h with
  | [], [], _ => exact ⟨rfl, rfl⟩
  | [], _ :: _, h => exact h.elim
  | _ :: _, _, h => exact h.elim
/-- A contract that asks of no memory, with memory. -/
theorem Pu.any {P : Program} {g : FuncId} {args : List Value} {v : Value} {R : Mem} (h : Pu P g args v) : Ct P g args.toArray R (fun u M' => u = v ∧ M' = R) := fun w hn hM => by
  refine (h w (by simp) (fun p hp => by simp at hp)).mono ?_
  rintro e w' ⟨u, M', rfl, ⟨rfl, rfl⟩, hch⟩
  exact ⟨u, R, rfl, ⟨rfl, rfl⟩, Chg.call (A := []) (A' := []) (B := R) (Chg.refl hn hM) hch⟩
theorem arr_of {args : Array Value} {l : List Value} (h : args.toList = l) : args = l.toArray := by
  rw [← h]
theorem okWide_sl {P : Program} {w : World} {r : Reach} {base : Nat} {t e : TypeId} {v : Value} (ht : P.underlying t = some (.slice e)) (h : Value.okWide P w r base t v) : v.cells = #[v] := by
  obtain ⟨a0, len, cap, rfl⟩ := okWide_slice ht h
  rfl

theorem Chg.below {M : Mem} {w w' : World} (hM : Has M w) (h : Chg w M M w') : Below w.heap.size w w' :=
  ⟨h.os, h.tape, h.output, h.size, fun k hk => by
    by_cases hp : ∃ p ∈ M, p.1 = k
    · obtain ⟨p, hp, rfl⟩ := hp
      rw [h.at_ p hp, hM p hp]
    · exact h.old k hk fun p hp' e => hp ⟨p, hp', e⟩⟩

theorem post_of_below {H : Type} {enc : TypeId × Value → H} {P : Program} {f : Func} {s : ChangeSpec} {apart fresh handsOn again : Bool} {W W' : World} {args : Array Value} {v : Value} {ds gs : List (DataW H)} {before pa pv : List MemPlace}
    (hW : DataW.Whole enc P f.params.toList s.vars apart W args.toList ds gs before)
    (hres : ∀ (b : Nat) (sp : Nat → Bool) (hd : Bool), DataW.TrodAll enc P W' b sp hd f.resultTypes.toList (v.resultList f.resultTypes.size) (s.fn H (ds ++ gs)).results [])
    (hargs : ∀ sp : Nat → Bool, (∀ p ∈ before, sp p.block = true) → DataW.TrodAll enc P W' 0 sp true f.params.toList args.toList (s.fn H (ds ++ gs)).args pa)
    (hvars : ∀ sp : Nat → Bool, (∀ p ∈ before, sp p.block = true) → DataW.TrodVars enc P W' sp s.vars (s.fn H (ds ++ gs)).vars pv)
    (hps : before = pa ++ pv) (hb : Below W.heap.size W W')
    (hok : ∀ (j : Nat) (t : TypeId) (r : Value), f.resultTypes[j]? = some t → (v.resultList f.resultTypes.size)[j]? = some r → Value.okWide P W' .any 0 t r) :
    s.post enc P f apart fresh handsOn again W args v W' := by
  have hlt : ∀ p ∈ before, p.block < W.heap.size := fun p hp => hW.lt p hp
  have hold : ∀ p ∈ before, (fun b => decide (b < W.heap.size)) p.block = true := fun p hp => by simpa using hlt p hp
  refine ⟨ds, gs, before, [], pa, pv, hW, hres _ _ _, hargs _ hold, hvars _ hold, World.keptBut_mono (fun p hp => ⟨hp, ?_⟩) (hb.frame (· ∈ before)), fun _ => ?_⟩
  · rw [hps, List.mem_append] at hp
    exact Or.inr hp
  · obtain ⟨_, _, _, _, _, hz, hn⟩ := hW
    refine ⟨hok, _, _, ([] ++ pa) ++ pv, ⟨[] ++ pa, pv, trodAll_append (hargs _ (fun _ _ => rfl)) (hres _ _ _), hvars _ (fun _ _ => rfl), rfl, ?_, ?_⟩, ?_⟩
    · intro b off hp
      have hin : MemPlace.cell b off ∈ before := by rw [hps]; simpa using hp
      rw [hb.frozen (hlt _ hin)]
      exact hz b off hin
    · intro ha
      have := hn ha
      rw [hps] at this
      simpa using this
    · intro p hp _
      rw [hps]
      simpa using hp

theorem trodAll_stays {H : Type} {enc : TypeId × Value → H} {P : Program} (hl : laidOutB P = true) {W W' : World} (hb : Below W.heap.size W W') {sp : Nat → Bool} : ∀ (ts : List TypeId) (vs : List Value) (ds : List (DataW H)) (ps : List MemPlace),
    (∀ t ∈ ts, P.readableRec t = true ∧ t < P.types.size) → DataW.TrodAll enc P W 0 (fun _ => true) true ts vs ds ps → (∀ x ∈ ps, x.block < W.heap.size) → (∀ x ∈ ps, sp x.block = true) → DataW.TrodAll enc P W' 0 sp true ts vs ds ps
  | [], [], [], ps, _, h, _, _ => h
  | t :: ts, v :: vs, d :: ds, ps, hr, h, h1, h2 => by
    obtain ⟨p, q, h3, h4, rfl⟩ := h
    exact ⟨p, q, WideElems.Trod_stays hl (hr t (by simp)).1 (hr t (by simp)).2 h3 (fun x hx => hb.same (h1 x (by simp [hx]))) (fun x hx => h2 x (by simp [hx])),
      trodAll_stays hl hb ts vs ds q (fun t ht => hr t (by simp [ht])) h4 (fun x hx => h1 x (by simp [hx])) (fun x hx => h2 x (by simp [hx])), rfl⟩
  | [], _ :: _, _, _, _, h, _, _ => h.elim
  | [], [], _ :: _, _, _, h, _, _ => h.elim
  | _ :: _, [], _, _, _, h, _, _ => h.elim
  | _ :: _, _ :: _, [], _, _, h, _, _ => h.elim

theorem okWide_bool_ok {P : Program} {W' : World} {t : TypeId} (ht : P.underlying t = some .bool) (c : Bool) : Value.okWide P W' .any 0 t (.bool c) := by
  simp [Value.okWide, ht, Cell.okWide, Cell.ok]
theorem Try.own : ownKnob Try.prog.godebug = none := by kernel_rfl
theorem Try.laidOut : laidOutB Try.prog = true := by kernel_rfl

set_option maxRecDepth 100000 in
/-- A law that answers true, and turns nothing old. -/
theorem law_post {H : Type} {enc : TypeId × Value → H} {f : Func} {s : ChangeSpec} {W W' : World} {args : Array Value} {ds gs : List (DataW H)} {before : List MemPlace}
    (hW : DataW.Whole enc Try.prog f.params.toList s.vars false W args.toList ds gs before) (hb : Below W.heap.size W W')
    (hread : ∀ t ∈ f.params.toList, Try.prog.readableRec t = true ∧ t < Try.prog.types.size) (hr : f.resultTypes = #[4]) (hv : s.vars = [])
    (hfn : s.fn H (ds ++ gs) = { results := [.lit (.bool true)], args := ds }) : s.post enc Try.prog f false true false false W args (.bool true) W' := by
  have hW' := hW
  obtain ⟨p, q, hA, hV, rfl, hfz, hnd⟩ := hW'
  have hgs : gs = [] ∧ q = [] := by
    rw [hv] at hV
    cases gs with
    | nil => exact ⟨rfl, hV⟩
    | cons _ _ => exact hV.elim
  obtain ⟨rfl, rfl⟩ := hgs
  have hlt : ∀ x ∈ p ++ [], x.block < W.heap.size := fun x hx => hW.lt x hx
  refine post_of_below (pa := p) (pv := []) hW ?_ ?_ ?_ rfl hb ?_
  · intro b sp hd
    rw [hfn, hr]
    exact trodAll_mk1 (shut_bool eu4 true)
  · intro sp hsp
    rw [hfn]
    exact trodAll_stays Try.laidOut hb _ _ _ _ hread hA (fun x hx => hlt x (by simp [hx])) (fun x hx => hsp x (by simp [hx]))
  · intro sp _
    rw [hfn, hv]
    rfl
  · have h4 : Value.okWide Try.prog W' .any 0 4 (.bool true) := okWide_bool_ok eu4 true
    exact ok_one (P := Try.prog) (t := 4) hr rfl h4
end Go.Proofs.Ytobmcpoejhhemaa
