import Derived.Test.YtobmcpoejhhemaaGreatRows
import Derived.Test.YtobmcpoejhhemaaGreatKEq
import Derived.ProofKit
import Derived.Below
import Derived.Carry
import Derived.ChangeSame
import Derived.Deep.Slices
namespace Go.Proofs.YtobmcpoejhhemaaGreat
open Go.E Go.RowKit Go.WideShapes Go.ChangeShapes

def InK (k : IntKind) (x : Int) : Prop := k.min ≤ x ∧ x ≤ k.max
/-- The blocks that the input's slices lie in. -/
theorem mk_mem (W : World) : ∀ bs : List Nat, ∃ R : Mem, (R.map (·.1)).Nodup ∧ Has R W ∧ ∀ b ∈ bs, ∀ o, W.heap[b]? = some o → (b, o) ∈ R
  | [] => ⟨[], by simp, fun p hp => by simp at hp, by simp⟩
  | b :: bs => by
    obtain ⟨R, h1, h2, h3⟩ := mk_mem W bs
    cases hb : W.heap[b]? with
    | none =>
      refine ⟨R, h1, h2, fun c hc o ho => ?_⟩
      rcases List.mem_cons.1 hc with rfl | hc
      · rw [hb] at ho; cases ho
      · exact h3 c hc o ho
    | some o0 =>
      by_cases hm : b ∈ R.map (·.1)
      · refine ⟨R, h1, h2, fun c hc o ho => ?_⟩
        rcases List.mem_cons.1 hc with rfl | hc
        · obtain ⟨⟨b', o'⟩, hp, rfl⟩ := List.mem_map.1 hm
          have := h2 _ hp
          rw [ho] at this
          simp at this
          subst this
          exact hp
        · exact h3 c hc o ho
      · refine ⟨(b, o0) :: R, by simp only [List.map_cons, List.nodup_cons]; exact ⟨hm, h1⟩, fun p hp => ?_, fun c hc o ho => ?_⟩
        · rcases List.mem_cons.1 hp with rfl | hp
          · exact hb
          · exact h2 p hp
        · rcases List.mem_cons.1 hc with rfl | hc
          · rw [hb] at ho; cases ho; simp
          · exact List.mem_cons_of_mem _ (h3 c hc o ho)
theorem trodAll_end {H : Type} {enc : TypeId × Value → H} {P : Program} {w : World} {base : Nat} {spare : Nat → Bool} {held : Bool} {vs : List Value} {ds : List (DataW H)} {ps : List MemPlace} (h : DataW.TrodAll enc P w base spare held [] vs ds ps) : vs = [] ∧ ds = [] := by
  match vs, ds, h with
  | [], [], _ => exact ⟨rfl, rfl⟩
  | [], _ :: _, h => exact h.elim
  | _ :: _, _, h => exact h.elim
/-- A contract that asks of no memory, with memory. -/
theorem Pu.any {P : Program} {g : FuncId} {args : List Value} {v : Value} {R : Mem} (h : Pu P g args v) : Ct P g args.toArray R (fun u M' => u = v ∧ M' = R) := fun w hn hM => by
  refine (h w (by simp) (fun p hp => by simp at hp)).mono ?_
  rintro e w' ⟨u, M', rfl, ⟨rfl, rfl⟩, hch⟩
  exact ⟨u, R, rfl, ⟨rfl, rfl⟩, Chg.call (A := []) (A' := []) (B := R) (Chg.refl hn hM) hch⟩
theorem arr_of {args : Array Value} {l : List Value} (h : args.toList = l) : args = l.toArray := by
  rw [← h]
theorem Chg.below {M : Mem} {w w' : World} (hM : Has M w) (h : Chg w M M w') : Below w.heap.size w w' :=
  ⟨h.os, h.tape, h.output, h.size, fun k hk => by
    by_cases hp : ∃ p ∈ M, p.1 = k
    · obtain ⟨p, hp, rfl⟩ := hp
      rw [h.at_ p hp, hM p hp]
    · exact h.old k hk fun p hp' e => hp ⟨p, hp', e⟩⟩

theorem post_of_below {H : Type} {enc : TypeId × Value → H} {P : Program} {f : Func} {s : ChangeSpec} {apart fresh handsOn again : Bool} {W W' : World} {args : Array Value} {v : Value} {ds gs : List (DataW H)} {before pa pv : List MemPlace}
    (hW : DataW.Whole enc P f.params.toList s.vars apart W args.toList ds gs before)
    (hres : ∀ (b : Nat) (sp : Nat → Bool) (hd : Bool), DataW.TrodAll enc P W' b sp hd f.resultTypes.toList (v.resultList f.resultTypes.size) (s.fn H (ds ++ gs)).results [])
    (hargs : ∀ sp : Nat → Bool, (∀ p ∈ before, sp p.block = true) → DataW.TrodAll enc P W' 0 sp true f.params.toList args.toList (s.fn H (ds ++ gs)).args pa)
    (hvars : ∀ sp : Nat → Bool, (∀ p ∈ before, sp p.block = true) → DataW.TrodVars enc P W' sp s.vars (s.fn H (ds ++ gs)).vars pv)
    (hps : before = pa ++ pv) (hb : Below W.heap.size W W')
    (hok : ∀ (j : Nat) (t : TypeId) (r : Value), f.resultTypes[j]? = some t → (v.resultList f.resultTypes.size)[j]? = some r → Value.okWide P W' .any 0 t r) :
    s.post enc P f apart fresh handsOn again W args v W' := by
  have hlt : ∀ p ∈ before, p.block < W.heap.size := fun p hp => hW.lt p hp
  have hold : ∀ p ∈ before, (fun b => decide (b < W.heap.size)) p.block = true := fun p hp => by simpa using hlt p hp
  refine ⟨ds, gs, before, [], pa, pv, hW, hres _ _ _, hargs _ hold, hvars _ hold, World.keptBut_mono (fun p hp => ⟨hp, ?_⟩) (hb.frame (· ∈ before)), fun _ => ?_⟩
  · rw [hps, List.mem_append] at hp
    exact Or.inr hp
  · obtain ⟨_, _, _, _, _, hz, hn⟩ := hW
    refine ⟨hok, _, _, ([] ++ pa) ++ pv, ⟨[] ++ pa, pv, trodAll_append (hargs _ (fun _ _ => rfl)) (hres _ _ _), hvars _ (fun _ _ => rfl), rfl, ?_, ?_⟩, ?_⟩
    · intro b off hp
      have hin : MemPlace.cell b off ∈ before := by rw [hps]; simpa using hp
      rw [hb.frozen (hlt _ hin)]
      exact hz b off hin
    · intro ha
      have := hn ha
      rw [hps] at this
      simpa using this
    · intro p hp _
      rw [hps]
      simpa using hp

theorem trodAll_stays {H : Type} {enc : TypeId × Value → H} {P : Program} (hl : laidOutB P = true) {W W' : World} (hb : Below W.heap.size W W') {sp : Nat → Bool} : ∀ (ts : List TypeId) (vs : List Value) (ds : List (DataW H)) (ps : List MemPlace),
    (∀ t ∈ ts, P.readableRec t = true ∧ t < P.types.size) → DataW.TrodAll enc P W 0 (fun _ => true) true ts vs ds ps → (∀ x ∈ ps, x.block < W.heap.size) → (∀ x ∈ ps, sp x.block = true) → DataW.TrodAll enc P W' 0 sp true ts vs ds ps
  | [], [], [], ps, _, h, _, _ => h
  | t :: ts, v :: vs, d :: ds, ps, hr, h, h1, h2 => by
    obtain ⟨p, q, h3, h4, rfl⟩ := h
    exact ⟨p, q, WideElems.Trod_stays hl (hr t (by simp)).1 (hr t (by simp)).2 h3 (fun x hx => hb.same (h1 x (by simp [hx]))) (fun x hx => h2 x (by simp [hx])),
      trodAll_stays hl hb ts vs ds q (fun t ht => hr t (by simp [ht])) h4 (fun x hx => h1 x (by simp [hx])) (fun x hx => h2 x (by simp [hx])), rfl⟩
  | [], _ :: _, _, _, _, h, _, _ => h.elim
  | [], [], _ :: _, _, _, h, _, _ => h.elim
  | _ :: _, [], _, _, _, h, _, _ => h.elim
  | _ :: _, _ :: _, [], _, _, h, _, _ => h.elim

theorem okWide_bool_ok {P : Program} {W' : World} {t : TypeId} (ht : P.underlying t = some .bool) (c : Bool) : Value.okWide P W' .any 0 t (.bool c) := by
  simp [Value.okWide, ht, Cell.okWide, Cell.ok]
theorem Tryz.own : ownKnob Tryz.prog.godebug = none := by kernel_rfl
theorem Tryz.laidOut : laidOutB Tryz.prog = true := by kernel_rfl

set_option maxRecDepth 100000 in
/-- A law that answers true, and turns nothing old. -/
theorem law_post {H : Type} {enc : TypeId × Value → H} {f : Func} {s : ChangeSpec} {W W' : World} {args : Array Value} {ds gs : List (DataW H)} {before : List MemPlace}
    (hW : DataW.Whole enc Tryz.prog f.params.toList s.vars false W args.toList ds gs before) (hb : Below W.heap.size W W')
    (hread : ∀ t ∈ f.params.toList, Tryz.prog.readableRec t = true ∧ t < Tryz.prog.types.size) (hr : f.resultTypes = #[4]) (hv : s.vars = [])
    (hfn : s.fn H (ds ++ gs) = { results := [.lit (.bool true)], args := ds }) : s.post enc Tryz.prog f false true false false W args (.bool true) W' := by
  have hW' := hW
  obtain ⟨p, q, hA, hV, rfl, hfz, hnd⟩ := hW'
  have hgs : gs = [] ∧ q = [] := by
    rw [hv] at hV
    cases gs with
    | nil => exact ⟨rfl, hV⟩
    | cons _ _ => exact hV.elim
  obtain ⟨rfl, rfl⟩ := hgs
  have hlt : ∀ x ∈ p ++ [], x.block < W.heap.size := fun x hx => hW.lt x hx
  refine post_of_below (pa := p) (pv := []) hW ?_ ?_ ?_ rfl hb ?_
  · intro b sp hd
    rw [hfn, hr]
    exact trodAll_mk1 (shut_bool eu4 true)
  · intro sp hsp
    rw [hfn]
    exact trodAll_stays Tryz.laidOut hb _ _ _ _ hread hA (fun x hx => hlt x (by simp [hx])) (fun x hx => hsp x (by simp [hx]))
  · intro sp _
    rw [hfn, hv]
    rfl
  · have h4 : Value.okWide Tryz.prog W' .any 0 4 (.bool true) := okWide_bool_ok eu4 true
    exact ok_one (P := Tryz.prog) (t := 4) hr rfl h4
end Go.Proofs.YtobmcpoejhhemaaGreat
