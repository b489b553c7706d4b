import Derived.Test.YtobmcpoejhhemaaOMpK
import Derived.MapKept
import Derived.Laws.IdiomRangeMap
namespace Go.Proofs.Ytobmcpoejhhemaa
open Go.E

section
variable {fr : Fr} {M : Mem} {ty : TypeId} {b : Nat} {l : List MEnt} {c : Nat} {k : Key} {t : Tot}
theorem mapO_at (h : At M b (mapO b l c).2) {w : World} (hM : Has M w) : w.heap[b]? = some (.map (l.map MEnt.e).toArray c) := hM _ h.mem
theorem run_lookupT {w : World} (hb : w.heap[b]? = some (.map (l.map MEnt.e).toArray c)) : (Instr.lookup 205 (.map (some b)) (.agg k.c) false).run Try.prog w = .ok (.agg (getM l k).c) w := by
  have hz : (zeroValue 32).run Try.prog w = .ok (.agg (⟨0, 0⟩ : Tot).c) w := ze32 w
  have hk := run_findKey k l w
  have hg := fndM_get l k 0
  unfold Instr.lookup
  simp only [Sem.run_bind, run_underlying un205, Result.andThen, MapKept.run_getObj_map hb, Sem.run_pure, run_checkKey]
  rw [hk]
  cases hf : fndM l k 0 with
  | none => rw [hf] at hg; simp only [hz, Sem.run_bind, Sem.run_pure, Result.andThen]; rw [← hg]; rfl
  | some p => rw [hf] at hg; simp only [Sem.run_bind, Sem.run_pure, Result.andThen]; rw [← hg]; rfl
theorem qv_lookup {x y : Operand} (hx : evo fr x = some (.map (some b))) (hy : evo fr y = some (.agg k.c)) (h : At M b (mapO b l c).2) :
    QV Try.prog (.lookup 205 x y false) ty fr M (.agg (getM l k).c) := fun o ho _ a w n ds hf hM =>
  ⟨by simp, by simp only [execOp, ho, hf.ev hx, hf.ev hy, Sem.run_bind, run_lookupT (mapO_at h hM), Result.andThen, Sem.run_pure]⟩
theorem same_key (k : Key) : Instr.sameBits 10000 (.agg k.c) (.agg k.c) = true := by
  unfold Instr.sameBits Key.c
  simp [Instr.sameBits]
theorem run_keyStays (k : Key) (w : World) : (Instr.keyThatStays (.agg k.c) (.agg k.c)).run Try.prog w = .ok (.agg k.c) w := by
  unfold Instr.keyThatStays
  rw [same_key, if_pos rfl]
  rfl
theorem run_updateT {w : World} (hb : w.heap[b]? = some (.map (l.map MEnt.e).toArray c)) :
    (Instr.mapUpdate 205 (.map (some b)) (.agg k.c) (.agg t.c)).run Try.prog w = .ok () { w with heap := w.heap.setIfInBounds b (.map ((putM l c k t).map MEnt.e).toArray (clkM l c k)) } := by
  have hk := run_findKey k l w
  unfold Instr.mapUpdate
  simp only [Sem.run_bind, run_underlying un205, Result.andThen, MapKept.run_getObj_map hb, Sem.run_pure, run_checkKey]
  rw [hk]
  rcases fndM_at l k 0 with ⟨h1, h2⟩ | ⟨j, x, h1, h2, h3, h4, h5⟩
  · rw [h1]
    simp only [MapKept.run_setObj_map _ hb]
    rw [putM_new h2]
    unfold clkM
    rw [if_neg (by rw [h2]; decide)]
    simp [MEnt.e]
  · subst h3
    rw [h1, Nat.zero_add]
    have hj : ((l.map MEnt.e).toArray)[j]? = some (MEnt.e x) := by simp [h2]
    simp only [Sem.run_bind, hj, Option.map_some, Option.getD_some, Result.andThen]
    rw [show (MEnt.e x).key = .agg x.key.c from rfl, run_keyStays]
    have harr : ((l.map MEnt.e).toArray.modify j fun e => { key := .agg x.key.c, val := .agg t.c, born := e.born }) = ((l.set j { x with tot := t }).map MEnt.e).toArray := by
      rw [List.modify_toArray]
      refine congrArg List.toArray ?_
      rw [List.map_set, List.modify_eq_set, show (l.map MEnt.e)[j]? = some (MEnt.e x) by rw [List.getElem?_map, h2]; rfl]
      rfl
    simp only [harr, MapKept.run_setObj_map _ hb]
    unfold clkM
    rw [if_pos h4, h5]
end
theorem setObj_chg {w0 w : World} {M0 M M' : Mem} {b : Nat} {o o' : Obj} (h : Chg w0 M0 M w) (u : Up M b o o' M') : Chg w0 M0 M' { w with heap := w.heap.setIfInBounds b o' } := by
  have hb : w.heap[b]? = some o := h.at_ _ u.mem
  have hlt : b < w.heap.size := (Array.getElem?_eq_some_iff.1 hb).1
  exact h.up u rfl rfl rfl (Nat.le_refl _) (by simp) (by simp [hlt]) (fun k hk => Array.getElem?_setIfInBounds_ne (Ne.symm hk))
section
variable {X : Cx} {ty : TypeId} {d : Nat} {ds : List Deferred} {fr : Fr} {M M' : Mem} {K : S → Prop} {b i : Nat} {l : List MEnt} {c : Nat} {k : Key} {t : Tot} {x y z : Operand}
theorem os_makeMapT {mt : TypeId} (hd : Nat.blt d X.n = true) (h : ∀ b, K ⟨ds, (d, .map (some b)) :: fr, mapO b [] 0 :: M⟩) : OpS X (.makeMap mt none) ty (some d) ⟨ds, fr, M⟩ K :=
  os_new (vf := fun b => .map (some b)) (ob := .map #[] 0) (by simpa using hd) (by simp) (fun o hop a n ds w hf => by
    have hr : (Instr.makeMap mt none).run X.P w = .ok (.map (some w.heap.size)) (w.alloc (.map #[] 0)) := by
      simp [Instr.makeMap, newObj, Sem.run, Sem.run_bind, Result.andThen]
    simp only [execOp, hop, Option.map_none, Sem.run_bind, hr, Result.andThen, Sem.run_pure]) h
theorem os_mapUpdateT (hP : X.P = Try.prog) (hx : evo fr x = some (.map (some b))) (hy : evo fr y = some (.agg k.c)) (hz : evo fr z = some (.agg t.c)) (hu : Up M b (mapO b l c).2 (mapO b (putM l c k t) (clkM l c k)).2 M') (h : K ⟨ds, fr, M'⟩) :
    OpS X (.mapUpdate 205 x y z) ty none ⟨ds, fr, M⟩ K := by
  rintro o hop hty hdst a w ⟨hf, hc⟩
  have hb : w.heap[b]? = some (.map (l.map MEnt.e).toArray c) := hc.at_ _ hu.mem
  have hr := run_updateT (k := k) (t := t) hb
  refine wpIn_of_skip (fun _ => trivial) (by rw [hop]; simp) (w' := { w with heap := w.heap.setIfInBounds b (mapO b (putM l c k t) (clkM l c k)).2 }) ?_ ?_
  · rw [hP]
    simp only [execOp, hop, hf.ev hx, hf.ev hy, hf.ev hz, Sem.run_bind, hr, Result.andThen, Sem.run_pure]
    rfl
  · rw [hdst]
    exact ⟨⟨ds, fr, M'⟩, ⟨hf, setObj_chg hc hu⟩, h⟩
/-- An iterator over a map. -/
def itO (i b since : Nat) (seen : Array Nat) (last : Nat) : Nat × Obj := (i, .mapIter (some b) since seen last)
theorem os_rangeT (hd : Nat.blt d X.n = true) (hP : X.P = Try.prog) (hx : evo fr x = some (.map (some b))) (hb : At M b (mapO b l c).2) (h : ∀ i, K ⟨ds, (d, .pointer (some ⟨i, 0, none⟩)) :: fr, itO i b c #[] c :: M⟩) : OpS X (.range 205 x) ty (some d) ⟨ds, fr, M⟩ K := by
  rintro o hop hty hdst a w ⟨hf, hc⟩
  have hr := run_range_map (P := Try.prog) w 205 _ _ b _ c un205 (hc.at_ _ hb.mem)
  refine wpIn_of_value (fun _ => trivial) (by rw [hop]; simp) (v := .pointer (some ⟨w.heap.size, 0, none⟩)) (w' := w.alloc (.mapIter (some b) c #[] c)) ?_ ?_
  · rw [hP]
    simp only [execOp, hop, hf.ev hx, Sem.run_bind, hr, Result.andThen, Sem.run_pure]
  · rw [hdst]
    exact ⟨⟨ds, (d, .pointer (some ⟨w.heap.size, 0, none⟩)) :: fr, (w.heap.size, _) :: M⟩, ⟨hf.put (by simpa using hd) _, hc.alloc _⟩, h _⟩
theorem run_nextT {P : Program} (w : World) (ty : TypeId) {since last : Nat} {seen : Array Nat} (hi : w.heap[i]? = some (.mapIter (some b) since seen last)) (hb : w.heap[b]? = some (.map (l.map MEnt.e).toArray c)) (hold : ∀ x ∈ l, x.born < since) (hsl : since ≤ last) :
    ((∀ x ∈ l, x.born ∈ seen) ∧ (Instr.next (.pointer (some ⟨i, 0, none⟩)) false ty).run P w = .ok (.tuple #[.bool false]) w) ∨
    ∃ x ∈ l, x.born ∉ seen ∧ ∃ n, (Instr.next (.pointer (some ⟨i, 0, none⟩)) false ty).run P w = .ok (.tuple #[.bool true, .agg x.key.c, .agg x.tot.c]) { w with drawn := w.drawn + n, heap := w.heap.setIfInBounds i (.mapIter (some b) since (seen.push x.born) c) } := by
  have hold' : ∀ x ∈ (l.map MEnt.e).toArray.toList, x.born < since := fun x hx => by
    rw [List.toList_toArray] at hx
    obtain ⟨y, hy, rfl⟩ := List.mem_map.1 hx
    exact hold y hy
  have hnt := next_test_false seen (l.map MEnt.e).toArray since last hold' hsl
  have hlt : i < w.heap.size := (Array.getElem?_eq_some_iff.1 hi).1
  have hL : ∀ x ∈ ((l.map MEnt.e).toArray.filter fun e => !seen.contains e.born).toList, x.born < since ∧ ∃ y ∈ l, y.born ∉ seen ∧ x = MEnt.e y := fun x hx => by
    rw [Array.toList_filter, List.toList_toArray] at hx
    obtain ⟨h1, h2⟩ := List.mem_filter.1 hx
    obtain ⟨y, hy, rfl⟩ := List.mem_map.1 h1
    exact ⟨hold y hy, y, hy, by simpa [MEnt.e] using h2, rfl⟩
  have hall : ((l.map MEnt.e).toArray.filter fun e => !seen.contains e.born).size = 0 → ∀ x ∈ l, x.born ∈ seen := fun h x hx => by
    refine Decidable.byContradiction fun hn => ?_
    have hm : MEnt.e x ∈ ((l.map MEnt.e).toArray.filter fun e => !seen.contains e.born) := by
      rw [Array.mem_filter]
      exact ⟨by rw [List.mem_toArray]; exact List.mem_map.2 ⟨x, hx, rfl⟩, by simpa [MEnt.e] using hn⟩
    rw [Array.eq_empty_of_size_eq_zero h] at hm
    exact absurd hm (by simp)
  simp only [Instr.next, getObj, Sem.run_bind, Sem.run, hi, hb, Result.andThen, hnt, Bool.false_eq_true, if_false]
  generalize ((l.map MEnt.e).toArray.filter fun e => !seen.contains e.born) = L at hL hall ⊢
  have e1 : L.filter (fun x => decide (x.born < since)) = L := Array.filter_eq_self.2 (fun x hx => by simpa using (hL x (by simpa using hx)).1)
  have e2 : L.filter (fun x => decide (x.born ≥ since)) = #[] := by
    rw [Array.filter_eq_empty_iff]
    intro x hx
    have := (hL x (by simpa using hx)).1
    simp
    omega
  simp only [e1, e2, Array.append_empty]
  by_cases h0 : L.size = 0
  · left
    refine ⟨hall h0, ?_⟩
    have : L = #[] := Array.eq_empty_of_size_eq_zero h0
    subst this
    simp [choose, Sem.run, Question.forced]
  · right
    have hne : L.isEmpty = false := by simp [Array.isEmpty, h0]
    simp only [hne, Bool.false_eq_true, if_false, Array.empty_append, Array.size_map]
    have hch : ∃ (j n : Nat), j < L.size ∧ (choose (Question.mapNext L.size)).run P w = .ok j { w with drawn := w.drawn + n } := by
      by_cases hf : L.size ≤ 1
      · exact ⟨0, 0, by omega, by simp [choose, Sem.run, Question.forced, hf]⟩
      · exact ⟨_, 1, Nat.mod_lt _ (by omega), by
          simp only [choose, Sem.run, Question.forced, decide_eq_true_eq, hf, if_false, Question.cut]
          rfl⟩
    obtain ⟨j, n, hj, hrun⟩ := hch
    obtain ⟨_, y, hy, hys, hye⟩ := hL L[j] (by simp)
    refine ⟨y, hy, hys, n, ?_⟩
    have hset : ∀ o' : Obj, (setObj i o').run P { w with drawn := w.drawn + n } = .ok () { w with drawn := w.drawn + n, heap := w.heap.setIfInBounds i o' } := fun o' => by
      simp only [setObj, Sem.run, hi]
    simp only [hrun, Array.getElem?_map, Array.getElem?_eq_getElem hj, Option.map_some, Sem.run_bind, hset, Result.andThen, hye]
    rfl
theorem os_nextT (hd : Nat.blt d X.n = true) {since last : Nat} {seen : Array Nat} (hx : evo fr x = some (.pointer (some ⟨i, 0, none⟩))) (hi : At M i (itO i b since seen last).2) (hb : At M b (mapO b l c).2) (hold : ∀ x ∈ l, x.born < since) (hsl : since ≤ last)
    (h0 : (∀ x ∈ l, x.born ∈ seen) → K ⟨ds, (d, .tuple #[.bool false]) :: fr, M⟩) (h1 : ∀ x ∈ l, x.born ∉ seen → ∃ M', Up M i (itO i b since seen last).2 (itO i b since (seen.push x.born) c).2 M' ∧ K ⟨ds, (d, .tuple #[.bool true, .agg x.key.c, .agg x.tot.c]) :: fr, M'⟩) :
    OpS X (.next x false) ty (some d) ⟨ds, fr, M⟩ K := by
  rintro o hop hty hdst a w ⟨hf, hc⟩
  rcases run_nextT (P := X.P) w o.type (hc.at_ _ hi.mem) (hc.at_ _ hb.mem) hold hsl with ⟨hs, hr⟩ | ⟨y, hy, hys, n, hr⟩
  · refine wpIn_of_value (fun _ => trivial) (by rw [hop]; simp) (v := .tuple #[.bool false]) (w' := w) ?_ ?_
    · simp only [execOp, hop, hf.ev hx, Sem.run_bind, hr, Result.andThen, Sem.run_pure]
    · rw [hdst]
      exact ⟨⟨ds, (d, .tuple #[.bool false]) :: fr, M⟩, ⟨hf.put (by simpa using hd) _, hc⟩, h0 hs⟩
  · obtain ⟨M', hu, hK⟩ := h1 y hy hys
    refine wpIn_of_value (fun _ => trivial) (by rw [hop]; simp) (v := .tuple #[.bool true, .agg y.key.c, .agg y.tot.c]) (w' := { w with drawn := w.drawn + n, heap := w.heap.setIfInBounds i (.mapIter (some b) since (seen.push y.born) c) }) ?_ ?_
    · simp only [execOp, hop, hf.ev hx, Sem.run_bind, hr, Result.andThen, Sem.run_pure]
    · rw [hdst]
      exact ⟨⟨ds, (d, _) :: fr, M'⟩, ⟨hf.put (by simpa using hd) _, setObj_chg (hc.drew n) hu⟩, hK⟩
theorem qv_entryT {P : Program} {since : Nat} {seen : Array Nat} {m : MEnt} (hx : evo fr x = some (.pointer (some ⟨i, 0, none⟩))) (hi : At M i (itO i b since (seen.push m.born) c).2) (hb : At M b (mapO b l c).2) (hm : m ∈ l) (hn : (l.map (·.born)).Nodup) :
    QV P (.entry x) ty fr M (.tuple #[.agg m.key.c, .agg m.tot.c]) := fun o ho _ a w n ds hf hM => ⟨by simp, by
  have h1 : w.heap[i]? = some (.mapIter (some b) since (seen.push m.born) c) := hM _ hi.mem
  have h2 : w.heap[b]? = some (.map (l.map MEnt.e).toArray c) := hM _ hb.mem
  have h3 := find_born (MEnt.e m) (l.map MEnt.e) (by rw [List.map_map]; exact hn) (List.mem_map.2 ⟨m, hm, rfl⟩)
  have hr : (Instr.entry (.pointer (some ⟨i, 0, none⟩))).run P w = .ok (.tuple #[.agg m.key.c, .agg m.tot.c]) w := by
    have h4 : ((l.map MEnt.e).toArray.find? fun e => e.born == m.born) = some (MEnt.e m) := by
      rw [List.find?_toArray]
      exact h3
    simp only [Instr.entry, getObj, Sem.run_bind, Sem.run, h1, h2, Result.andThen, Array.back?_push, bne_self_eq_false, Bool.false_eq_true, if_false, h4]
    rfl
  simp only [execOp, ho, hf.ev hx, Sem.run_bind, hr, Result.andThen, Sem.run_pure]⟩
theorem os_clearT (hP : X.P = Try.prog) (hx : evo fr x = some (.map (some b))) (hu : Up M b (mapO b l c).2 (mapO b [] c).2 M') (h : K ⟨ds, fr, M'⟩) :
    OpS X (.call { callee := .builtin .clear, args := #[x], argTypes := #[205] }) ty none ⟨ds, fr, M⟩ K := by
  rintro o hop hty hdst a w ⟨hf, hc⟩
  have hb : w.heap[b]? = some (.map (l.map MEnt.e).toArray c) := hc.at_ _ hu.mem
  have hrun : (Builtin.clear_ #[205] o.type #[.map (some b)]).run Try.prog w = .ok (.tuple #[]) { w with heap := w.heap.setIfInBounds b (.map #[] c) } := by
    simp [Builtin.clear_, run_underlying un205, MapKept.run_getObj_map hb, MapKept.run_setObj_map _ hb, Sem.run_bind, Result.andThen]
  refine wpIn_of_value (fun _ => trivial) (by rw [hop]; simp) (v := .tuple #[]) (w' := { w with heap := w.heap.setIfInBounds b (.map #[] c) }) ?_ ?_
  · rw [hP]
    simp only [execOp, hop, resolve, List.map_toArray, List.map_cons, List.map_nil, hf.ev hx, Sem.run_bind, Sem.run_pure, Result.andThen, invoke, builtin, hrun]
  · rw [hdst]
    exact ⟨⟨ds, fr, M'⟩, ⟨hf, setObj_chg hc hu⟩, h⟩
end
end Go.Proofs.Ytobmcpoejhhemaa
