import Derived.Test.YtobmcpoejhhemaaOEngH
import Derived.Shelf.SlSortCmp.WholeK
namespace Go.E
open Go Go.Proofs Go.Sort Go.Shelf

section
variable {α : Type} [Inhabited α] {E : Enc α}
def encL (E : Enc α) (x : α) : List Value := (E.c x).toList
theorem flatK_get (hn : 0 < E.n) {d : Array α} {j : Nat} (h : j < d.size * E.n) : (E.flat d.toList)[j]? = some ((flatK (encL E) E.n d)[j]!) := by
  obtain ⟨a, ha, hg⟩ := E.flat_get hn (l := d.toList) (j := j) (by simpa using h)
  rw [hg, get_flatK _ _ _ _ h]
  have hd : d[j / E.n]! = a := by
    rw [Array.getElem?_toList] at ha
    rw [Array.getElem!_eq_getD, Array.getD_eq_getD_getElem?, ha]; rfl
  rw [hd]
  have hlt : j % E.n < (E.c a).size := by rw [E.sz]; exact Nat.mod_lt _ hn
  unfold encL
  rw [Array.getElem?_eq_getElem hlt, getElem!_pos (E.c a).toList _ (by simpa using hlt)]
  simp
theorem holdsK_of {w : World} {b : Nat} {cur : Array Value} {e : TypeId} {l : List α} (hn : 0 < E.n) (hb : w.heap[b]? = some (.cells cur e (0, 0))) (h : Go.E.Holds E cur 0 l) : HoldsK (encL E) E.n w b 0 l.toArray := by
  intro j hj
  rw [size_flatK] at hj
  have h1 := flatK_get (E := E) hn hj
  have h2 : cur[j]? = (E.flat l)[j]? := by
    have := congrArg (fun r : List Value => r[j]?) h
    simp only [List.drop_zero, List.getElem?_take] at this
    rw [if_pos (by simpa using hj)] at this
    rw [← this, Array.getElem?_toList]
  refine ⟨?_, ?_⟩
  · unfold World.cell?
    simp only [hb, Nat.zero_add]
    rw [h2]
    simpa using h1
  · unfold World.frozen?
    simp [hb]
/-- A world of the sort's. -/
theorem sw_other {w : World} {b off m k : Nat} {enc : α → List Value} {dk : Array α} {os : Array Obj} {q : Nat} (hq : q < w.heap.size) (hb : q ≠ b) : (sortWorldK enc k w b off m dk os).heap[q]? = w.heap[q]? := by
  show ((w.heap.modify b _) ++ os)[q]? = _
  rw [Array.getElem?_append_left (by simpa using hq), Array.getElem?_modify, if_neg (Ne.symm hb)]
theorem sw_row {w : World} {b off m k : Nat} {enc : α → List Value} {dk : Array α} {os : Array Obj} {cur : Array Value} {e : TypeId} {fz : Nat × Nat} (hb : w.heap[b]? = some (.cells cur e fz)) :
    (sortWorldK enc k w b off m dk os).heap[b]? = some (.cells (Go.Sort.putCells id off (flatK enc k dk) cur) e fz) := by
  have hlt : b < w.heap.size := (Array.getElem?_eq_some_iff.1 hb).1
  show ((w.heap.modify b _) ++ os)[b]? = _
  rw [Array.getElem?_append_left (by simpa using hlt), Array.getElem?_modify, if_pos rfl, hb]
  rfl
theorem sw_size {w : World} {b off m k : Nat} {enc : α → List Value} {dk : Array α} {os : Array Obj} : w.heap.size ≤ (sortWorldK enc k w b off m dk os).heap.size := by
  show w.heap.size ≤ ((w.heap.modify b _) ++ os).size
  simp
theorem putCells_size {β : Type} [Inhabited β] {enc : β → Value} {off : Nat} {d : Array β} {c : Array Value} : (Go.Sort.putCells enc off d c).size = c.size := by unfold Go.Sort.putCells; simp
theorem sw_holds (hn : 0 < E.n) {cur : Array Value} {d d' : Array α} (h : Go.E.Holds E cur 0 d.toList) (hs : d'.size = d.size) : Go.E.Holds E (Go.Sort.putCells id 0 (flatK (encL E) E.n d') cur) 0 d'.toList := by
  have hlen : d.size * E.n ≤ cur.size := by
    have := congrArg List.length h
    rw [E.flat_length] at this
    simp at this
    omega
  unfold Go.E.Holds
  rw [List.drop_zero]
  apply List.ext_getElem?
  intro j
  rw [List.getElem?_take]
  by_cases hj : j < d'.size * E.n
  · rw [if_pos (by simpa using hj), flatK_get hn hj]
    have hjc : j < cur.size := by rw [hs] at hj; omega
    rw [Array.getElem?_toList]
    unfold Go.Sort.putCells
    rw [Array.getElem?_mapIdx, Array.getElem?_eq_getElem hjc]
    simp only [Option.map_some, Nat.zero_le, true_and, Nat.zero_add, size_flatK, if_pos hj, Nat.sub_zero]
    rfl
  · rw [if_neg (by simpa using hj), List.getElem?_eq_none]
    rw [E.flat_length]
    simpa using hj
/-- What may be laid and drawn. -/
theorem grown_of {w w' : World} {A : Mem} (hA : Has A w) (h : Chg w A A w') : ∃ q os', w' = grow (w.drewN q) os' := by
  refine ⟨w'.drawn - w.drawn, w'.heap.extract w.heap.size w'.heap.size, ?_⟩
  have hheap : w'.heap = w.heap ++ w'.heap.extract w.heap.size w'.heap.size := by
    apply Array.ext_getElem?
    intro k
    by_cases hk : k < w.heap.size
    · rw [Array.getElem?_append_left hk]
      by_cases hm : ∃ p ∈ A, p.1 = k
      · obtain ⟨p, hp, rfl⟩ := hm
        rw [h.at_ p hp, hA p hp]
      · exact h.old k hk fun p hp e => hm ⟨p, hp, e⟩
    · rw [Array.getElem?_append_right (by omega), Array.getElem?_extract]
      have := h.size
      by_cases hk2 : k < w'.heap.size
      · rw [if_pos (by omega)]; congr 1; omega
      · rw [if_neg (by omega), Array.getElem?_eq_none (by omega)]
  have hd := h.drawn
  have e1 := h.os; have e2 := h.tape; have e3 := h.output
  cases w with
  | mk heap tape drawn os output =>
    cases w' with
    | mk heap' tape' drawn' os' output' =>
      simp only at e1 e2 e3 hd hheap ⊢
      subst e1 e2 e3
      show _ = World.mk (heap ++ _) _ (drawn + (drawn' - drawn)) _ _
      rw [← hheap, Nat.add_sub_cancel' hd]
      rfl
/-- slices.SortFunc: the elements of an owned slice come into order. -/
theorem ct_sort {P : Program} {ρ : Ren} (L : SlLaysF0.n6 P ρ) (hn : 0 < E.n) (aE : ∀ w, (isAgg (ρ.t 24)).run P w = .ok true w) (zE : ∀ w, (Go.sizeOf (ρ.t 24)).run P w = .ok E.n w) (h1 : ∀ x, ∀ v ∈ (E.c x).toList, v.oneCell' = true) (cf : α → α → Int) (hO : Go.Sort.SWO (ltOf cf)) {g : FuncId} {cb : List Value} {A : Mem} (hg : Ent P g)
    (hc : ∀ x y : α, Ct P g ([Value.agg (E.c x), Value.agg (E.c y)] ++ cb).toArray A (fun v A' => v = .int .i64 (cf x y) ∧ A' = A)) {b cap : Nat} {cur : Array Value} {e : TypeId} {l : List α} (hl : Go.E.Holds E cur 0 l) (hm : l.length < 4611686018427387904) :
    Ct P (ρ.f 6) [.slice (some ⟨b, 0, none⟩) l.length cap, .func (.func g) #[] cb.toArray].toArray ((b, .cells cur e (0, 0)) :: A)
      (fun v M' => v = .tuple #[] ∧ ∃ l' cur', l'.Perm l ∧ l'.Pairwise (fun x y => ltOf cf y x = false) ∧ Go.E.Holds E cur' 0 l' ∧ cur'.size = cur.size ∧ M' = (b, .cells cur' e (0, 0)) :: A) := by
  intro w hnd hM
  have hb : w.heap[b]? = some (.cells cur e (0, 0)) := hM (b, _) (by simp)
  have hblt : b < w.heap.size := (Array.getElem?_eq_some_iff.1 hb).1
  have hAb : ∀ p ∈ A, p.1 ≠ b := fun p hp he => by
    rw [List.map_cons, List.nodup_cons] at hnd
    exact hnd.1 (List.mem_map.2 ⟨p, hp, he⟩)
  have hAn : (A.map (·.1)).Nodup := by rw [List.map_cons, List.nodup_cons] at hnd; exact hnd.2
  have hAlt : ∀ p ∈ A, p.1 < w.heap.size := fun p hp => (Array.getElem?_eq_some_iff.1 (hM p (List.mem_cons_of_mem _ hp))).1
  have hW : ∀ (m : Nat) (dk : Array α) (os : Array Obj), Has A (sortWorldK (encL E) E.n w b 0 m dk os) := fun m dk os p hp => by
    rw [sw_other (hAlt p hp) (hAb p hp)]
    exact hM p (List.mem_cons_of_mem _ hp)
  have hcmp : CmpLays P g cb.toArray (encL E) E.n cf b 0 l.toArray.size w := fun m os dk _ x y => by
    have h := hc x y (sortWorldK (encL E) E.n w b 0 m dk os) hAn (hW m dk os)
    have ea : (#[.agg (encL E x).toArray, .agg (encL E y).toArray] ++ cb.toArray : Array Value) = ([Value.agg (E.c x), Value.agg (E.c y)] ++ cb).toArray := by simp [encL]
    rw [ea]
    refine h.mono ?_
    rintro r w' ⟨v, A', rfl, ⟨rfl, rfl⟩, hch⟩
    exact ⟨rfl, grown_of (hW m dk os) hch⟩
  have hs := AnyQ.slices_SortFunc L E.n aE zE (encL E) (fun x => by simp [encL, E.sz]) h1 cf hO g cb.toArray b 0 cap l.toArray w hg hcmp (holdsK_of hn hb hl) hblt (by simpa using hm)
  have el : l.toArray.size = l.length := by simp
  rw [el] at hs
  refine hs.mono ?_
  rintro r w' ⟨rfl, d', n, os, hp, hso, rfl⟩
  refine ⟨_, _, rfl, ⟨rfl, d'.toList, _, ?_, ?_, sw_holds hn (d := l.toArray) (by simpa using hl) (by simpa using hp.1), putCells_size, rfl⟩, ?_⟩
  · have h3 := hp.2.2
    have e1 : d'.extract 0 l.length = d' := by
      have : l.length = d'.size := by rw [hp.1]; simp
      rw [this]; simp
    have e2 : l.toArray.extract 0 l.length = l.toArray := by simp
    rw [e1, e2] at h3
    exact h3
  · rw [List.pairwise_iff_getElem]
    intro i j hi hj hij
    have hd : d'.size = l.length := by rw [hp.1]; simp
    have h4 := hso i j (Nat.zero_le _) hij (by rw [← hd]; simpa using hj)
    rw [getElem!_pos d' j (by simpa using hj), getElem!_pos d' i (by simpa using hi)] at h4
    simpa using h4
  · refine ⟨rfl, rfl, rfl, Nat.le_add_right _ _, sw_size, ?_, ?_, ?_, ?_⟩
    · intro k hk hne
      exact sw_other hk fun h => hne (b, .cells cur e (0, 0)) (by simp) h.symm
    · intro p hp
      rcases List.mem_cons.1 hp with rfl | hp
      · exact .inl ⟨(b, .cells cur e (0, 0)), by simp, rfl⟩
      · exact .inl ⟨p, List.mem_cons_of_mem _ hp, rfl⟩
    · simpa using hnd
    · intro p hp
      rcases List.mem_cons.1 hp with rfl | hp
      · exact sw_row hb
      · exact hW _ _ _ p hp
end

section
variable {α : Type} {E : Enc α} {W : α → Prop}
/-- Elements of which something is known. -/
def Enc.sub (E : Enc α) (W : α → Prop) : Enc {a : α // W a} := ⟨fun x => E.c x.1, E.n, fun x => E.sz x.1⟩
theorem Enc.sub_flat (l : List {a : α // W a}) : (E.sub W).flat l = E.flat (l.map (·.1)) := by
  unfold Enc.flat Enc.sub
  rw [List.flatMap_map]
theorem holds_sub {cur : Array Value} {off : Nat} {l : List {a : α // W a}} : Go.E.Holds (E.sub W) cur off l ↔ Go.E.Holds E cur off (l.map (·.1)) := by
  unfold Go.E.Holds
  rw [Enc.sub_flat, List.length_map]
  exact Iff.rfl
/-- slices.SortFunc, of elements of which something is known. -/
theorem ct_sortP {P : Program} {ρ : Ren} (L : SlLaysF0.n6 P ρ) (hn : 0 < E.n) (a0 : {a : α // W a}) (aE : ∀ w, (isAgg (ρ.t 24)).run P w = .ok true w) (zE : ∀ w, (Go.sizeOf (ρ.t 24)).run P w = .ok E.n w) (h1 : ∀ x, ∀ v ∈ (E.c x).toList, v.oneCell' = true) (cf : α → α → Int) (hO : Go.Sort.SWO (ltOf fun x y : {a : α // W a} => cf x.1 y.1)) {g : FuncId} {cb : List Value} {A : Mem} (hg : Ent P g)
    (hc : ∀ x y : α, W x → W y → Ct P g ([Value.agg (E.c x), Value.agg (E.c y)] ++ cb).toArray A (fun v A' => v = .int .i64 (cf x y) ∧ A' = A)) {b cap : Nat} {cur : Array Value} {e : TypeId} {l : List α} (hw : ∀ a ∈ l, W a) (hl : Go.E.Holds E cur 0 l) (hm : l.length < 4611686018427387904) :
    Ct P (ρ.f 6) [.slice (some ⟨b, 0, none⟩) l.length cap, .func (.func g) #[] cb.toArray].toArray ((b, .cells cur e (0, 0)) :: A)
      (fun v M' => v = .tuple #[] ∧ ∃ l' cur', l'.Perm l ∧ l'.Pairwise (fun x y => ¬ cf y x < 0) ∧ Go.E.Holds E cur' 0 l' ∧ cur'.size = cur.size ∧ M' = (b, .cells cur' e (0, 0)) :: A) := by
  haveI : Inhabited {a : α // W a} := ⟨a0⟩
  have hmap : (l.pmap Subtype.mk hw).map (·.1) = l := by
    rw [List.map_pmap]
    simp
  have hlen : (l.pmap Subtype.mk hw).length = l.length := by simp
  have h := ct_sort (E := E.sub W) L hn aE zE (fun x => h1 x.1) (fun x y => cf x.1 y.1) hO hg (fun x y => hc x.1 y.1 x.2 y.2) (b := b) (cap := cap) (cur := cur) (e := e) (l := l.pmap Subtype.mk hw) (holds_sub.2 (by rw [hmap]; exact hl)) (by rw [hlen]; exact hm)
  rw [hlen] at h
  refine h.mono ?_
  rintro v M' ⟨hv, l', cur', hp, hs, hh, hz, hM⟩
  refine ⟨hv, l'.map (·.1), cur', ?_, ?_, holds_sub.1 hh, hz, hM⟩
  · have := hp.map (·.1)
    rwa [hmap] at this
  · rw [List.pairwise_map]
    refine hs.imp fun {x y} hxy => ?_
    unfold ltOf at hxy
    simpa using hxy
end
end Go.E
