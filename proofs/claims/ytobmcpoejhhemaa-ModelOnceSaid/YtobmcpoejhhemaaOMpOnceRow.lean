/- ModelOnce: at every input the law returns true, and each argument reads behind the call as it read before. No condition beyond the statement. -/
import Derived.Test.YtobmcpoejhhemaaOMpV
namespace Go.Proofs.Ytobmcpoejhhemaa
open Go.E Go.ChangeShapes Go.WideShapes Go.ChangeAt Go.RowKit

/-- A slice that comes in, as a list: its elements' reading may look at the world. -/
theorem rd_sliceW {H : Type} {enc : TypeId × Value → H} {P : Program} {w : World} {base : Nat} {spare : Nat → Bool} {held : Bool} {t e : TypeId} {v : Value} {d : DataW H} {ps : List MemPlace} {α : Type} {E : Enc α} {Ok : α → Prop}
    (ht : P.underlying t = some (.slice e)) (hc : P.cellsOf e = E.n) (hn : 0 < E.n) (hr : ∀ (fuel : Nat) (cs : List Value) (x : DataW H × List MemPlace), DataW.trod enc P w base spare held fuel e cs = some x → ∃ a, cs = (E.c a).toList ∧ Ok a) (h : DataW.Trod enc P w base spare held t v d ps) (hv : v.cells = #[v]) :
    ∃ (p : Option Addr) (l : List α) (cap b : Nat), v = .slice p l.length cap ∧ (∀ a ∈ l, Ok a) ∧ l.length ≤ cap ∧ cap ≤ maxLen ∧ (l = [] ∨ ∃ off cur e' fz, p = some ⟨b, off, none⟩ ∧ w.heap[b]? = some (.cells cur e' fz) ∧ Holds E cur off l) := by
  obtain ⟨fuel, h⟩ := h
  rw [hv] at h
  rcases Go.Deep.open_slice ht h with ⟨hcs, _⟩ | ⟨a, len, cap, m, n, D, Pl, hcs, _, hl, hm, hmm, _, hi⟩
  · simp at hcs
    subst hcs
    exact ⟨none, [], 0, 0, rfl, by simp, by simp, by simp, .inl rfl⟩
  · simp at hcs
    subst hcs
    have hle : len ≤ m := by rw [hmm]; split <;> omega
    have key : ∀ i, i < len → ∃ a', Ok a' ∧ ∀ j, j < E.n → w.cell? ((a.add (i * E.n)).add j) = (E.c a')[j]? := fun i hi' => by
      obtain ⟨cs', h1, h2⟩ := hi i (by omega)
      obtain ⟨a', ha', ho⟩ := hr _ _ _ h2
      rw [hc] at h1
      obtain ⟨_, _, h3⟩ := World.cells?_some h1
      refine ⟨a', ho, fun j hj => ?_⟩
      rw [h3 j hj, ha']
      simp
    have hl2 : ∀ k, k ≤ len → ∃ l : List α, l.length = k ∧ ∀ i a', l[i]? = some a' → Ok a' ∧ ∀ j, j < E.n → w.cell? ((a.add (i * E.n)).add j) = (E.c a')[j]? := by
      intro k
      induction k with
      | zero => intro _; exact ⟨[], rfl, by simp⟩
      | succ k ih =>
        intro hk
        obtain ⟨l, h1, h2⟩ := ih (by omega)
        obtain ⟨a', h3, h4⟩ := key k (by omega)
        refine ⟨l ++ [a'], by simp [h1], fun i x hx => ?_⟩
        rcases Nat.lt_trichotomy i l.length with hlt | heq | hgt
        · rw [List.getElem?_append_left hlt] at hx
          exact h2 i x hx
        · subst heq
          simp at hx
          subst hx
          rw [h1]
          exact ⟨h3, h4⟩
        · rw [List.getElem?_eq_none (by simp; omega)] at hx
          cases hx
    obtain ⟨l, h1, h2⟩ := hl2 len (Nat.le_refl _)
    refine ⟨some a, l, cap, a.block, by rw [h1], fun x hx => ?_, by omega, hm, ?_⟩
    · obtain ⟨i, hi', rfl⟩ := List.getElem_of_mem hx
      exact (h2 i _ (List.getElem?_eq_getElem hi')).1
    · cases hlc : l with
      | nil => exact .inl rfl
      | cons x0 l' =>
        right
        have h0 := (h2 0 x0 (by rw [hlc]; rfl)).2 0 hn
        have hsome : ∃ u, (E.c x0)[0]? = some u := ⟨_, Array.getElem?_eq_getElem (by rw [E.sz]; exact hn)⟩
        obtain ⟨u, hu⟩ := hsome
        rw [hu, Nat.zero_mul] at h0
        have ha0 : (a.add 0).add 0 = a := by unfold Addr.add; split <;> simp_all
        rw [ha0] at h0
        obtain ⟨b, off, spot⟩ := a
        unfold World.cell? at h0
        split at h0
        · rename_i c e' fz hb
          cases spot with
          | some s => simp at h0
          | none =>
            refine ⟨off, c, e', fz, rfl, hb, ?_⟩
            rw [← hlc]
            unfold Holds
            apply List.ext_getElem?
            intro q
            rw [List.getElem?_take]
            have hfl := E.flat_length l
            split
            · rename_i hq
              rw [List.getElem?_drop]
              have hi1 : q / E.n < l.length := Nat.div_lt_of_lt_mul (by rw [Nat.mul_comm]; exact hq)
              have hr1 : q % E.n < E.n := Nat.mod_lt _ hn
              have hg := List.getElem?_eq_getElem hi1
              have h3 := (h2 _ _ hg).2 (q % E.n) hr1
              have hqe : q / E.n * E.n + q % E.n = q := by rw [Nat.mul_comm]; exact Nat.div_add_mod q E.n
              rw [add_none, add_none, Nat.add_assoc, hqe] at h3
              have h4 : w.cell? ⟨b, off + q, none⟩ = c[off + q]? := cell_of_row w b _ c e' fz hb
              rw [h4] at h3
              have h5 := E.flat_at l _ _ hg
              have h6 : (((E.flat l).drop (q / E.n * E.n)).take E.n)[q % E.n]? = ((E.c l[q / E.n]).toList)[q % E.n]? := by rw [h5]
              rw [List.getElem?_take, if_pos hr1, List.getElem?_drop, hqe] at h6
              rw [h6]
              simpa using h3
            · rename_i hq
              rw [List.getElem?_eq_none (by omega)]
        · cases h0
/-- The block that a note's records lie in. -/
def nblk (t : NoteR) : Nat := match t.p with
  | some a => a.block
  | none => 0
set_option maxRecDepth 100000 in
theorem modelOnce_lifted (os : Os) (started : os.Started) (H : Type) (enc : TypeId × Value → H) :
    ReturnsInHanded {} Try.checked os 11 .any (Rows.modelOnceSpec.pre6 enc Try.prog Try.f11 Rows.modelOnceRow.domain false) (Rows.modelOnceSpec.post enc Try.prog Try.f11 false true false false) := by
  refine returnsInHanded_of_change (C := Try.checked) Try.own started (by kernel_rfl) Try.func11
    (ChangeSpec.witness6 (enc := enc) (C := Try.checked) false ⟨#[], #[.slice none 0 0], []⟩ 8 (by kernel_rfl) (by kernel_rfl) (by kernel_rfl) (by kernel_rfl)) ?_
  intro W base args ds gs before hval0 hW hcnd _
  have hval : ∀ (j : Nat) t v, Try.f11.params[j]? = some t → args[j]? = some v → Value.okWide Try.prog W .any base t v := hval0
  have hA0 : DataW.TrodAll enc Try.prog W 0 (fun _ => true) true [129] args.toList ds _ := hW.choose_spec.choose_spec.1
  obtain ⟨v0, vs, d0, ds, p0, q, hargs, rfl, h0, hA0⟩ := trodAll_open hA0
  obtain ⟨rfl, rfl⟩ := trodAll_end hA0
  have ha := arr_of hargs
  subst ha
  clear hval0 hA0 hcnd
  obtain ⟨p_l, l, c_l, b_l, rfl, h_l, hc_l, hm_l, hl_l⟩ := rd_sliceW (t := 129) (e := 135) (E := eNoteR) (Ok := NOk W) (by kernel_rfl) (by kernel_rfl) (by decide) rdw_note h0 (okWide_sl (e := 135) (by kernel_rfl) (hval 0 _ _ rfl rfl))
  obtain ⟨R, hR1, hR2, hR3⟩ := mk_mem W (b_l :: l.map nblk)
  have L_l := mk_lst hl_l hR3 (by simp)
  have L_n : ∀ t ∈ l, Lst eRec t.p t.recs R := fun t ht => by
    rcases (h_l t ht).in_ with h | ⟨b, off, cur, e', fz, h1, h2, h3⟩
    · exact .inl h
    · exact mk_lst (b := b) (.inr ⟨off, cur, e', fz, h1, h2, h3⟩) hR3 (List.mem_cons_of_mem _ (List.mem_map.2 ⟨t, ht, by unfold nblk; rw [h1]⟩))
  refine ((ct_ModelOnceAll l R p_l c_l L_l (Nat.le_trans hc_l hm_l) (fun t ht => ⟨(h_l t ht).cap_, (h_l t ht).wf⟩) L_n : Ct Try.prog 11 [.slice p_l l.length c_l].toArray R (fun v M' => v = .bool true ∧ M' = R)) W hR1 hR2).mono ?_
  rintro e W' ⟨_, _, rfl, ⟨rfl, rfl⟩, hc⟩
  have hgs : gs = [] := by
    obtain ⟨_, _, _, hv, _⟩ := hW
    cases gs with
    | nil => rfl
    | cons _ _ => exact hv.elim
  subst hgs
  exact ⟨_, rfl, law_post hW (Chg.below hR2 hc) (by decide +kernel) rfl rfl rfl⟩

theorem modelOnce_holds : Rows.ModelOnceSaid :=
  OpenClaim.holds_of_wide 11 Try.f11 rfl rfl rfl rfl rfl rfl rfl ⟨rfl, rfl, rfl, rfl, rfl⟩ rfl rfl rfl rfl rfl (by kernel_rfl) Try.func11 (by kernel_rfl)
    (of_decide_eq_true (by kernel_rfl)) (by unfold Func.isWrapper; rw [if_neg (by decide +kernel)]; exact ⟨rfl, rfl⟩)
    (fun os started H enc _ => modelOnce_lifted os started H enc)
end Go.Proofs.Ytobmcpoejhhemaa
