import Derived.Test.YtobmcpoejhhemaaGreatKCacT
namespace Go.Proofs.YtobmcpoejhhemaaGreat
open Go.E

def Good (tick : Int) (r : Rec) : Prop := 1 ≤ r.packets ∧ r.first ≤ r.last ∧ r.last ≤ tick
theorem sR_told {g : Tot → Int} {re : Rec → Int} {l : List Rec} {k : Key} : sR g (told re l) k = sR g l k := smk_map (fun _ _ => rfl) fun _ _ => rfl
theorem sR_perm {g : Tot → Int} {l l' : List Rec} {k : Key} (h : l.Perm l') : sR g l k = sR g l' k := smk_perm h
theorem sR_app {g : Tot → Int} {l l' : List Rec} {k : Key} : sR g (l ++ l') k = sR g l k + sR g l' k := smk_app
theorem sR_cons {g : Tot → Int} {r : Rec} {l : List Rec} {k : Key} : sR g (r :: l) k = (if r.key = k then g r.tot else 0) + sR g l k := rfl
theorem sR_nil {g : Tot → Int} {k : Key} : sR g [] k = 0 := rfl
section
variable {bd : Bnd} {tick tick' cls : Int} {fl fl1 fl' out : List Rec} {p : Pkt}
theorem AdvAny.eff (h : AdvAny bd tick tick' fl fl1 out) (g : Tot → Int) (k : Key) : sR g fl1 k + sR g out k = sR g fl k := by
  rcases h with ⟨_, rfl, rfl⟩ | ⟨_, srt, h1, _, rfl, h3⟩
  · rw [sR_nil]; omega
  · rw [sR_told, sR_perm h1, sR_perm h3, Int.add_comm]
    exact smk_part _
theorem AdvAny.sub (h : AdvAny bd tick tick' fl fl1 out) : ∀ x ∈ fl1, x ∈ fl := by
  rcases h with ⟨_, rfl, rfl⟩ | ⟨_, srt, h1, _, rfl, h3⟩
  · exact fun x hx => hx
  · exact fun x hx => (List.mem_filter.1 (h3.mem_iff.1 hx)).1
theorem AdvAny.of (h : AdvAny bd tick tick' fl fl1 out) : ∀ y ∈ out, ∃ x ∈ fl, ∃ z, 1 ≤ z ∧ z ≤ 5 ∧ y = { x with reason := z } := by
  rcases h with ⟨_, rfl, rfl⟩ | ⟨_, srt, h1, _, rfl, h3⟩
  · exact fun y hy => absurd hy List.not_mem_nil
  · intro y hy
    obtain ⟨x, hx, rfl⟩ := List.mem_map.1 hy
    refine ⟨x, (List.mem_filter.1 (h1.mem_iff.1 hx)).1, reasonR bd x, ?_, ?_, rfl⟩ <;> unfold reasonR <;> split <;> omega
theorem AdvAny.young (h : AdvAny bd tick tick' fl fl1 out) (ht : tick ≤ tick') : ∀ x ∈ fl1, tick' < dueR bd x := by
  rcases h with ⟨h, _⟩ | ⟨_, srt, h1, _, rfl, h3⟩
  · omega
  · intro x hx
    have := (List.mem_filter.1 (h3.mem_iff.1 hx)).2
    simp at this
    exact this
theorem BegR.eff (h : BegR bd fl fl1 out) (g : Tot → Int) (k : Key) : sR g fl1 k + sR g out k = sR g fl k := by
  rcases h with ⟨_, u, _, _, rfl, h⟩ | ⟨_, rfl, rfl⟩
  · rw [sR_perm h, sR_cons, sR_cons, sR_nil]
    show _ + ((if u.key = k then g u.tot else 0) + 0) = _
    omega
  · rw [sR_nil]; omega
theorem BegR.of (h : BegR bd fl fl1 out) : ∀ y ∈ out, ∃ x ∈ fl, ∃ z, 1 ≤ z ∧ z ≤ 5 ∧ y = { x with reason := z } := by
  rcases h with ⟨_, u, hu, _, rfl, _⟩ | ⟨_, rfl, rfl⟩
  · intro y hy
    rw [List.mem_singleton] at hy
    exact ⟨u, hu, 5, by omega, by omega, hy⟩
  · exact fun y hy => absurd hy List.not_mem_nil
theorem with_tot {r : Rec} {T : Int} (h1 : r.packets ≤ 1000000) (h2 : r.bytes ≤ 1000000000) (h3 : p.length ≤ 100000) : (r.with_ p T).tot = tadd r.tot ⟨1, max 0 p.length⟩ := by
  show (⟨sat r.packets 1, sat r.bytes (max 0 p.length)⟩ : Tot) = ⟨r.packets + 1, r.bytes + max 0 p.length⟩
  unfold sat
  rw [if_neg (by omega), if_neg (by omega)]
theorem endZ_of {r : Rec} (h : endZ bd p r ≠ 0) : 1 ≤ endZ bd p r ∧ endZ bd p r ≤ 5 := by
  unfold endZ at *
  split
  · omega
  · rename_i h1; rw [if_neg h1] at h
    split
    · omega
    · rename_i h2; rw [if_neg h2] at h; omega
theorem tickTo_ge : tick ≤ tickTo tick tick' := by unfold tickTo; split <;> omega
theorem tickTo_of (h : tick ≤ tick') : tickTo tick tick' = tick' := if_pos h
/-- What an Account does to the sums. -/
theorem AccR.eff (h : AccR bd tick tick' p cls fl fl' out) (hb : ∀ r ∈ fl, r.packets ≤ 1000000 ∧ r.bytes ≤ 1000000000) (hp : p.length ≤ 100000) {g : Tot → Int} (hg : Lin g) (k : Key) :
    sR g fl' k + sR g out k = sR g fl k + if p.key = k then g ⟨1, max 0 p.length⟩ else 0 := by
  obtain ⟨fl1, out1, out2, r, X, hA, hc, he⟩ := h.perm
  have e1 := hA.eff g k
  have hr : r.packets ≤ 1000000 ∧ r.bytes ≤ 1000000000 ∧ r.key = p.key ∧ sR g fl1 k + (if p.key = k then g ⟨1, max 0 p.length⟩ else 0) = (if r.key = k then g (r.with_ p (tickTo tick tick')).tot else 0) + sR g X k + sR g out2 k := by
    rcases hc with ⟨h1, h2, rfl⟩ | ⟨_, hB, rfl⟩
    · have h3 := hb r (hA.sub r (h1.mem_iff.2 (.head _)))
      refine ⟨h3.1, h3.2, h2, ?_⟩
      rw [with_tot h3.1 h3.2 hp, sR_perm h1, sR_cons, sR_nil, h2, show g (tadd r.tot ⟨1, max 0 p.length⟩) = g r.tot + g ⟨1, max 0 p.length⟩ from hg.add _ _ _ _]
      split <;> omega
    · refine ⟨show (0 : Int) ≤ 1000000 by decide, show (0 : Int) ≤ 1000000000 by decide, rfl, ?_⟩
      have e2 := hB.eff g k
      rw [with_tot (r := startR p.key cls (tickTo tick tick')) (show (0 : Int) ≤ 1000000 by decide) (show (0 : Int) ≤ 1000000000 by decide) hp, show g (tadd (startR p.key cls (tickTo tick tick')).tot ⟨1, max 0 p.length⟩) = g ⟨0, 0⟩ + g ⟨1, max 0 p.length⟩ from hg.add _ _ _ _, hg.zero]
      show _ = (if p.key = k then _ else _) + _ + _
      split <;> omega
  obtain ⟨_, _, hk, e2⟩ := hr
  rcases he with ⟨_, h4, rfl⟩ | ⟨_, h4, rfl⟩
  · rw [sR_perm h4, sR_cons, sR_app]
    show (if r.key = k then _ else 0) + _ + _ = _
    omega
  · rw [sR_perm h4, sR_app, sR_app, sR_cons, sR_nil]
    show _ + (_ + ((if r.key = k then g (r.with_ p (tickTo tick tick')).tot else 0) + 0)) = _
    omega
/-- What ends is right. -/
theorem right_of {x : Rec} {z T : Int} (h : Good T x) (hr : x.key.right = true) (h1 : 1 ≤ z) (h2 : z ≤ 5) : ({ x with reason := z } : Rec).right = true := by
  unfold Rec.right
  simp [hr, h.1, h.2.1, h1, h2]
theorem wf_of {x : Rec} {z : Int} (h : x.Wf) (h1 : 1 ≤ z) (h2 : z ≤ 5) : ({ x with reason := z } : Rec).Wf := by
  obtain ⟨a, b, c, d, e, f, _, i⟩ := h
  exact ⟨a, b, c, d, e, f, ⟨by show (0 : Int) ≤ z; omega, by show z ≤ 255; omega⟩, i⟩
theorem Good.mono {r : Rec} (h : Good tick r) (ht : tick ≤ tick') : Good tick' r := ⟨h.1, h.2.1, by have := h.2.2; omega⟩
def Okay (T : Int) (r : Rec) : Prop := Good T r ∧ r.Wf ∧ r.key.right = true
theorem AccR.of (h : AccR bd tick tick' p cls fl fl' out) (hf : ∀ r ∈ fl, Okay tick r) (hp : p.Wf) (hk : p.key.right = true) (ht : InK .u64 (tickTo tick tick')) (hcl : InK .u8 cls) :
    (∀ r ∈ fl', Good (tickTo tick tick') r) ∧ ∀ r ∈ out, r.right = true ∧ r.Wf := by
  obtain ⟨fl1, out1, out2, r, X, hA, hc, he⟩ := h.perm
  have hsub : ∀ x ∈ fl1, Okay tick x := fun x hx => hf x (hA.sub x hx)
  have ho : ∀ x : Rec, Okay tick x → ∀ z, 1 ≤ z → z ≤ 5 → ({ x with reason := z } : Rec).right = true ∧ ({ x with reason := z } : Rec).Wf := fun x hx z h1 h2 => ⟨right_of hx.1 hx.2.2 h1 h2, wf_of hx.2.1 h1 h2⟩
  have ho1 : ∀ y ∈ out1, y.right = true ∧ y.Wf := fun y hy => by
    obtain ⟨x, hx, z, h1, h2, rfl⟩ := hA.of y hy
    exact ho x (hf x hx) z h1 h2
  have hT : tick ≤ tickTo tick tick' := tickTo_ge
  generalize tickTo tick tick' = T at *
  have hr : (∀ x ∈ X, Okay tick x) ∧ (∀ y ∈ out2, y.right = true ∧ y.Wf) ∧ r.key = p.key ∧ r.Wf ∧ 0 ≤ r.packets ∧ r.first ≤ max r.last T ∧ r.last ≤ T := by
    rcases hc with ⟨h1, h2, rfl⟩ | ⟨_, hB, rfl⟩
    · have h3 := hsub r (h1.mem_iff.2 (.head _))
      exact ⟨fun x hx => hsub x (h1.mem_iff.2 (.tail _ hx)), fun y hy => absurd hy List.not_mem_nil, h2, h3.2.1, by have := h3.1.1; omega, by have := h3.1.2.1; omega, by have := h3.1.2.2; omega⟩
    · refine ⟨fun x hx => hsub x (hB.sub x hx), fun y hy => ?_, rfl, startR_wf hp.key_ ht hcl, Int.le_refl 0, by show T ≤ max T T; omega, Int.le_refl T⟩
      obtain ⟨x, hx, z, h1, h2, rfl⟩ := hB.of y hy
      exact ho x (hsub x hx) z h1 h2
  obtain ⟨h1, h2, h3, h4, h5, h6, h7⟩ := hr
  have hg : Okay T (r.with_ p T) := by
    refine ⟨⟨?_, h6, ?_⟩, with_wf h4 hp ht, by show r.key.right = true; rw [h3]; exact hk⟩
    · show 1 ≤ sat r.packets 1
      unfold sat; split <;> omega
    · show max r.last T ≤ T; omega
  have hoT : ∀ z, 1 ≤ z → z ≤ 5 → ({ r.with_ p T with reason := z } : Rec).right = true ∧ ({ r.with_ p T with reason := z } : Rec).Wf := fun z h1 h2 => ⟨right_of hg.1 hg.2.2 h1 h2, wf_of hg.2.1 h1 h2⟩
  rcases he with ⟨_, h8, rfl⟩ | ⟨hz, h8, rfl⟩
  · refine ⟨fun x hx => ?_, fun y hy => ?_⟩
    · rcases List.mem_cons.1 (h8.mem_iff.1 hx) with rfl | h
      · exact hg.1
      · exact (h1 x h).1.mono hT
    · rcases List.mem_append.1 hy with h | h
      · exact ho1 y h
      · exact h2 y h
  · refine ⟨fun x hx => (h1 x (h8.mem_iff.1 hx)).1.mono hT, fun y hy => ?_⟩
    rcases List.mem_append.1 hy with h | h
    · rcases List.mem_append.1 h with h | h
      · exact ho1 y h
      · exact h2 y h
    · rw [List.mem_singleton] at h
      subst h
      obtain ⟨e1, e2⟩ := endZ_of hz
      exact hoT _ e1 e2
end
end Go.Proofs.YtobmcpoejhhemaaGreat
