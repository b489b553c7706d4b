import Derived.Test.YtobmcpoejhhemaaGreatKCacU
namespace Go.Proofs.YtobmcpoejhhemaaGreat
open Go.E

structure CkJ (tick : Int) (fl : List Rec) (ins outs : List Sum24) (done : List Rec) (n : Nat) : Prop where
  tk : InK .u64 tick
  ni : (ins.map (·.key)).Nodup
  no : (outs.map (·.key)).Nodup
  sums : ∀ g, Lin g → ∀ k, sS g ins k = sS g outs k + sR g fl k + sR g done k
  ip : ∀ s ∈ ins, 0 ≤ s.total.packets ∧ 0 ≤ s.total.bytes
  op : ∀ s ∈ outs, 0 ≤ s.total.packets ∧ 0 ≤ s.total.bytes
  most : ∀ k, sS Tot.packets ins k ≤ n ∧ sS Tot.bytes ins k ≤ n * 100000
  good : ∀ r ∈ fl, Good tick r
  dg : ∀ r ∈ done, r.right = true ∧ r.Wf
  il : ins.length ≤ n
theorem CkJ.start : CkJ 0 [] [] [] [] 0 :=
  ⟨⟨by decide, by decide⟩, .nil, .nil, fun _ _ _ => rfl, fun _ h => absurd h List.not_mem_nil, fun _ h => absurd h List.not_mem_nil, fun _ => ⟨Int.le_refl 0, Int.le_refl 0⟩, fun _ h => absurd h List.not_mem_nil, fun _ h => absurd h List.not_mem_nil, Nat.le_refl 0⟩
def WfR (r : Rec) : Prop := r.Wf ∧ r.key.right = true
theorem sR_pos {l : List Rec} (h : ∀ r ∈ l, r.Wf) (k : Key) : 0 ≤ sR Tot.packets l k ∧ 0 ≤ sR Tot.bytes l k :=
  ⟨smk_pos fun r hr => (h r hr).packets_.1, smk_pos fun r hr => (h r hr).bytes_.1⟩
theorem sS_pos {S : List Sum24} (h : ∀ s ∈ S, 0 ≤ s.total.packets ∧ 0 ≤ s.total.bytes) (k : Key) : 0 ≤ sS Tot.packets S k ∧ 0 ≤ sS Tot.bytes S k :=
  ⟨smk_pos fun s hs => (h s hs).1, smk_pos fun s hs => (h s hs).2⟩
section
variable {bd : Bnd} {tick tick' cls : Int} {fl fl1 fl' out done srt : List Rec} {p : Pkt} {ins outs : List Sum24} {n : Nat}
theorem CkJ.mono (h : CkJ tick fl ins outs done n) : CkJ tick fl ins outs done (n + 1) :=
  { h with most := fun k => ⟨by have := (h.most k).1; omega, by have := (h.most k).2; omega⟩, il := by have := h.il; omega }
theorem CkJ.fb (h : CkJ tick fl ins outs done n) (hn : n ≤ 80) (hw : ∀ r ∈ fl, WfR r) : ∀ r ∈ fl, r.packets ≤ 1000000 ∧ r.bytes ≤ 1000000000 := fun r hr => by
  have h1 := h.sums _ lin_p r.key
  have h2 := h.sums _ lin_b r.key
  have h3 := sS_pos h.op r.key
  have h4 := sR_pos (fun x hx => (h.dg x hx).2) r.key
  have h5 : r.packets ≤ sR Tot.packets fl r.key := smk_le (fun x hx => (hw x hx).1.packets_.1) hr rfl
  have h6 : r.bytes ≤ sR Tot.bytes fl r.key := smk_le (fun x hx => (hw x hx).1.bytes_.1) hr rfl
  have h7 := h.most r.key
  omega
theorem CkJ.okay (h : CkJ tick fl ins outs done n) (hw : ∀ r ∈ fl, WfR r) : ∀ r ∈ fl, Okay tick r := fun r hr => ⟨h.good r hr, hw r hr⟩
theorem CkJ.adv (h : CkJ tick fl ins outs [] n) (hA : AdvAny bd tick tick' fl fl1 out) (hw : ∀ r ∈ fl, WfR r) (ht : InK .u64 tick') : CkJ (tickTo tick tick') fl1 ins outs out n :=
  { tk := tickTo_in h.tk ht, ni := h.ni, no := h.no, ip := h.ip, op := h.op, most := h.most, il := h.il
    sums := fun g hg k => by
      have h1 := h.sums g hg k
      have h2 := hA.eff g k
      rw [sR_nil] at h1
      omega
    good := fun r hr => (h.good r (hA.sub r hr)).mono tickTo_ge
    dg := fun r hr => by
      obtain ⟨x, hx, z, h1, h2, rfl⟩ := hA.of r hr
      exact ⟨right_of (h.good x hx) (hw x hx).2 h1 h2, wf_of (hw x hx).1 h1 h2⟩ }
theorem CkJ.flush (h : CkJ tick fl ins outs [] n) (hA : AllR fl srt) (hw : ∀ r ∈ fl, WfR r) : CkJ tick [] ins outs (told (fun _ => 4) srt) n :=
  { tk := h.tk, ni := h.ni, no := h.no, ip := h.ip, op := h.op, most := h.most, il := h.il
    sums := fun g hg k => by
      have h1 := h.sums g hg k
      rw [sR_nil] at h1
      rw [sR_told, sR_perm hA.1, sR_nil]
      omega
    good := fun r hr => absurd hr List.not_mem_nil
    dg := fun r hr => by
      obtain ⟨x, hx, rfl⟩ := List.mem_map.1 hr
      have hx' := hA.1.mem_iff.1 hx
      exact ⟨right_of (z := 4) (h.good x hx') (hw x hx').2 (by decide) (by decide), wf_of (z := 4) (hw x hx').1 (by decide) (by decide)⟩ }
theorem addS_pos {S : List Sum24} {k : Key} {t : Tot} (h : ∀ s ∈ S, 0 ≤ s.total.packets ∧ 0 ≤ s.total.bytes) (h1 : 0 ≤ t.packets) (h2 : 0 ≤ t.bytes) : ∀ s ∈ addS S k t, 0 ≤ s.total.packets ∧ 0 ≤ s.total.bytes := fun s hs => by
  rcases addS_mem hs with h3 | ⟨_, h3 | ⟨u, hu, _, h3⟩⟩
  · exact h s h3
  · rw [h3]; exact ⟨h1, h2⟩
  · have := h u hu
    rw [h3]
    exact ⟨show 0 ≤ _ + _ by omega, show 0 ≤ _ + _ by omega⟩
theorem addRs_pos (l : List Rec) : ∀ {S : List Sum24}, (∀ s ∈ S, 0 ≤ s.total.packets ∧ 0 ≤ s.total.bytes) → (∀ r ∈ l, r.Wf) → ∀ s ∈ addRs S l, 0 ≤ s.total.packets ∧ 0 ≤ s.total.bytes := by
  induction l with
  | nil => exact fun h _ => h
  | cons r l ih => exact fun h hw => ih (addS_pos h (hw r (.head _)).packets_.1 (hw r (.head _)).bytes_.1) fun x hx => hw x (.tail _ hx)
theorem CkJ.acc (h : CkJ tick fl ins outs [] n) (hn : n ≤ 80) (hA : AccR bd tick tick' p cls fl fl' out) (hw : ∀ r ∈ fl, WfR r) (hp : p.Wf) (hk : p.key.right = true) (ht : InK .u64 tick') (hcl : InK .u8 cls) (hpl : p.length ≤ 100000) :
    CkJ (tickTo tick tick') fl' (addS ins p.key ⟨1, max 0 p.length⟩) outs out (n + 1) :=
  have hT := tickTo_in h.tk ht
  have ho := hA.of (h.okay hw) hp hk hT hcl
  { tk := hT, ni := addS_nodup h.ni _ _, no := h.no, op := h.op, good := ho.1, dg := ho.2
    ip := addS_pos h.ip (by show (0 : Int) ≤ 1; decide) (by show 0 ≤ max 0 p.length; omega)
    il := by have h1 := addS_len ins p.key ⟨1, max 0 p.length⟩; have h2 := h.il; omega
    sums := fun g hg k => by
      have h1 := h.sums g hg k
      have h2 := hA.eff (h.fb hn hw) hpl hg k
      rw [sR_nil] at h1
      rw [addS_sum hg]
      omega
    most := fun k => by
      have h1 := h.most k
      rw [addS_sum lin_p, addS_sum lin_b]
      show _ + (if p.key = k then 1 else 0) ≤ _ ∧ _ + (if p.key = k then max 0 p.length else 0) ≤ _
      split <;> omega }
/-- What ended may be added. -/
theorem CkJ.room (h : CkJ tick fl ins outs done n) (hn : n ≤ 81) (hw : ∀ r ∈ fl, WfR r) (k : Key) : sS Tot.packets outs k + sR Tot.packets done k ≤ 1000000000 ∧ sS Tot.bytes outs k + sR Tot.bytes done k ≤ 1000000000 := by
  have h1 := h.sums _ lin_p k
  have h2 := h.sums _ lin_b k
  have h3 := sR_pos (fun x hx => (hw x hx).1) k
  have h4 := h.most k
  omega
theorem CkJ.end_ (h : CkJ tick fl ins outs done n) : CkJ tick fl ins (addRs outs done) [] n :=
  { tk := h.tk, ni := h.ni, no := addRs_nodup _ h.no, ip := h.ip, most := h.most, il := h.il, good := h.good
    op := addRs_pos _ h.op fun r hr => (h.dg r hr).2
    sums := fun g hg k => by
      have h1 := h.sums g hg k
      rw [addRs_sum hg, sR_nil]
      omega
    dg := fun r hr => absurd hr List.not_mem_nil }
theorem CkJ.all (h : CkJ tick fl ins outs [] n) (hA : AllR fl srt) {g : Tot → Int} (hg : Lin g) (k : Key) : sS g ins k = sS g (addRs outs srt) k := by
  have h1 := h.sums g hg k
  rw [sR_nil] at h1
  rw [addRs_sum hg, sR_perm hA.1]
  omega
theorem same_of {S S' : List Sum24} (h1 : (S.map (·.key)).Nodup) (h2 : (S'.map (·.key)).Nodup) (h : ∀ g, Lin g → ∀ k, sS g S k = sS g S' k) : ∀ a ∈ S, a.total = ⟨0, 0⟩ ∨ a ∈ S' := fun a ha => by
  have e1 : sS Tot.packets S a.key = a.total.packets := smk_one h1 ha
  have e2 : sS Tot.bytes S a.key = a.total.bytes := smk_one h1 ha
  rw [h _ lin_p] at e1
  rw [h _ lin_b] at e2
  obtain ⟨k, tp, tb⟩ := a
  by_cases hm : k ∈ S'.map (·.key)
  · obtain ⟨b, hb, hk⟩ := List.mem_map.1 hm
    have e3 : sS Tot.packets S' b.key = b.total.packets := smk_one h2 hb
    have e4 : sS Tot.bytes S' b.key = b.total.bytes := smk_one h2 hb
    rw [hk] at e3 e4
    right
    obtain ⟨k', bp, bb⟩ := b
    dsimp only at *
    subst hk
    rw [show tp = bp by omega, show tb = bb by omega]
    exact hb
  · left
    have e3 : sS Tot.packets S' k = 0 := smk_zero fun b hb e => hm (List.mem_map.2 ⟨b, hb, e⟩)
    have e4 : sS Tot.bytes S' k = 0 := smk_zero fun b hb e => hm (List.mem_map.2 ⟨b, hb, e⟩)
    dsimp only at *
    rw [show tp = 0 by omega, show tb = 0 by omega]
/-- No flow is due. -/
theorem next_of {fl : List Rec} {v : Int} (h : nextS bd fl = some v) : ∃ x ∈ fl, v = dueR bd x := by
  have : ∀ (l : List Rec) (s : Option Int), (∀ v, s = some v → ∃ x ∈ fl, v = dueR bd x) → (∀ x ∈ l, x ∈ fl) → ∀ v, l.foldl (fun s r => match s with | none => some (dueR bd r) | some a => if dueR bd r < a then some (dueR bd r) else some a) s = some v → ∃ x ∈ fl, v = dueR bd x := by
    intro l
    induction l with
    | nil => exact fun s hs _ => hs
    | cons r l ih =>
      intro s hs hl
      refine ih _ (fun v hv => ?_) fun x hx => hl x (.tail _ hx)
      cases s with
      | none => cases hv; exact ⟨r, hl r (.head _), rfl⟩
      | some a =>
        dsimp only at hv
        split at hv
        · cases hv; exact ⟨r, hl r (.head _), rfl⟩
        · cases hv; exact hs _ rfl
  exact this fl none (fun v hv => by cases hv) (fun x hx => hx) v h
theorem due_young {r : Rec} {T : Int} (h : T < dueR bd r) (hT : T ≤ 18446744073709551615) : T - r.first < bd.active ∧ T - r.last < bd.idle := by
  unfold dueR idleR sat at h
  constructor
  · have h1 : T < (if 18446744073709551615 < r.first + bd.active then 18446744073709551615 else r.first + bd.active) := by omega
    split at h1 <;> omega
  · have h1 : T < (if 18446744073709551615 < r.last + bd.idle then 18446744073709551615 else r.last + bd.idle) := by omega
    split at h1 <;> omega
end
end Go.Proofs.YtobmcpoejhhemaaGreat
