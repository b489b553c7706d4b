import Derived.Test.YtobmcpoejhhemaaTCacU
namespace Go.Proofs.Ytobmcpoejhhemaa
open Go.E

structure CkJ (tick : Int) (fl : List Rec) (ins outs : List Sum24) (done : List Rec) (n : Nat) : Prop where
  tk : InK .u64 tick
  ni : (ins.map (·.key)).Nodup
  no : (outs.map (·.key)).Nodup
  sums : ∀ g, Lin g → ∀ k, sS g ins k = sS g outs k + sR g fl k + sR g done k
  ip : ∀ s ∈ ins, 0 ≤ s.total.packets ∧ 0 ≤ s.total.bytes
  op : ∀ s ∈ outs, 0 ≤ s.total.packets ∧ 0 ≤ s.total.bytes
  most : ∀ k, sS Tot.packets ins k ≤ n ∧ sS Tot.bytes ins k ≤ n * 100000
  good : ∀ r ∈ fl, Good tick r
  dg : ∀ r ∈ done, r.right = true ∧ r.Wf
  il : ins.length ≤ n
theorem CkJ.start : CkJ 0 [] [] [] [] 0 :=
  ⟨⟨by decide, by decide⟩, .nil, .nil, fun _ _ _ => rfl, fun _ h => absurd h List.not_mem_nil, fun _ h => absurd h List.not_mem_nil, fun _ => ⟨Int.le_refl 0, Int.le_refl 0⟩, fun _ h => absurd h List.not_mem_nil, fun _ h => absurd h List.not_mem_nil, Nat.le_refl 0⟩
def WfR (r : Rec) : Prop := r.Wf ∧ r.key.right = true
theorem sR_pos {l : List Rec} (h : ∀ r ∈ l, r.Wf) (k : Key) : 0 ≤ sR Tot.packets l k ∧ 0 ≤ sR Tot.bytes l k :=
  ⟨smk_pos fun r hr => (h r hr).packets_.1, smk_pos fun r hr => (h r hr).bytes_.1⟩
section
variable {bd : Bnd} {tick tick' cls : Int} {fl fl1 fl' out done srt : List Rec} {p : Pkt} {ins outs : List Sum24} {n : Nat}
theorem CkJ.mono (h : CkJ tick fl ins outs done n) : CkJ tick fl ins outs done (n + 1) :=
  { h with most := fun k => ⟨by have := (h.most k).1; omega, by have := (h.most k).2; omega⟩, il := by have := h.il; omega }
theorem addS_pos {S : List Sum24} {k : Key} {t : Tot} (h : ∀ s ∈ S, 0 ≤ s.total.packets ∧ 0 ≤ s.total.bytes) (h1 : 0 ≤ t.packets) (h2 : 0 ≤ t.bytes) : ∀ s ∈ addS S k t, 0 ≤ s.total.packets ∧ 0 ≤ s.total.bytes := fun s hs => by
  rcases addS_mem hs with h3 | ⟨_, h3 | ⟨u, hu, _, h3⟩⟩
  · exact h s h3
  · rw [h3]; exact ⟨h1, h2⟩
  · have := h u hu
    rw [h3]
    exact ⟨show 0 ≤ _ + _ by omega, show 0 ≤ _ + _ by omega⟩
theorem addRs_pos (l : List Rec) : ∀ {S : List Sum24}, (∀ s ∈ S, 0 ≤ s.total.packets ∧ 0 ≤ s.total.bytes) → (∀ r ∈ l, r.Wf) → ∀ s ∈ addRs S l, 0 ≤ s.total.packets ∧ 0 ≤ s.total.bytes := by
  induction l with
  | nil => exact fun h _ => h
  | cons r l ih => exact fun h hw => ih (addS_pos h (hw r (.head _)).packets_.1 (hw r (.head _)).bytes_.1) fun x hx => hw x (.tail _ hx)
theorem CkJ.all (h : CkJ tick fl ins outs [] n) (hA : AllR fl srt) {g : Tot → Int} (hg : Lin g) (k : Key) : sS g ins k = sS g (addRs outs srt) k := by
  have h1 := h.sums g hg k
  rw [sR_nil] at h1
  rw [addRs_sum hg, sR_perm hA.1]
  omega
end
end Go.Proofs.Ytobmcpoejhhemaa
