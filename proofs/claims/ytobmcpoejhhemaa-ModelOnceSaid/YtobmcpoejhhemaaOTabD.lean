import Derived.Test.YtobmcpoejhhemaaOTab0
namespace Go.Proofs.Ytobmcpoejhhemaa
open Go.E

def AllWf (L : List Slot) : Prop := ∀ s ∈ L, s.key.Wf
theorem z8 : InK .u8 0 := ⟨by decide, by decide⟩
theorem z16 : InK .u16 0 := ⟨by decide, by decide⟩
theorem zeroS_wf : zeroS.key.Wf := ⟨⟨⟨z8, z8, z8, z8, z8, z8, z8, z8, z8, z8, z8, z8, z8, z8, z8, z8⟩⟩, ⟨⟨z8, z8, z8, z8, z8, z8, z8, z8, z8, z8, z8, z8, z8, z8, z8, z8⟩⟩, z8, z16, z16⟩
theorem AllWf.set {L : List Slot} (h : AllWf L) {s : Slot} (hs : s.key.Wf) (i : Nat) : AllWf (L.set i s) := fun x hx => by
  rcases List.mem_or_eq_of_mem_set hx with h1 | h1
  · exact h x h1
  · subst h1; exact hs

end Go.Proofs.Ytobmcpoejhhemaa
