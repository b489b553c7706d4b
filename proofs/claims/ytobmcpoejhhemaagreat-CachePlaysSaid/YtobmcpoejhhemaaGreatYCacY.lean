import Derived.Test.YtobmcpoejhhemaaGreatYCacX
namespace Go.Proofs.YtobmcpoejhhemaaGreat
open Go.E

theorem CacM.wfr {bc : Nat} {tick : Int} {bd : Bnd} {fl : List Rec} {M : Mem} (hM : CacM bc tick bd fl M) : ∀ r ∈ fl, WfR r := by
  obtain ⟨_, _, _, _, _, _, _, hI, _⟩ := hM
  exact fun r hr => ⟨hI.wf r hr, hI.rt r hr⟩
theorem AccR.out_len {bc : Nat} {bd : Bnd} {tick tick' cls : Int} {p : Pkt} {fl fl' out : List Rec} {M : Mem} (h : AccR bd tick tick' p cls fl fl' out) (hM : CacM bc tick bd fl M) : out.length ≤ 4098 := by
  obtain ⟨fl1, out1, out2, r, X, hA, hc, he⟩ := h.perm
  have h1 := hA.out_len hM
  have h2 : out2.length ≤ 1 := by
    rcases hc with ⟨_, _, rfl⟩ | ⟨_, hB, _⟩
    · simp
    · exact hB.out_len
  rcases he with ⟨_, _, rfl⟩ | ⟨_, _, rfl⟩ <;> simp <;> omega
end Go.Proofs.YtobmcpoejhhemaaGreat
