import Derived.Test.YtobmcpoejhhemaaGreatYCacV
namespace Go.Proofs.YtobmcpoejhhemaaGreat
open Go.E

theorem add_ok {S : List Sum24} {k : Key} {t : Tot} (hp : ∀ s ∈ S, 0 ≤ s.total.packets ∧ 0 ≤ s.total.bytes) (h1 : 0 ≤ t.packets) (h2 : 0 ≤ t.bytes) (h3 : sS Tot.packets S k + t.packets ≤ 1000000000) (h4 : sS Tot.bytes S k + t.bytes ≤ 1000000000) : ∀ s ∈ S, s.key = k → InK .u64 (s.total.packets + t.packets) ∧ InK .u64 (s.total.bytes + t.bytes) := fun s hs hk => by
  have e1 : s.total.packets ≤ sS Tot.packets S k := smk_le (fun x hx => (hp x hx).1) hs hk
  have e2 : s.total.bytes ≤ sS Tot.bytes S k := smk_le (fun x hx => (hp x hx).2) hs hk
  have e3 := hp s hs
  exact ⟨⟨show (0 : Int) ≤ _ by omega, show _ ≤ (18446744073709551615 : Int) by omega⟩, ⟨show (0 : Int) ≤ _ by omega, show _ ≤ (18446744073709551615 : Int) by omega⟩⟩
def Room (S : List Sum24) (l : List Rec) : Prop := ∀ k, sS Tot.packets S k + sR Tot.packets l k ≤ 1000000000 ∧ sS Tot.bytes S k + sR Tot.bytes l k ≤ 1000000000
theorem Room.at_ {S : List Sum24} {l : List Rec} (h : Room S l) (hp : ∀ s ∈ S, 0 ≤ s.total.packets ∧ 0 ≤ s.total.bytes) (hw : ∀ r ∈ l, r.Wf) {i : Nat} {x : Rec} (hx : l[i]? = some x) :
    ∀ s ∈ addRs S (l.take i), s.key = x.key → InK .u64 (s.total.packets + x.tot.packets) ∧ InK .u64 (s.total.bytes + x.tot.bytes) := by
  have hxw := hw x (List.mem_of_getElem? hx)
  have hil := (List.getElem?_eq_some_iff.1 hx).1
  have e : l = l.take i ++ x :: l.drop (i + 1) := by
    obtain ⟨_, rfl⟩ := List.getElem?_eq_some_iff.1 hx
    simp
  have h1 := h x.key
  have e1 : ∀ g, sR g l x.key = sR g (l.take i) x.key + (g x.tot + sR g (l.drop (i + 1)) x.key) := fun g => by
    conv => lhs; rw [e]
    rw [sR_app, sR_cons, if_pos rfl]
  rw [e1, e1] at h1
  have h2 := sR_pos (l := l.drop (i + 1)) (fun r hr => hw r (List.mem_of_mem_drop hr)) x.key
  refine add_ok (addRs_pos _ hp fun r hr => hw r (List.mem_of_mem_take hr)) hxw.packets_.1 hxw.bytes_.1 ?_ ?_
  · rw [addRs_sum lin_p]; omega
  · rw [addRs_sum lin_b]; omega
end Go.Proofs.YtobmcpoejhhemaaGreat
