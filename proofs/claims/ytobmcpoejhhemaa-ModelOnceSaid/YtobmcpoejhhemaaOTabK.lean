import Derived.Test.YtobmcpoejhhemaaORefD
namespace Go.Proofs.Ytobmcpoejhhemaa
open Go.E

theorem E_flat_own {α : Type} {E : Enc α} {e : TypeId} {b cap : Nat} {cur : Array Value} {l l' : List α} (hlen : l'.length = l.length) (h1 : l.length ≤ cap) (h2 : cap ≤ maxLen) (h3 : cur.size = cap * E.n) (h : Holds E cur 0 l') : OwnL E e (some ⟨b, 0, none⟩) cap l' [(b, .cells cur e (0, 0))] :=
  ⟨E.flat_length _, .inr ⟨b, cap, cur, rfl, rfl, by omega, h2, h3, by unfold Holds at h; rwa [List.drop_zero] at h⟩⟩
theorem pu_SortO {p : Option Addr} {cap : Nat} {l : List Key} {A : Mem} (h : OwnL eKey 27 p cap l A) (hw : ∀ k ∈ l, k.Wf) (hm : l.length ≤ 1000000) :
    Ct Try.prog 120 [.slice p l.length cap, .func (.func 121) #[] #[]].toArray A (fun v M' => v = .tuple #[] ∧ ∃ l', l'.Perm l ∧ l'.Pairwise (fun x y => ¬ ltK y x) ∧ OwnL eKey 27 p cap l' M') := by
  rcases h.cases with ⟨rfl, rfl, rfl, rfl⟩ | ⟨b, cur, rfl, rfl, h1, h2, h3, H⟩
  · exact (pu_Sort0 _ : Ct _ _ _ _ _).mono fun v M' ⟨hv, hM⟩ => ⟨hv, [], List.Perm.refl _, List.Pairwise.nil, by subst hM; exact OwnL.nil⟩
  · refine (ct_SortKeys hw H hm).mono ?_
    rintro v M' ⟨hv, l', cur', hp, hs, hh, hz, rfl⟩
    have hlen := hp.length_eq
    refine ⟨hv, l', hp, hs, E_flat_own hlen h1 h2 (by rw [hz, h3]) hh⟩
end Go.Proofs.Ytobmcpoejhhemaa
