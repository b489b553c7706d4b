import Derived.Test.YtobmcpoejhhemaaUMpE
namespace Go.Proofs.Ytobmcpoejhhemaa
open Go.E

theorem ct_MallI {bm : Nat} {S : MS} {M : Mem} {g : FuncId} {x y : Int} (q : EntR → Bool) (hg : Ent Try.prog g) (hM : ModM bm S M) (h0 : 0 ≤ x) (hab : x ≤ y) (hb : y ≤ (S.line.length : Int)) (hq : ∀ e ∈ S.es, Pu Try.prog g [.agg e.x.c] (.bool (q e))) :
    Ct Try.prog 164 [.pointer (some ⟨bm, 0, none⟩), .int .u64 x, .int .u64 y, .func (.func g) #[] #[]].toArray M (fun v M' => v = .bool (allQ S q x.toNat y.toNat) ∧ M' = M) := by
  obtain ⟨a, rfl⟩ : ∃ a : Nat, x = a := ⟨x.toNat, by omega⟩
  obtain ⟨b, rfl⟩ : ∃ b : Nat, y = b := ⟨y.toNat, by omega⟩
  rw [Int.toNat_natCast, Int.toNat_natCast]
  exact ct_Mall q hg hM (by omega) (by omega) hq
/-- Entries, some of which are there no more. -/
def UpdT (es es' : List EntR) : Prop := Flg es es' ∧ ∀ (j : Nat) (e e' : EntR), es[j]? = some e → es'[j]? = some e' → e'.credited = e.credited ∧ (e'.there = true → e'.synced = false → e.there = true ∧ e.synced = false)
theorem UpdT.refl (es : List EntR) : UpdT es es := ⟨Flg.refl es, fun j e e' h1 h2 => by rw [h1] at h2; cases h2; exact ⟨rfl, fun a b => ⟨a, b⟩⟩⟩
theorem UpdT.set {es es' : List EntR} (h : UpdT es es') {i : Nat} {x : EntR} (hi : es'[i]? = some x) (th sy : Bool) (hth : th = true → sy = false → x.there = true ∧ x.synced = false) : UpdT es (es'.set i { x with there := th, synced := sy }) := by
  refine ⟨h.1.set hi th sy x.credited, fun j e e' h1 h2 => ?_⟩
  by_cases hj : j = i
  · subst hj
    rw [List.getElem?_set_self (List.getElem?_eq_some_iff.1 hi).1] at h2
    cases h2
    have h3 := h.2 j e x h1 hi
    exact ⟨h3.1, fun a b => h3.2 (hth a b).1 (hth a b).2⟩
  · rw [List.getElem?_set_ne (Ne.symm hj)] at h2
    exact h.2 j e e' h1 h2
end Go.Proofs.Ytobmcpoejhhemaa
