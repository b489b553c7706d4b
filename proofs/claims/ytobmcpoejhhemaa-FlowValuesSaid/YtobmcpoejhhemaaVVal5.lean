import Derived.Test.YtobmcpoejhhemaaVVal4
namespace Go.Proofs.Ytobmcpoejhhemaa
open Go.E

/-- A contract in more memory. -/
theorem ct_frame {P : Program} {f : FuncId} {args : Array Value} {A B M : Mem} {R : Value → Mem → Prop} (h : Ct P f args A R) (hs : Sel M A B) (g : Mem → Mem) (hg : ∀ A', (A' ++ B).Perm (g A')) : Ct P f args M (fun v M' => ∃ A', R v A' ∧ M' = g A') := fun w hn hM => by
  have hC2 := (Chg.refl hn hM).perm hs.perm
  refine (h w hC2.nodup_left (fun p hp => hC2.at_ p (by simp [hp]))).mono ?_
  rintro e w' ⟨v, A', rfl, hR, hch⟩
  exact ⟨v, g A', rfl, ⟨A', hR, rfl⟩, (hC2.call hch).perm (hg A')⟩
def shV (p1 : Option Addr) (n1 k1 : Nat) (p2 : Option Addr) (n2 k2 : Nat) (j : Nat) : Option Addr × Nat × Nat := if j = 0 then (p1, n1, k1) else if j = 1 then (p2, n2, k2) else (none, 0, 0)
theorem ct_SpoilAt {p1 p2 p : Option Addr} {k1 k2 m k : Nat} {l1 l2 : List Int} {A1 A2 : Mem} (h1 : OwnL (eI .u8) 5 p1 k1 l1 A1) (h2 : OwnL (eI .u8) 5 p2 k2 l2 A2) (b1 : l1.length ≤ 1000000) (b2 : l2.length ≤ 1000000) (j : Nat) (hs : (p, m, k) = shV p1 l1.length k1 p2 l2.length k2 j) :
    Ct Try.prog 35 [.slice p m k].toArray (A1 ++ A2) (fun _ M' => ∃ (l1' l2' : List Int) (A1' A2' : Mem), l1'.length = l1.length ∧ l2'.length = l2.length ∧ OwnL (eI .u8) 5 p1 k1 l1' A1' ∧ OwnL (eI .u8) 5 p2 k2 l2' A2' ∧ M' = A1' ++ A2') := by
  unfold shV at hs
  by_cases e0 : j = 0
  · rw [if_pos e0] at hs
    obtain ⟨rfl, rfl, rfl⟩ : p = p1 ∧ m = l1.length ∧ k = k1 := by simpa using hs
    refine (Ct.mono (ct_frame (ct_Spoil h1 b1) (M := A1 ++ A2) Sel.app (fun A' => A' ++ A2) (fun A' => .refl _)) ?_)
    rintro v M' ⟨A', ⟨l', hl, hO⟩, rfl⟩
    exact ⟨l', l2, A', A2, hl, rfl, hO, h2, rfl⟩
  · rw [if_neg e0] at hs
    by_cases e1 : j = 1
    · rw [if_pos e1] at hs
      obtain ⟨rfl, rfl, rfl⟩ : p = p2 ∧ m = l2.length ∧ k = k2 := by simpa using hs
      refine (Ct.mono (ct_frame (ct_Spoil h2 b2) (M := A1 ++ A2) (Sel.skipA Sel.all) (fun A' => A1 ++ A') (fun A' => by rw [List.append_nil]; exact List.perm_append_comm)) ?_)
      rintro v M' ⟨A', ⟨l', hl, hO⟩, rfl⟩
      exact ⟨l1, l', A1, A', rfl, hl, h1, hO, rfl⟩
    · rw [if_neg e1] at hs
      obtain ⟨rfl, rfl, rfl⟩ : p = none ∧ m = 0 ∧ k = 0 := by simpa using hs
      refine (Ct.mono (ct_frame (ct_Spoil (OwnL.nil (E := eI .u8) (e := 5)) (Nat.zero_le _)) (M := A1 ++ A2) .nil (fun A' => A' ++ (A1 ++ A2)) (fun A' => .refl _)) ?_)
      rintro v M' ⟨A', ⟨l', hl, hO⟩, rfl⟩
      rcases hO.cases with ⟨_, _, _, rfl⟩ | ⟨b, cur, hb, _⟩
      · exact ⟨l1, l2, A1, A2, rfl, rfl, h1, h2, rfl⟩
      · cases hb
def refW (r : Rec) : List RV := if r.right = true then refV r else []
def errV (r : Rec) : Int := if r.right = true then 0 else 2
theorem ct_refValuesAny (r : Rec) (hw : r.Wf) : Ct Try.prog 29 [.agg r.c].toArray [] (fun v A => ∃ q cq, v = .tuple #[.slice q (refW r).length cq, .int .i64 (errV r)] ∧ OwnL eRV 165 q cq (refW r) A) := by
  unfold refW errV
  cases h : r.right with
  | true => exact ct_refValues r hw h
  | false =>
    refine (pu_refValuesBad r h).mono ?_
    rintro v A ⟨rfl, rfl⟩
    exact ⟨none, 0, rfl, OwnL.nil⟩
def SameV (r : Rec) (L : List FV) (p1 : Option Addr) (k1 : Nat) (l1 : List Int) (p2 : Option Addr) (k2 : Nat) (l2 : List Int) : Prop :=
  L.length = (refW r).length ∧ l1.length ≤ 16 ∧ l2.length ≤ 16 ∧ (∀ j a, L[j]? = some a → (a.p, a.m, a.k) = shV p1 l1.length k1 p2 l2.length k2 j) ∧
    ∀ (i : Nat) (a : FV) (s : RV), L[i]? = some a → (refW r)[i]? = some s → s.n = a.n ∧ ((s.s = l1 ∧ a.p = p1 ∧ a.m = l1.length) ∨ (s.s = l2 ∧ a.p = p2 ∧ a.m = l2.length) ∨ (s.s = [] ∧ a.m = 0))
theorem sameV_right (r : Rec) (h : r.right = true) (p1 : Option Addr) (k1 : Nat) (p2 : Option Addr) (k2 : Nat) : SameV r (valV r p1 k1 p2 k2) p1 k1 (adrBytes r.key.src) p2 k2 (adrBytes r.key.dst) := by
  unfold SameV refW
  rw [if_pos h]
  refine ⟨rfl, (adr_le _).2, (adr_le _).2, fun j a hj => ?_, fun i a s hi hs => ?_⟩
  · match j with
    | 0 => cases hj; rfl
    | 1 => cases hj; rfl
    | j + 2 =>
      have hj' : ((numsV r).map (fun n => (⟨n, none, 0, 0⟩ : FV)))[j]? = some a := hj
      rw [List.getElem?_map] at hj'
      obtain ⟨x, _, rfl⟩ := Option.map_eq_some_iff.1 hj'
      rfl
  · match i with
    | 0 => cases hi; cases hs; exact ⟨rfl, .inl ⟨rfl, rfl, rfl⟩⟩
    | 1 => cases hi; cases hs; exact ⟨rfl, .inr (.inl ⟨rfl, rfl, rfl⟩)⟩
    | i + 2 =>
      have hi' : ((numsV r).map (fun n => (⟨n, none, 0, 0⟩ : FV)))[i]? = some a := hi
      have hs' : ((numsV r).map (fun n => (⟨n, []⟩ : RV)))[i]? = some s := hs
      rw [List.getElem?_map] at hi' hs'
      obtain ⟨x, hx, rfl⟩ := Option.map_eq_some_iff.1 hi'
      obtain ⟨y, hy, rfl⟩ := Option.map_eq_some_iff.1 hs'
      rw [hx] at hy
      cases hy
      exact ⟨rfl, .inr (.inr ⟨rfl, rfl⟩)⟩
theorem ct_ValuesAny (r : Rec) (hw : r.Wf) : Ct Try.prog 30 [.agg r.c].toArray [] (fun v A => ∃ q cq L B p1 k1 l1 A1 p2 k2 l2 A2, v = .tuple #[.slice q L.length cq, .int .i64 (errV r)] ∧ OwnL eFV 76 q cq L B ∧ OwnL (eI .u8) 5 p1 k1 l1 A1 ∧ OwnL (eI .u8) 5 p2 k2 l2 A2 ∧ SameV r L p1 k1 l1 p2 k2 l2 ∧ A = B ++ (A1 ++ A2)) := by
  unfold errV
  cases h : r.right with
  | true =>
    refine (ct_Values r hw h).mono ?_
    rintro v A ⟨q, cq, B, p1, k1, A1, p2, k2, A2, hv, hO, h1, h2, hA⟩
    exact ⟨q, cq, _, B, p1, k1, _, A1, p2, k2, _, A2, hv, hO, h1, h2, sameV_right r h p1 k1 p2 k2, hA⟩
  | false =>
    refine (pu_ValuesBad r h).mono ?_
    rintro v A ⟨rfl, rfl⟩
    refine ⟨none, 0, [], [], none, 0, [], [], none, 0, [], [], rfl, OwnL.nil, OwnL.nil, OwnL.nil, ?_, rfl⟩
    unfold SameV refW
    rw [h]
    exact ⟨rfl, Nat.zero_le _, Nat.zero_le _, (fun j a hj => by cases hj), fun i a s hi => by cases hi⟩
end Go.Proofs.Ytobmcpoejhhemaa
