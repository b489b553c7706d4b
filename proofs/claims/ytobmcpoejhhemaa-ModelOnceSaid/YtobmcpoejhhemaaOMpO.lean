import Derived.Test.YtobmcpoejhhemaaOMpN
namespace Go.Proofs.Ytobmcpoejhhemaa
open Go.E

theorem ct_StepE {bm k : Nat} {M : Mem} {nt : NoteR} {f : FuncId} {b : Bool} {Q : Mem → Prop} (hk : nt.kind = (k : Int)) (h1 : 1 ≤ k) (h8 : k < 8) (hfn : stepT[k]? = some (.func (.func f) #[] #[])) (hg : Ent Try.prog f)
    (hc : Ct Try.prog f [.pointer (some ⟨bm, 0, none⟩), .agg nt.x.c].toArray M (fun v M' => v = .bool b ∧ Q M')) :
    Ct Try.prog 73 [.pointer (some ⟨bm, 0, none⟩), .agg nt.x.c].toArray M (fun v M' => v = errV b ∧ Q M') :=
  (ct_MStepK hk h1 h8 hfn hg (Q := fun ok M' => ok = b ∧ Q M') (hc.mono fun v M' h => ⟨b, h.1, rfl, h.2⟩)).mono fun v M' h => by
    obtain ⟨ok, hv, rfl, q⟩ := h
    exact ⟨hv, q⟩
theorem zkey_wf : (default : Key).Wf := by repeat' (first | exact ⟨by decide, by decide⟩ | constructor)
theorem keyM_wf : (keyM 1).Wf := by repeat' (first | exact ⟨by decide, by decide⟩ | constructor)
theorem tot1_wf : (⟨1, 100⟩ : Tot).Wf := by repeat' (first | exact ⟨by decide, by decide⟩ | constructor)
theorem recM_wf : (recM (keyM 1) 1 100).Wf := by repeat' (first | exact keyM_wf | exact ⟨by decide, by decide⟩ | constructor)
def nt1 : NoteR := ⟨7, default, ⟨0, 0⟩, none, 0, [], 1, 0, 0, 0⟩
def nt2 : NoteR := ⟨1, keyM 1, ⟨1, 100⟩, none, 0, [], 0, 0, 0, 0⟩
def nt3 (b : Nat) : NoteR := ⟨2, default, ⟨0, 0⟩, some ⟨b, 0, none⟩, 1, [recM (keyM 1) 1 100], 1, 0, 0, 0⟩
def nt4 : NoteR := ⟨4, default, ⟨0, 0⟩, none, 0, [], 0, 0, 0, 0⟩
def nt5 : NoteR := ⟨7, default, ⟨0, 0⟩, none, 0, [], 2, 0, 0, 0⟩
def nt6 : NoteR := ⟨6, default, ⟨0, 0⟩, none, 0, [], 1, 0, 0, 0⟩
theorem wf_of {t : NoteR} (h1 : InK .i64 t.kind) (h2 : t.key.Wf) (h3 : t.total.Wf) (h4 : t.recs = []) (h5 : InK .u32 t.epoch) (h6 : InK .u64 t.n) (h7 : InK .u64 t.first) (h8 : InK .u64 t.next) : t.Wf :=
  ⟨h1, h2, h3, fun r h => (by rw [h4] at h; cases h), h5, h6, h7, h8, by rw [h4]; exact Nat.zero_le _⟩
theorem nt1_wf : nt1.Wf := wf_of ⟨by decide, by decide⟩ zkey_wf tot0_wf rfl ⟨by decide, by decide⟩ ⟨by decide, by decide⟩ ⟨by decide, by decide⟩ ⟨by decide, by decide⟩
theorem nt2_wf : nt2.Wf := wf_of ⟨by decide, by decide⟩ keyM_wf tot1_wf rfl ⟨by decide, by decide⟩ ⟨by decide, by decide⟩ ⟨by decide, by decide⟩ ⟨by decide, by decide⟩
theorem nt5_wf : nt5.Wf := wf_of ⟨by decide, by decide⟩ zkey_wf tot0_wf rfl ⟨by decide, by decide⟩ ⟨by decide, by decide⟩ ⟨by decide, by decide⟩ ⟨by decide, by decide⟩
theorem nt3_wf (b : Nat) : (nt3 b).Wf := ⟨⟨by show (-9223372036854775808 : Int) ≤ 2; decide, by show (2 : Int) ≤ 9223372036854775807; decide⟩, zkey_wf, tot0_wf, fun r h => by rw [List.mem_singleton.1 h]; exact recM_wf, ⟨by show (0 : Int) ≤ 1; decide, by show (1 : Int) ≤ 4294967295; decide⟩, ⟨by show (0 : Int) ≤ 0; decide, by show (0 : Int) ≤ 18446744073709551615; decide⟩, ⟨by show (0 : Int) ≤ 0; decide, by show (0 : Int) ≤ 18446744073709551615; decide⟩, ⟨by show (0 : Int) ≤ 0; decide, by show (0 : Int) ≤ 18446744073709551615; decide⟩, by show 1 ≤ 1000; decide⟩
def WS1 : MS := ⟨[], 0, [], 0, [], 0, [], [], 0, 1⟩
def WS2 : MS := ⟨[⟨keyM 1, ⟨1, 100⟩, 0⟩], 1, [⟨keyM 1, ⟨1, 100⟩, 0⟩], 1, [], 0, [], [], 0, 1⟩
def ent3 (p : Option Addr) (c : Nat) : EntR := ⟨1, 0, p, c, [recM (keyM 1) 1 100], true, false, false⟩
def ent4 (p : Option Addr) (c : Nat) : EntR := ⟨1, 0, p, c, [recM (keyM 1) 1 100], true, true, false⟩
def ent5 (p : Option Addr) (c : Nat) : EntR := ⟨1, 0, p, c, [recM (keyM 1) 1 100], true, true, true⟩
def WSx (e : EntR) : MS := ⟨[⟨keyM 1, ⟨1, 100⟩, 0⟩], 1, [⟨keyM 1, ⟨0, 0⟩, 0⟩], 1, [], 0, [e], [0], 0, 1⟩
theorem w1 {bm : Nat} {M : Mem} (hM : ModM bm MS0 M) : Ct Try.prog 73 [.pointer (some ⟨bm, 0, none⟩), .agg nt1.x.c].toArray M (fun v M' => v = .int .i64 0 ∧ ModM bm WS1 M') :=
  (ct_StepE (k := 7) (nt := nt1) rfl (by decide) (by decide) rfl en131 (ct_Mcrash hM nt1_wf)).mono fun v M' h => by
    have hok : crashOk MS0 nt1 = true := by kernel_rfl
    obtain ⟨h1, h2⟩ := h
    rw [hok] at h1
    rcases h2 with ⟨h2, _⟩ | ⟨_, es', lo', lc', hu, _, hl, hm⟩
    · rw [hok] at h2; cases h2
    · obtain ⟨h3, h4⟩ := hl rfl
      have h5 : es' = [] := List.length_eq_zero_iff.1 hu.1.1
      subst h3 h4 h5
      exact ⟨h1, hm⟩
theorem w2 {bm : Nat} {M : Mem} (hM : ModM bm WS1 M) : Ct Try.prog 73 [.pointer (some ⟨bm, 0, none⟩), .agg nt2.x.c].toArray M (fun v M' => v = .int .i64 0 ∧ ModM bm WS2 M') :=
  (ct_StepE (k := 1) (nt := nt2) rfl (by decide) (by decide) rfl en125 (ct_Mforward hM nt2_wf)).mono fun v M' h => by
    have hok : nt2.key.right = true := by kernel_rfl
    have hs : WS1.fwd nt2.key nt2.total = WS2 := by kernel_rfl
    obtain ⟨h1, h2⟩ := h
    rw [hok] at h1
    rcases h2 with ⟨_, hm⟩ | ⟨h2, _⟩
    · rw [hs] at hm; exact ⟨h1, hm⟩
    · rw [hok] at h2; cases h2
theorem w3 {bm b : Nat} {M R : Mem} (hM : ModM bm WS2 M) (hl : Lst eRec (some ⟨b, 0, none⟩) [recM (keyM 1) 1 100] R) : Ct Try.prog 73 [.pointer (some ⟨bm, 0, none⟩), .agg (nt3 b).x.c].toArray (M ++ R) (fun v M' => v = .int .i64 0 ∧ ∃ p c N, M' = N ++ R ∧ ModM bm (WSx (ent3 p c)) N) :=
  (ct_StepE (k := 2) (nt := nt3 b) rfl (by decide) (by decide) rfl en126 (ct_Mpack (R := R) hM hl (nt3_wf b) (by decide))).mono fun v M' h => by
    have hok : packOk WS2 (nt3 b) = true := by kernel_rfl
    have ht : takeL WS2.ca WS2.cc (nt3 b).recs = some ([⟨keyM 1, ⟨0, 0⟩, 0⟩], 1) := by kernel_rfl
    obtain ⟨h1, N, h2, h3⟩ := h
    rw [hok] at h1
    rcases h3 with ⟨_, l, c, p, cap, h4, hm⟩ | ⟨h3, _⟩
    · rw [ht] at h4
      cases h4
      exact ⟨h1, p, cap, N, h2, hm⟩
    · rw [hok] at h3; cases h3
theorem w4 {bm : Nat} {p : Option Addr} {c : Nat} {M : Mem} (hM : ModM bm (WSx (ent3 p c)) M) : Ct Try.prog 73 [.pointer (some ⟨bm, 0, none⟩), .agg nt4.x.c].toArray M (fun v M' => v = .int .i64 0 ∧ ModM bm (WSx (ent4 p c)) M') :=
  (ct_StepE (k := 4) (nt := nt4) rfl (by decide) (by decide) rfl en128 (ct_Msync hM)).mono fun v M' h => h
theorem w5 {bm : Nat} {p : Option Addr} {c : Nat} {M : Mem} {es' : List EntR} (hv : Moved (WSx (ent4 p c)).es es') (hM : ModM bm { WSx (ent4 p c) with es := es' } M) : Ct Try.prog 73 [.pointer (some ⟨bm, 0, none⟩), .agg nt5.x.c].toArray M (fun v M' => v = .int .i64 2 ∧ M' = M) := by
  obtain ⟨e, rfl⟩ : ∃ e, es' = [e] := List.length_eq_one_iff.1 hv.1
  have he := hv.2 0 _ _ rfl rfl
  have hok : crashOk { WSx (ent4 p c) with es := [e] } nt5 = false := by rw [he]; kernel_rfl
  exact (ct_StepE (k := 7) (nt := nt5) rfl (by decide) (by decide) rfl en131 (ct_Mcrash hM nt5_wf)).mono fun v M' h => by
    obtain ⟨h1, h2⟩ := h
    rw [hok] at h1
    rcases h2 with ⟨_, h2⟩ | ⟨h2, _⟩
    · exact ⟨h1, h2⟩
    · rw [hok] at h2; cases h2
theorem w6 {bm : Nat} {p : Option Addr} {c : Nat} {M : Mem} (hM : ModM bm (WSx (ent4 p c)) M) : Ct Try.prog 73 [.pointer (some ⟨bm, 0, none⟩), .agg nt6.x.c].toArray M (fun v M' => v = .int .i64 0 ∧ ModM bm (WSx (ent5 p c)) M') :=
  (ct_StepE (k := 6) (nt := nt6) (b := true) (Q := fun M' => ModM bm (WSx (ent5 p c)) M') rfl (by decide) (by decide) rfl en130 ((ct_Mcredit hM).mono fun v M' h => by
    rcases h with ⟨i, e, hi, hc, hv, hm⟩ | ⟨h, _⟩
    · cases i with
      | zero => cases hi; exact ⟨hv, hm⟩
      | succ i => cases hi
    · have := h (ent4 p c) (List.mem_singleton.2 rfl)
      exact absurd this (by rw [show credM nt6 (ent4 p c) = true by kernel_rfl]; decide))).mono fun v M' h => h
def pt (v d c : Tot) : Parts := ⟨⟨1, 100⟩, ⟨0, 0⟩, v, d, ⟨0, 0⟩, c⟩
theorem of2 : ofAll (keyM 1) (parts0 WS2 (keyM 1)) WS2.es = ⟨⟨1, 100⟩, ⟨1, 100⟩, ⟨0, 0⟩, ⟨0, 0⟩, ⟨0, 0⟩, ⟨0, 0⟩⟩ := by kernel_rfl
theorem of3 (p : Option Addr) (c : Nat) : ofAll (keyM 1) (parts0 (WSx (ent3 p c)) (keyM 1)) (WSx (ent3 p c)).es = pt ⟨1, 100⟩ ⟨0, 0⟩ ⟨0, 0⟩ := by kernel_rfl
theorem of4 (p : Option Addr) (c : Nat) : ofAll (keyM 1) (parts0 (WSx (ent4 p c)) (keyM 1)) (WSx (ent4 p c)).es = pt ⟨0, 0⟩ ⟨1, 100⟩ ⟨0, 0⟩ := by kernel_rfl
theorem of5 (p : Option Addr) (c : Nat) : ofAll (keyM 1) (parts0 (WSx (ent5 p c)) (keyM 1)) (WSx (ent5 p c)).es = pt ⟨0, 0⟩ ⟨0, 0⟩ ⟨1, 100⟩ := by kernel_rfl
end Go.Proofs.Ytobmcpoejhhemaa
