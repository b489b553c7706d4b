import Derived.Test.YtobmcpoejhhemaaOMpO
namespace Go.Proofs.Ytobmcpoejhhemaa
open Go.E

def cntC (es : List EntR) : Nat := es.countP fun e => e.credited
def OInv (S : MS) (cnt : Nat) : Prop := cntC S.es = cnt ∧ ∀ e ∈ S.es, e.there = true → e.synced = false → e.epoch = S.boot
theorem cntC_flg {es es' : List EntR} (hl : es'.length = es.length) (h : ∀ (j : Nat) (e e' : EntR), es[j]? = some e → es'[j]? = some e' → e'.credited = e.credited) : cntC es' = cntC es := by
  have e : es'.map (fun e => e.credited) = es.map (fun e => e.credited) := by
    apply List.ext_getElem?
    intro j
    rw [List.getElem?_map, List.getElem?_map]
    cases h1 : es[j]? with
    | none => rw [List.getElem?_eq_none (by rw [hl]; exact List.getElem?_eq_none_iff.1 h1)]
    | some a =>
      have hj := (List.getElem?_eq_some_iff.1 h1).1
      obtain ⟨b, h2⟩ : ∃ b, es'[j]? = some b := ⟨_, List.getElem?_eq_getElem (by omega)⟩
      rw [h2, Option.map_some, Option.map_some, h j a b h1 h2]
  unfold cntC
  have h1 : es'.countP (fun e => e.credited) = (es'.map fun e => e.credited).countP id := by rw [List.countP_map]; rfl
  have h2 : es.countP (fun e => e.credited) = (es.map fun e => e.credited).countP id := by rw [List.countP_map]; rfl
  rw [h1, h2, e]
theorem putM_le (l : List MEnt) (c : Nat) (k : Key) (t : Tot) : (putM l c k t).length ≤ l.length + 1 := by
  induction l with
  | nil => exact Nat.le_refl _
  | cons x l ih =>
    unfold putM
    split
    · simp
    · simp only [List.length_cons]; omega
/-- What every step keeps. -/
structure StR (S S' : MS) (er kd : Int) : Prop where
  es_ : S'.es.length ≤ S.es.length + 1
  fw_ : S'.fw.length ≤ S.fw.length + 1
  inv_ : ∀ cnt, OInv S cnt → OInv S' (cnt + if er = 0 ∧ kd = 6 then 1 else 0)
theorem StR.same {S S' : MS} {er kd : Int} (h1 : S'.es = S.es) (h2 : S'.fw.length ≤ S.fw.length + 1) (h3 : S'.boot = S.boot) (h : ¬ (er = 0 ∧ kd = 6)) : StR S S' er kd := by
  refine ⟨by rw [h1]; omega, h2, fun cnt hi => ?_⟩
  rw [if_neg h, Nat.add_zero]
  unfold OInv
  rw [h1, h3]
  exact hi
theorem Moved.cnt {es es' : List EntR} (h : Moved es es') : cntC es' = cntC es := cntC_flg h.1 fun j e e' h1 h2 => by rw [h.2 j e e' h1 h2]
theorem errV_ne {ok : Bool} : ∃ er : Int, errV ok = .int .i64 er ∧ (er = 0 ↔ ok = true) := by
  cases ok
  · exact ⟨2, rfl, by decide⟩
  · exact ⟨0, rfl, by decide⟩
theorem ct_StepAll {bm : Nat} {S : MS} {M R : Mem} {nt : NoteR} (hM : ModM bm S M) (hl : Lst eRec nt.p nt.recs R) (hw : nt.Wf) (hn : S.es.length < 1000) (hnd : R = R) :
    Ct Try.prog 73 [.pointer (some ⟨bm, 0, none⟩), .agg nt.x.c].toArray (M ++ R) (fun v M' => ∃ er S' N, v = .int .i64 er ∧ M' = N ++ R ∧ ModM bm S' N ∧ StR S S' er nt.kind) := by
  have hfr : ∀ {f : FuncId} {Q : Bool → Mem → Prop}, Ct Try.prog f [.pointer (some ⟨bm, 0, none⟩), .agg nt.x.c].toArray M (fun v M' => ∃ ok, v = .bool ok ∧ Q ok M') → Ct Try.prog f [.pointer (some ⟨bm, 0, none⟩), .agg nt.x.c].toArray (M ++ R) (fun v M' => ∃ ok, v = .bool ok ∧ ∃ N, M' = N ++ R ∧ Q ok N) := fun {f Q} h w hN hH => by
    have hc := Chg.refl hN hH
    refine (h w hc.nodup_left fun p hp => hc.at_ p (List.mem_append_left _ hp)).mono ?_
    rintro e w' ⟨v, A', he, ⟨ok, hv, hq⟩, hk⟩
    exact ⟨v, A' ++ R, he, ⟨ok, hv, A', rfl, hq⟩, hc.call hk⟩
  by_cases hk : nt.kind < 1 ∨ 8 ≤ nt.kind
  · refine (ct_MStepBad (M := M ++ R) hk).mono ?_
    rintro v M' ⟨rfl, rfl⟩
    exact ⟨2, S, M, rfl, rfl, hM, .same rfl (by omega) rfl (fun h => by omega)⟩
  obtain ⟨k, hkk, h1, h8⟩ : ∃ k : Nat, nt.kind = k ∧ 1 ≤ k ∧ k < 8 := ⟨nt.kind.toNat, by omega, by omega, by omega⟩
  have fin : ∀ {f : FuncId}, stepT[k]? = some (.func (.func f) #[] #[]) → Ent Try.prog f → Ct Try.prog f [.pointer (some ⟨bm, 0, none⟩), .agg nt.x.c].toArray (M ++ R) (fun v M' => ∃ ok, v = .bool ok ∧ ∃ N, M' = N ++ R ∧ ∃ S', ModM bm S' N ∧ ∀ er : Int, (er = 0 ↔ ok = true) → StR S S' er nt.kind) → Ct Try.prog 73 [.pointer (some ⟨bm, 0, none⟩), .agg nt.x.c].toArray (M ++ R) (fun v M' => ∃ er S' N, v = .int .i64 er ∧ M' = N ++ R ∧ ModM bm S' N ∧ StR S S' er nt.kind) := fun {f} hf hg hc => by
    refine (ct_MStepK hkk h1 h8 hf hg hc).mono ?_
    rintro v M' ⟨ok, rfl, N, rfl, S', hm, hs⟩
    obtain ⟨er, he, hi⟩ := errV_ne (ok := ok)
    exact ⟨er, S', N, he, rfl, hm, hs er hi⟩
  obtain rfl | rfl | rfl | rfl | rfl | rfl | rfl : k = 1 ∨ k = 2 ∨ k = 3 ∨ k = 4 ∨ k = 5 ∨ k = 6 ∨ k = 7 := by omega
  · refine fin rfl en125 (hfr ((ct_Mforward hM hw).mono ?_))
    rintro v M' ⟨hv, ⟨_, hm⟩ | ⟨_, rfl⟩⟩
    · exact ⟨_, hv, _, hm, fun er _ => .same rfl (putM_le _ _ _ _) rfl (fun h => by omega)⟩
    · exact ⟨_, hv, S, hM, fun er _ => .same rfl (by omega) rfl (fun h => by omega)⟩
  · refine fin rfl en126 ((ct_Mpack hM hl hw hn).mono ?_)
    rintro v M' ⟨hv, N, hN, ⟨hok, l, c, p, cap, _, hm⟩ | ⟨_, rfl⟩⟩
    · refine ⟨_, hv, N, hN, _, hm, fun er _ => ⟨by show (S.es ++ [_]).length ≤ _; simp, Nat.le_succ _, fun cnt hi => ?_⟩⟩
      rw [if_neg (fun h => by omega), Nat.add_zero]
      refine ⟨by show cntC (S.es ++ [_]) = cnt; unfold cntC; rw [List.countP_append]; have := hi.1; unfold cntC at this; rw [this]; simp [NoteR.ent], fun e he => ?_⟩
      rcases List.mem_append.1 he with h | h
      · exact hi.2 e h
      · rw [List.mem_singleton.1 h]
        intro _ _
        unfold packOk at hok
        simp only [Bool.and_eq_true, decide_eq_true_eq] at hok
        exact hok.1.2
    · exact ⟨_, hv, _, hN, S, hM, fun er _ => .same rfl (by omega) rfl (fun h => by omega)⟩
  · refine fin rfl en127 ((ct_Mrefuse hM hl hw).mono ?_)
    rintro v M' ⟨ok, S', N, hv, hN, hs, hm⟩
    obtain ⟨h1, h2, h3, h4, h5, h6⟩ := hs
    exact ⟨ok, hv, N, hN, S', hm, fun er _ => .same h1 (by rw [h5]; omega) h4 (fun h => by omega)⟩
  · refine fin rfl en128 (hfr ((ct_Msync hM).mono ?_))
    rintro v M' ⟨hv, hm⟩
    refine ⟨_, hv, _, hm, fun er _ => ⟨by show (S.es.map _).length ≤ _; simp, Nat.le_succ _, fun cnt hi => ?_⟩⟩
    rw [if_neg (fun h => by omega), Nat.add_zero]
    refine ⟨(cntC_flg (by simp) fun j e e' h1 h2 => ?_).trans hi.1, fun e he ht hs => ?_⟩
    · rw [List.getElem?_map, h1] at h2
      cases h2
      rfl
    · obtain ⟨a, ha, rfl⟩ := List.mem_map.1 he
      have ht' : a.there = true := ht
      have hs' : (a.synced || a.there) = false := hs
      rw [ht', Bool.or_true] at hs'
      cases hs'
  · refine fin rfl en129 (hfr ((ct_Mtruncate hM hw).mono ?_))
    rintro v M' ⟨ok, es', fi, hv, hu, hm⟩
    refine ⟨ok, hv, _, hm, fun er _ => ⟨by show es'.length ≤ _; rw [hu.1.1]; omega, Nat.le_succ _, fun cnt hi => ?_⟩⟩
    rw [if_neg (fun h => by omega), Nat.add_zero]
    refine ⟨(cntC_flg hu.1.1 fun j e e' h1 h2 => (hu.2 j e e' h1 h2).1).trans hi.1, fun e' he ht hs => ?_⟩
    obtain ⟨j, hj⟩ := List.mem_iff_getElem?.1 he
    obtain ⟨e, h1, h2⟩ := hu.1.2 j e' hj
    obtain ⟨h3, h4⟩ := (hu.2 j e e' h1 hj).2 ht hs
    rw [h2]
    exact hi.2 e (List.mem_of_getElem? h1) h3 h4
  · refine fin rfl en130 (hfr (Q := fun ok N => ∃ S', ModM bm S' N ∧ ∀ er : Int, (er = 0 ↔ ok = true) → StR S S' er nt.kind) ((ct_Mcredit hM).mono ?_))
    rintro v M' (⟨i, e, hi, _, hv, hm⟩ | ⟨_, hv, rfl⟩)
    · refine ⟨_, hv, _, hm, fun er her => ⟨by show (S.es.set i _).length ≤ _; simp, Nat.le_succ _, fun cnt hc => ⟨?_, fun e' he ht hs => ?_⟩⟩⟩
      · have hil := (List.getElem?_eq_some_iff.1 hi).1
        have heq := (List.getElem?_eq_some_iff.1 hi).2
        show cntC (S.es.set i { e with credited := true }) = _
        have := hc.1
        unfold cntC at this ⊢
        rw [List.countP_set (h := hil), heq, this]
        cases hcr : e.credited with
        | true =>
          rw [hcr] at her
          have hp : 0 < S.es.countP fun e => e.credited := List.countP_pos_iff.2 ⟨e, List.mem_of_getElem? hi, hcr⟩
          have hne : ¬ (er = 0 ∧ nt.kind = 6) := fun h => by have := her.1 h.1; cases this
          rw [this] at hp
          simp [hne]
          omega
        | false =>
          rw [hcr] at her
          have hye : er = 0 ∧ nt.kind = 6 := ⟨her.2 rfl, hkk⟩
          simp [hye]
      · rcases List.mem_or_eq_of_mem_set he with h | h
        · exact hc.2 e' h ht hs
        · rw [h] at ht hs ⊢
          exact hc.2 e (List.mem_of_getElem? hi) ht hs
    · refine ⟨false, hv, S, hM, fun er her => .same rfl (by omega) rfl (fun h => by have := her.1 h.1; cases this)⟩
  · refine fin rfl en131 (hfr ((ct_Mcrash hM hw).mono ?_))
    rintro v M' ⟨hv, ⟨_, rfl⟩ | ⟨_, es', lo', lc', hu, hsy, _, hm⟩⟩
    · exact ⟨_, hv, S, hM, fun er _ => .same rfl (by omega) rfl (fun h => by omega)⟩
    · refine ⟨_, hv, _, hm, fun er _ => ⟨by show es'.length ≤ _; rw [hu.1.1]; omega, Nat.le_succ _, fun cnt hi => ?_⟩⟩
      rw [if_neg (fun h => by omega), Nat.add_zero]
      refine ⟨(cntC_flg hu.1.1 fun j e e' h1 h2 => (hu.2 j e e' h1 h2).1).trans hi.1, fun e' he ht hs => ?_⟩
      rw [hsy e' he ht] at hs
      cases hs
end Go.Proofs.Ytobmcpoejhhemaa
