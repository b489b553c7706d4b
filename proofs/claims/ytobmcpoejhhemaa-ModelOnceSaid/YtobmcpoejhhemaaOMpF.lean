import Derived.Test.YtobmcpoejhhemaaOMpE
namespace Go.Proofs.Ytobmcpoejhhemaa
open Go.E

theorem ct_MallI {bm : Nat} {S : MS} {M : Mem} {g : FuncId} {x y : Int} (q : EntR → Bool) (hg : Ent Try.prog g) (hM : ModM bm S M) (h0 : 0 ≤ x) (hab : x ≤ y) (hb : y ≤ (S.line.length : Int)) (hq : ∀ e ∈ S.es, Pu Try.prog g [.agg e.x.c] (.bool (q e))) :
    Ct Try.prog 164 [.pointer (some ⟨bm, 0, none⟩), .int .u64 x, .int .u64 y, .func (.func g) #[] #[]].toArray M (fun v M' => v = .bool (allQ S q x.toNat y.toNat) ∧ M' = M) := by
  obtain ⟨a, rfl⟩ : ∃ a : Nat, x = a := ⟨x.toNat, by omega⟩
  obtain ⟨b, rfl⟩ : ∃ b : Nat, y = b := ⟨y.toNat, by omega⟩
  rw [Int.toNat_natCast, Int.toNat_natCast]
  exact ct_Mall q hg hM (by omega) (by omega) hq
/-- Entries, some of which are there no more. -/
def UpdT (es es' : List EntR) : Prop := Flg es es' ∧ ∀ (j : Nat) (e e' : EntR), es[j]? = some e → es'[j]? = some e' → e'.credited = e.credited ∧ (e'.there = true → e'.synced = false → e.there = true ∧ e.synced = false)
theorem UpdT.refl (es : List EntR) : UpdT es es := ⟨Flg.refl es, fun j e e' h1 h2 => by rw [h1] at h2; cases h2; exact ⟨rfl, fun a b => ⟨a, b⟩⟩⟩
theorem UpdT.set {es es' : List EntR} (h : UpdT es es') {i : Nat} {x : EntR} (hi : es'[i]? = some x) (th sy : Bool) (hth : th = true → sy = false → x.there = true ∧ x.synced = false) : UpdT es (es'.set i { x with there := th, synced := sy }) := by
  refine ⟨h.1.set hi th sy x.credited, fun j e e' h1 h2 => ?_⟩
  by_cases hj : j = i
  · subst hj
    rw [List.getElem?_set_self (List.getElem?_eq_some_iff.1 hi).1] at h2
    cases h2
    have h3 := h.2 j e x h1 hi
    exact ⟨h3.1, fun a b => h3.2 (hth a b).1 (hth a b).2⟩
  · rw [List.getElem?_set_ne (Ne.symm hj)] at h2
    exact h.2 j e e' h1 h2
def truncOk (S : MS) (nt : NoteR) : Bool := decide (S.first ≤ nt.first) && decide (nt.first ≤ (S.line.length : Int)) && allQ S (fun e => e.credited) 0 nt.first.toNat
theorem ct_Mtruncate {bm : Nat} {S : MS} {M : Mem} {nt : NoteR} (hM : ModM bm S M) (hw : nt.Wf) :
    Ct Try.prog 129 [.pointer (some ⟨bm, 0, none⟩), .agg nt.x.c].toArray M (fun v M' => ∃ ok es' fi, v = .bool ok ∧ UpdT S.es es' ∧ ModM bm { S with es := es', first := fi } M') := by
  have hM0 := hM
  obtain ⟨bf, bc, bl, pe, ce, pl, cl, Ae, Al, Ar, hI, hE, hL, hA, rfl⟩ := hM
  have hen := hI.en
  have hln := hI.ln
  have hll := lnI_len S.line
  have hcap := hL.len_cap
  have hf0 : 0 ≤ nt.first := hw.first_.1
  have hxf : nt.x.first = nt.first := rfl
  have hfn : nt.x.first = ((nt.first.toNat : Nat) : Int) := (Int.toNat_of_nonneg hf0).symm
  refine ct_body (rv := [.tmp 4]) [(0, _), (1, _)] Try.func129 (by kernel_rfl) Try.ntmps129 Try.results129 rfl rfl (fun w0 => ?_)
  refine p_seq0 ?_
  refine p_plain0 (0 :: 1 :: []) ?_
  refine go_s0 (some 3) (.box 135 (.tmp 1)) 0 ?_
  refine os_boxA rfl rfl (fun b3 => ?_)
  refine go_q0 4 (.assign (.const (.bool false))) 4 (qv_assign rfl) ?_
  refine go_nil ?_
  change G _ _ _ _
  refine p_weaken [0, 3, 4] rfl ?_
  refine p_seq0 ?_
  refine p_seqK [0, 3, 4] rfl (fun frk Mk s => ∃ (z : Bool), (z = !truncOk S nt) ∧ Ge s ⟨[], (27, .bool z) :: frk, (b3, .cells nt.x.c 135 (0, 0)) :: modO bm bf bc bl pe S.es.length ce pl S.line.length cl S.first S.boot :: mapO bf S.fw S.fc :: mapO bc S.ca S.cc :: mapO bl S.lo S.lc :: (Ae ++ (Al ++ Ar))⟩) (by kernel_rfl) ?_ ?_
  · refine p_draw (by kernel_rfl) mixed 21 21 _ (fun _ h => h) (by kernel_rfl) ?_
    refine gd_all (0 :: 1 :: 2 :: 3 :: 4 :: 5 :: 6 :: 7 :: 8 :: 9 :: 10 :: 11 :: 12 :: 13 :: 14 :: 15 :: 16 :: 17 :: 18 :: 19 :: 20 :: []) _ rfl (by kernel_rfl) (by decide) (fun _ h => h) rfl ?_
    refine sq_q0 7 (.fieldAddr 135 (.tmp 3) 6) 0 (qv_field rfl fd135_6) ?_
    refine sq_q0 8 (.load 30 (.tmp 7)) 30 (qv_load rfl .auto (ldv_sca sc30 (get_Note_43 _))) ?_
    refine sq_q0 9 (.move (.tmp 0)) 131 (qv_move rfl) ?_
    refine sq_q0 10 (.nilCheck (.tmp 9)) 0 (qv_nilCheck rfl) ?_
    refine sq_q0 11 (.fieldAddr 207 (.tmp 10) 5) 0 (qv_field rfl fd207_5) ?_
    refine sq_q0 12 (.load 30 (.tmp 11)) 30 (qv_load rfl .auto (ldv_sca sc30 (get_Mod_5 _))) ?_
    refine sq_q0 13 (.binOp .lss 30 (.tmp 8) (.tmp 12) 30) 4 (qv_lss rfl rfl rfl) ?_
    refine sq_q0 14 (.move (.tmp 13)) 4 (qv_move rfl) ?_
    refine sq_case (d := 14) rfl (fun _ => rfl) (fun g14 => ?_) (fun g14 => ?_)
    · replace g14 := kn g14
      refine sq_n (d := 15) (op := .fieldAddr 135 (.tmp 3) 6) (ty := 0) (g := some (7, false)) (by kernel_rfl) ⟨14, _, by kernel_rfl, rfl, rfl⟩ ?_
      refine sq_n (d := 16) (op := .load 30 (.tmp 15)) (ty := 30) (g := some (7, false)) (by kernel_rfl) ⟨14, _, by kernel_rfl, rfl, rfl⟩ ?_
      refine sq_n (d := 17) (op := .move (.tmp 0)) (ty := 131) (g := some (7, false)) (by kernel_rfl) ⟨14, _, by kernel_rfl, rfl, rfl⟩ ?_
      refine sq_n (d := 18) (op := .call { callee := .value (.func 136), args := #[.tmp 17], argTypes := #[131] }) (ty := 30) (g := some (7, false)) (by kernel_rfl) ⟨14, _, by kernel_rfl, rfl, rfl⟩ ?_
      refine sq_n (d := 19) (op := .binOp .gtr 30 (.tmp 16) (.tmp 18) 30) (ty := 4) (g := some (7, false)) (by kernel_rfl) ⟨14, _, by kernel_rfl, rfl, rfl⟩ ?_
      refine sq_q0 20 (.pick (.tmp 14) (.const (.bool true)) (.tmp 19)) 4 (qv_pick_t rfl rfl) ?_
      refine sq_q0 21 (.move (.tmp 20)) 4 (qv_move rfl) ?_
      refine sq_n (d := 22) (op := .move (.tmp 0)) (ty := 131) (g := some (14, false)) (by kernel_rfl) ⟨21, _, by kernel_rfl, rfl, rfl⟩ ?_
      refine sq_n (d := 23) (op := .fieldAddr 135 (.tmp 3) 6) (ty := 0) (g := some (14, false)) (by kernel_rfl) ⟨21, _, by kernel_rfl, rfl, rfl⟩ ?_
      refine sq_n (d := 24) (op := .load 30 (.tmp 23)) (ty := 30) (g := some (14, false)) (by kernel_rfl) ⟨21, _, by kernel_rfl, rfl, rfl⟩ ?_
      refine sq_n (d := 25) (op := .call { callee := .value (.func 164), args := #[.tmp 22, .const (.int .u64 0), .tmp 24, .func 165], argTypes := #[131, 30, 30, 246] }) (ty := 4) (g := some (14, false)) (by kernel_rfl) ⟨21, _, by kernel_rfl, rfl, rfl⟩ ?_
      refine sq_n (d := 26) (op := .unOp .not 4 (.tmp 25)) (ty := 4) (g := some (14, false)) (by kernel_rfl) ⟨21, _, by kernel_rfl, rfl, rfl⟩ ?_
      refine sq_q0 27 (.pick (.tmp 21) (.const (.bool true)) (.tmp 26)) 4 (qv_pick_t rfl rfl) ?_
      refine SeqK.nil (fun β => ?_)
      refine gd_tail [] rfl (by kernel_rfl) (by kernel_rfl) ?_
      refine go_nil ?_
      exact ⟨_, by unfold truncOk; rw [← hxf]; clear hxf hfn; (try dsimp only at *); first | (simp [*]; done) | (simp [*]; rfl), ⟨rfl, ⟨[27, 0, 3, 4], rfl⟩, .auto⟩⟩
    replace g14 := kn g14
    refine sq_q (d := 15) (op := .fieldAddr 135 (.tmp 3) 6) (ty := 0) (g := some (7, false)) (by kernel_rfl) ⟨14, by kernel_rfl, rfl⟩ (fun _ h => nomatch h) (qv_field rfl fd135_6) ?_
    refine sq_q (d := 16) (op := .load 30 (.tmp 15)) (ty := 30) (g := some (7, false)) (by kernel_rfl) ⟨14, by kernel_rfl, rfl⟩ (fun _ h => nomatch h) (qv_load rfl .auto (ldv_sca sc30 (get_Note_43 _))) ?_
    refine sq_q (d := 17) (op := .move (.tmp 0)) (ty := 131) (g := some (7, false)) (by kernel_rfl) ⟨14, by kernel_rfl, rfl⟩ (fun _ h => nomatch h) (qv_move rfl) ?_
    refine sq_p (d := 18) (op := .call { callee := .value (.func 136), args := #[.tmp 17], argTypes := #[131] }) (ty := 30) (g := some (7, false)) (by kernel_rfl) ⟨14, by kernel_rfl, rfl⟩ (pv_callR en136 rfl .auto (ct_Mnext (by omega))) ?_
    refine sq_q (d := 19) (op := .binOp .gtr 30 (.tmp 16) (.tmp 18) 30) (ty := 4) (g := some (7, false)) (by kernel_rfl) ⟨14, by kernel_rfl, rfl⟩ (fun _ h => nomatch h) (qv_gtr rfl rfl rfl) ?_
    refine sq_q0 20 (.pick (.tmp 14) (.const (.bool true)) (.tmp 19)) 4 (qv_pick_f rfl rfl) ?_
    refine sq_q0 21 (.move (.tmp 20)) 4 (qv_move rfl) ?_
    refine sq_case (d := 21) rfl (fun _ => rfl) (fun g21 => ?_) (fun g21 => ?_)
    · replace g21 := kn g21
      refine sq_n (d := 22) (op := .move (.tmp 0)) (ty := 131) (g := some (14, false)) (by kernel_rfl) ⟨21, _, by kernel_rfl, rfl, rfl⟩ ?_
      refine sq_n (d := 23) (op := .fieldAddr 135 (.tmp 3) 6) (ty := 0) (g := some (14, false)) (by kernel_rfl) ⟨21, _, by kernel_rfl, rfl, rfl⟩ ?_
      refine sq_n (d := 24) (op := .load 30 (.tmp 23)) (ty := 30) (g := some (14, false)) (by kernel_rfl) ⟨21, _, by kernel_rfl, rfl, rfl⟩ ?_
      refine sq_n (d := 25) (op := .call { callee := .value (.func 164), args := #[.tmp 22, .const (.int .u64 0), .tmp 24, .func 165], argTypes := #[131, 30, 30, 246] }) (ty := 4) (g := some (14, false)) (by kernel_rfl) ⟨21, _, by kernel_rfl, rfl, rfl⟩ ?_
      refine sq_n (d := 26) (op := .unOp .not 4 (.tmp 25)) (ty := 4) (g := some (14, false)) (by kernel_rfl) ⟨21, _, by kernel_rfl, rfl, rfl⟩ ?_
      refine sq_q0 27 (.pick (.tmp 21) (.const (.bool true)) (.tmp 26)) 4 (qv_pick_t rfl rfl) ?_
      refine SeqK.nil (fun β => ?_)
      refine gd_tail [] rfl (by kernel_rfl) (by kernel_rfl) ?_
      refine go_nil ?_
      exact ⟨_, by unfold truncOk; rw [← hxf]; clear hxf hfn; (try dsimp only at *); first | (simp [*]; done) | (simp [*]; rfl), ⟨rfl, ⟨[27, 0, 3, 4], rfl⟩, .auto⟩⟩
    replace g21 := kn g21
    refine sq_q (d := 22) (op := .move (.tmp 0)) (ty := 131) (g := some (14, false)) (by kernel_rfl) ⟨21, by kernel_rfl, rfl⟩ (fun _ h => nomatch h) (qv_move rfl) ?_
    refine sq_q (d := 23) (op := .fieldAddr 135 (.tmp 3) 6) (ty := 0) (g := some (14, false)) (by kernel_rfl) ⟨21, by kernel_rfl, rfl⟩ (fun _ h => nomatch h) (qv_field rfl fd135_6) ?_
    refine sq_q (d := 24) (op := .load 30 (.tmp 23)) (ty := 30) (g := some (14, false)) (by kernel_rfl) ⟨21, by kernel_rfl, rfl⟩ (fun _ h => nomatch h) (qv_load rfl .auto (ldv_sca sc30 (get_Note_43 _))) ?_
    refine sq_p (d := 25) (op := .call { callee := .value (.func 164), args := #[.tmp 22, .const (.int .u64 0), .tmp 24, .func 165], argTypes := #[131, 30, 30, 246] }) (ty := 4) (g := some (14, false)) (by kernel_rfl) ⟨21, by kernel_rfl, rfl⟩ (pv_callR en164 rfl (Sel.skip Sel.all) (ct_MallI (x := 0) (fun e => e.credited) en165 hM0 (Int.le_refl _) (by omega) (by omega) (fun e _ => pu_truncate1 e))) ?_
    refine sq_q (d := 26) (op := .unOp .not 4 (.tmp 25)) (ty := 4) (g := some (14, false)) (by kernel_rfl) ⟨21, by kernel_rfl, rfl⟩ (fun _ h => nomatch h) (qv_not rfl) ?_
    refine sq_q0 27 (.pick (.tmp 21) (.const (.bool true)) (.tmp 26)) 4 (qv_pick_f rfl rfl) ?_
    refine SeqK.nil (fun β => ?_)
    refine gd_tail [] rfl (by kernel_rfl) (by kernel_rfl) ?_
    refine go_nil ?_
    exact ⟨_, by unfold truncOk; rw [← hxf]; clear hxf hfn; (try dsimp only at *); first | (simp [*]; done) | (simp [*]; rfl), ⟨rfl, ⟨[27, 0, 3, 4], rfl⟩, .auto⟩⟩
  rintro s ⟨z, hz, hs⟩
  refine ge_ok hs ?_
  refine p_cond (.tmp 27) (by kernel_rfl) rfl (fun h27 => ?_) (fun h27 => ?_)
  · replace h27 := kn h27
    have hpk : truncOk S nt = false := by rw [h27] at hz; simpa using hz.symm
    refine p_seq0 ?_
    refine p_plain0 (0 :: []) ?_
    refine go_q0 4 (.assign (.const (.bool false))) 4 (qv_assign rfl) ?_
    refine go_nil ?_
    change G _ _ _ _
    refine p_weaken [0, 3, 4] rfl ?_
    refine p_ret0 ?_
    try dsimp only [thenQ, inBlockQ]
    try rw [if_pos rfl]
    refine ret_left (modO bm bf bc bl pe S.es.length ce pl S.line.length cl S.first S.boot :: mapO bf S.fw S.fc :: mapO bc S.ca S.cc :: mapO bl S.lo S.lc :: (Ae ++ (Al ++ Ar))) (.inr rfl) (.cons (res_tmp rfl) .nil) .auto ?_
    exact ⟨_, S.es, S.first, rfl, UpdT.refl _, hM0⟩
  replace h27 := kn h27
  have hpk : truncOk S nt = true := by rw [h27] at hz; simpa using hz.symm
  have hpk2 := hpk
  unfold truncOk at hpk2
  simp only [Bool.and_eq_true, decide_eq_true_eq] at hpk2
  obtain ⟨⟨hb0, hep⟩, hnn⟩ := hpk2
  refine p_skip0 ?_
  change G _ _ _ _
  refine p_weaken [0, 3, 4] rfl ?_
  refine p_seq0 ?_
  refine p_plain0 (0 :: 1 :: 2 :: 3 :: 4 :: 5 :: []) ?_
  refine go_q0 28 (.move (.tmp 0)) 131 (qv_move rfl) ?_
  refine go_q0 29 (.fieldAddr 135 (.tmp 3) 6) 0 (qv_field rfl fd135_6) ?_
  refine go_q0 30 (.load 30 (.tmp 29)) 30 (qv_load rfl .auto (ldv_sca sc30 (get_Note_43 _))) ?_
  refine go_q0 31 (.nilCheck (.tmp 28)) 0 (qv_nilCheck rfl) ?_
  refine go_q0 32 (.fieldAddr 207 (.tmp 31) 5) 0 (qv_field rfl fd207_5) ?_
  refine go_s0 none (.store 30 (.tmp 32) (.tmp 30)) 0 ?_
  refine os_store1 rfl rfl sz30 rfl rfl .auto (Nat.le_of_ble_eq_true rfl) (set_Mod_5 _ _) ?_
  refine go_nil ?_
  change G _ _ _ _
  refine p_weaken [0, 3, 4] rfl ?_
  refine p_seq0 ?_
  refine p_seq0 ?_
  refine p_draw (by kernel_rfl) mixed 9 9 _ (fun _ h => h) (by kernel_rfl) ?_
  refine gd_all (0 :: 1 :: 2 :: 3 :: 4 :: 5 :: 6 :: 7 :: 8 :: []) _ rfl (by kernel_rfl) (by decide) (fun _ h => h) rfl ?_
  refine sq_q0 33 (.move (.tmp 0)) 131 (qv_move rfl) ?_
  refine sq_q0 34 (.nilCheck (.tmp 33)) 0 (qv_nilCheck rfl) ?_
  refine sq_q0 35 (.fieldAddr 207 (.tmp 34) 4) 0 (qv_field rfl fd207_4) ?_
  refine sq_q0 36 (.load 89 (.tmp 35)) 89 (qv_load rfl .auto (ldv_sca sc89 (get_Mod_4 _))) ?_
  refine sq_q0 37 (.fieldAddr 135 (.tmp 3) 6) 0 (qv_field rfl fd135_6) ?_
  refine sq_q0 38 (.load 30 (.tmp 37)) 30 (qv_load rfl .auto (ldv_sca sc30 (get_Note_43 _))) ?_
  refine sq_q0 39 (.slice 89 (.tmp 36) none (some (.tmp 38)) none) 89 (qv_cutO hL un89 sz3 rfl rfl hfn (by omega)) ?_
  refine sq_q0 40 (.call { callee := .builtin .len, args := #[.tmp 39], argTypes := #[89] }) 3 (qv_lenS un89 rfl) ?_
  refine sq_q0 41 (.move (.const (.int .i64 0))) 3 (qv_move rfl) ?_
  refine SeqK.nil (fun β => ?_)
  refine gd_tail [] rfl (by kernel_rfl) (by kernel_rfl) ?_
  refine go_nil ?_
  change G _ _ _ _
  refine p_weaken [0, 4, 39, 40, 41] rfl ?_
  refine p_block 0 (by kernel_rfl) ?_
  refine p_loopE (by kernel_rfl) (fun s m => ∃ (i : Nat) (es1 : List EntR) (Ae1 : Mem), (i ≤ nt.first.toNat) ∧ (UpdT S.es es1) ∧ (OwnL eEntR 139 pe ce es1 Ae1) ∧ Ge s ⟨[], [(0, .pointer (some ⟨bm, 0, none⟩)), (39, .slice pl nt.first.toNat cl), (40, .int .i64 nt.first.toNat), (41, .int .i64 i)], modO bm bf bc bl pe S.es.length ce pl S.line.length cl nt.first S.boot :: mapO bf S.fw S.fc :: mapO bc S.ca S.cc :: mapO bl S.lo S.lc :: (Ae1 ++ (Al ++ Ar))⟩ ∧ m = nt.first.toNat + 1 - i) ?_ ?_
  · exact ⟨_, ⟨0, S.es, Ae, by omega, UpdT.refl _, hE, ⟨rfl, ⟨[0, 39, 40, 41], rfl⟩, .auto⟩, rfl⟩⟩
  rintro s m ⟨i, es1, Ae1, hi, hu, hE1, hs, rfl⟩
  refine ge_ok hs ?_
  refine p_seq0 ?_
  refine p_plain0 (0 :: []) ?_
  refine go_q0 42 (.binOp .lss 3 (.tmp 41) (.tmp 40) 3) 0 (qv_lss rfl rfl rfl) ?_
  refine go_nil ?_
  change G _ _ _ _
  refine p_seq0 ?_
  refine p_cond (.tmp 42) (by kernel_rfl) rfl (fun h42 => ?_) (fun h42 => ?_)
  rotate_left
  · replace h42 := kn h42
    refine p_exit 0 (by kernel_rfl) ?_
    change G _ _ _ _
    refine p_weaken [] rfl ?_
    refine p_seq0 ?_
    refine p_plain0 (0 :: []) ?_
    refine go_q0 4 (.assign (.const (.bool true))) 4 (qv_assign rfl) ?_
    refine go_nil ?_
    change G _ _ _ _
    refine p_ret0 ?_
    try dsimp only [thenQ, inBlockQ]
    try rw [if_pos rfl]
    refine ret_left (modO bm bf bc bl pe S.es.length ce pl S.line.length cl nt.first S.boot :: mapO bf S.fw S.fc :: mapO bc S.ca S.cc :: mapO bl S.lo S.lc :: (Ae1 ++ (Al ++ Ar))) (.inr rfl) (.cons (res_tmp rfl) .nil) .auto ?_
    exact ⟨_, es1, nt.first, rfl, hu, bf, bc, bl, pe, ce, pl, cl, Ae1, Al, Ar, { hI.setEs hu.1 with fi := hw.first_ }, hE1, hL, hu.1.lst hA, by rw [hu.1.1]⟩
  replace h42 := kn h42
  refine p_skip0 ?_
  change G _ _ _ _
  refine p_weaken [0, 39, 40, 41] rfl ?_
  refine p_seq0 ?_
  refine p_block 1 (by kernel_rfl) ?_
  refine p_seq0 ?_
  obtain ⟨lb, lo', lcu, lee, lff, hpe, lm, LH⟩ := hL.lst.at_ (i := i) (by omega)
  obtain ⟨k, hk⟩ : ∃ k, S.line[i]? = some k := ⟨_, List.getElem?_eq_getElem (by omega)⟩
  have hki : (lnI S.line)[i]? = some (k : Int) := by unfold lnI; rw [List.getElem?_map, hk]; rfl
  have hke : k < S.es.length := hI.li k (List.mem_of_getElem? hk)
  have hl1 : es1.length = S.es.length := hu.1.1
  obtain ⟨b, cur, hpb, hAe, hc1, hc2, hc3, H⟩ := hE1.some_ (by omega)
  obtain ⟨x, hx⟩ : ∃ x, es1[k]? = some x := ⟨_, List.getElem?_eq_getElem (by omega)⟩
  have hun := hu.set hx false x.synced (fun h => by cases h)
  subst hpe
  subst hpb
  subst hAe
  refine p_plain0 (0 :: 1 :: 2 :: []) ?_
  refine go_q0 43 (.indexAddr 89 (.tmp 39) (.tmp 41)) 0 (qv_index un89 sz3 rfl rfl rfl (by omega)) ?_
  refine go_q0 44 (.load 3 (.tmp 43)) 3 (qv_load rfl (by repeat first | exact At.of_mem (.tail _ (.tail _ (.tail _ (.tail _ (List.mem_append_right _ (List.mem_append_left _ lm)))))) | apply At.next) (ldv_el LH hki sc3 (k := 0) rfl rfl)) ?_
  refine go_q0 6 (.assign (.tmp 44)) 3 (qv_assign rfl) ?_
  refine go_nil ?_
  change G _ _ _ _
  refine p_weaken [0, 6, 39, 40, 41] rfl ?_
  refine p_plain0 (0 :: 1 :: 2 :: 3 :: 4 :: 5 :: 6 :: 7 :: []) ?_
  refine go_q0 45 (.move (.tmp 0)) 131 (qv_move rfl) ?_
  refine go_q0 46 (.nilCheck (.tmp 45)) 0 (qv_nilCheck rfl) ?_
  refine go_q0 47 (.fieldAddr 207 (.tmp 46) 3) 0 (qv_field rfl fd207_3) ?_
  refine go_q0 48 (.load 136 (.tmp 47)) 136 (qv_load rfl .auto (ldv_sca sc136 (get_Mod_3 _))) ?_
  refine go_q0 49 (.move (.tmp 6)) 3 (qv_move rfl) ?_
  refine go_q0 50 (.indexAddr 136 (.tmp 48) (.tmp 49)) 0 (qv_index un136 sz139 rfl rfl rfl (by omega)) ?_
  refine go_q0 51 (.fieldAddr 139 (.tmp 50) 3) 0 (qv_field rfl fd139_3) ?_
  refine go_s0 none (.store 4 (.tmp 51) (.const (.bool false))) 0 ?_
  refine os_store1 rfl rfl sz4 rfl rfl .auto (own_fitc (E := eEntR) (k := 3) (by decide) H hx (by decide) rfl) rfl ?_
  have hEn := own_setc (E := eEntR) (e := 139) (b := b) (k := 3) (a' := { x with there := false }) (by decide) hc1 hc2 hc3 H hx (by decide) (set_Entr_3 x.x false) rfl
  refine go_nil ?_
  change G _ _ _ _
  refine p_weaken [0, 39, 40, 41] rfl ?_
  refine p_plain0 (0 :: 1 :: []) ?_
  refine go_q0 52 (.binOp .add 3 (.tmp 41) (.const (.int .i64 1)) 3) 3 (qv_add rfl rfl (by first | exact IntWalk.i64_in _ (by omega) | exact IntWalk.i64_in _ (by dsimp only; omega) | rfl)) ?_
  refine go_q0 41 (.move (.tmp 52)) 3 (qv_move rfl) ?_
  refine go_nil ?_
  exact ⟨_, ⟨i + 1, _, _, by omega, hun, hEn, ⟨rfl, ⟨[0, 39, 40, 41], rfl⟩, .auto⟩, rfl⟩, by omega⟩
end Go.Proofs.Ytobmcpoejhhemaa
