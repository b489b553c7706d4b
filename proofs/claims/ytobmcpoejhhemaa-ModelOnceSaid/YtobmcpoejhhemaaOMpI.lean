import Derived.Test.YtobmcpoejhhemaaOMpH
namespace Go.Proofs.Ytobmcpoejhhemaa
open Go.E

def crashOk1 (S : MS) (nt : NoteR) : Bool := !(S.es.any fun e => decide (nt.epoch ≤ e.epoch)) && !decide (nt.epoch = 0) && decide (nt.first ≤ nt.next) && decide (nt.next ≤ (S.line.length : Int))
def crashOk2 (S : MS) (nt : NoteR) : Bool := allQ S (fun e => e.credited) 0 nt.first.toNat && allQ S (fun e => e.credited || !e.synced) nt.next.toNat S.line.length
def crashOk (S : MS) (nt : NoteR) : Bool := crashOk1 S nt && crashOk2 S nt
theorem lnI_take (l : List Nat) (n : Nat) : lnI (l.take n) = (lnI l).take n := by simp [lnI, List.map_take]
theorem ct_Mcrash {bm : Nat} {S : MS} {M : Mem} {nt : NoteR} (hM : ModM bm S M) (hw : nt.Wf) :
    Ct Try.prog 131 [.pointer (some ⟨bm, 0, none⟩), .agg nt.x.c].toArray M (fun v M' => v = .bool (crashOk S nt) ∧ ((crashOk S nt = false ∧ M' = M) ∨ (crashOk S nt = true ∧ ∃ es' lo' lc', UpdT S.es es' ∧ (∀ e ∈ es', e.there = true → e.synced = true) ∧ (S.ca = [] → lo' = S.lo ∧ lc' = S.lc) ∧ ModM bm { S with es := es', ca := [], lo := lo', lc := lc', line := S.line.take nt.next.toNat, first := nt.first, boot := nt.epoch } M'))) := by
  have hM0 := hM
  obtain ⟨bf, bc, bl, pe, ce, pl, cl, Ae, Al, Ar, hI, hE, hL, hA, rfl⟩ := hM
  have hen := hI.en
  have hln := hI.ln
  have hll := lnI_len S.line
  have hcap := hL.len_cap
  have hf0 : 0 ≤ nt.first := hw.first_.1
  have hn0 : 0 ≤ nt.next := hw.next_.1
  have hxe : nt.x.epoch = nt.epoch := rfl
  have hxf : nt.x.first = nt.first := rfl
  have hxn : nt.x.next = nt.next := rfl
  have hfn : nt.x.first = ((nt.first.toNat : Nat) : Int) := (Int.toNat_of_nonneg hf0).symm
  have hnn : nt.x.next = ((nt.next.toNat : Nat) : Int) := (Int.toNat_of_nonneg hn0).symm
  refine ct_body (rv := [.tmp 4]) [(0, _), (1, _)] Try.func131 (by kernel_rfl) Try.ntmps131 Try.results131 rfl rfl (fun w0 => ?_)
  refine p_seq0 ?_
  refine p_plain0 (0 :: 1 :: []) ?_
  refine go_s0 (some 3) (.box 135 (.tmp 1)) 0 ?_
  refine os_boxA rfl rfl (fun b3 => ?_)
  refine go_q0 4 (.assign (.const (.bool false))) 4 (qv_assign rfl) ?_
  refine go_nil ?_
  change G _ _ _ _
  refine p_weaken [0, 3, 4] rfl ?_
  refine p_seq0 ?_
  refine p_plain0 (0 :: 1 :: 2 :: 3 :: 4 :: 5 :: 6 :: 7 :: []) ?_
  refine go_q0 11 (.move (.tmp 0)) 131 (qv_move rfl) ?_
  refine go_q0 12 (.nilCheck (.tmp 11)) 0 (qv_nilCheck rfl) ?_
  refine go_q0 13 (.fieldAddr 207 (.tmp 12) 3) 0 (qv_field rfl fd207_3) ?_
  refine go_q0 14 (.load 136 (.tmp 13)) 136 (qv_load rfl .auto (ldv_sca sc136 (get_Mod_3 _))) ?_
  refine go_q0 15 (.makeFunc (.func 168) #[] #[.tmp 3]) 246 (qv_makeFunc rfl) ?_
  refine go_s0 (some 16) (.call { callee := .value (.func 167), args := #[.tmp 14, .tmp 15], argTypes := #[136, 246] }) 4 ?_
  refine os_call (Nat.le_of_ble_eq_true rfl) en167 rfl (Sel.all) (ct_ContainsE (cb := [.pointer (some ⟨b3, 0, none⟩)]) (M := (b3, .cells nt.x.c 135 (0, 0)) :: modO bm bf bc bl pe S.es.length ce pl S.line.length cl S.first S.boot :: mapO bf S.fw S.fc :: mapO bc S.ca S.cc :: mapO bl S.lo S.lc :: (Ae ++ (Al ++ Ar))) (fun e => decide (nt.epoch ≤ e.epoch)) en168 (.tail (.tail (.tail (.tail (.tail hE.lst.left))))) (by omega) (fun x _ => Ct.frame (Sel.cons .here .nil) (ct_crash1 x))) ?_
  rintro v16 A16 ⟨rfl, hm'⟩
  try dsimp only [List.nil_append, List.cons_append]
  replace hm' := hm'.symm
  subst hm'
  rw [List.append_nil]
  refine go_q0 17 (.unOp .not 4 (.tmp 16)) 4 (qv_not rfl) ?_
  refine go_q0 5 (.assign (.tmp 17)) 4 (qv_assign rfl) ?_
  refine go_nil ?_
  change G _ _ _ _
  refine p_weaken [0, 3, 4, 5] rfl ?_
  refine p_seq0 ?_
  refine p_seqK [0, 3, 4] rfl (fun frk Mk s => ∃ (z : Bool), (z = !crashOk1 S nt) ∧ Ge s ⟨[], (38, .bool z) :: frk, (b3, .cells nt.x.c 135 (0, 0)) :: modO bm bf bc bl pe S.es.length ce pl S.line.length cl S.first S.boot :: mapO bf S.fw S.fc :: mapO bc S.ca S.cc :: mapO bl S.lo S.lc :: (Ae ++ (Al ++ Ar))⟩) (by kernel_rfl) ?_ ?_
  · refine p_draw (by kernel_rfl) mixed 21 21 _ (fun _ h => h) (by kernel_rfl) ?_
    refine gd_all (0 :: 1 :: 2 :: 3 :: 4 :: 5 :: 6 :: 7 :: 8 :: 9 :: 10 :: 11 :: 12 :: 13 :: 14 :: 15 :: 16 :: 17 :: 18 :: 19 :: 20 :: []) _ rfl (by kernel_rfl) (by decide) (fun _ h => h) rfl ?_
    refine sq_q0 18 (.move (.tmp 5)) 4 (qv_move rfl) ?_
    refine sq_q0 19 (.unOp .not 4 (.tmp 18)) 4 (qv_not rfl) ?_
    refine sq_q0 20 (.move (.tmp 19)) 4 (qv_move rfl) ?_
    refine sq_case (d := 20) rfl (fun _ => rfl) (fun g20 => ?_) (fun g20 => ?_)
    · replace g20 := kn g20
      refine sq_n (d := 21) (op := .fieldAddr 135 (.tmp 3) 4) (ty := 0) (g := some (2, false)) (by kernel_rfl) ⟨20, _, by kernel_rfl, rfl, rfl⟩ ?_
      refine sq_n (d := 22) (op := .load 77 (.tmp 21)) (ty := 77) (g := some (2, false)) (by kernel_rfl) ⟨20, _, by kernel_rfl, rfl, rfl⟩ ?_
      refine sq_n (d := 23) (op := .binOp .eql 77 (.tmp 22) (.const (.int .u32 0)) 77) (ty := 4) (g := some (2, false)) (by kernel_rfl) ⟨20, _, by kernel_rfl, rfl, rfl⟩ ?_
      refine sq_q0 24 (.pick (.tmp 20) (.const (.bool true)) (.tmp 23)) 4 (qv_pick_t rfl rfl) ?_
      refine sq_q0 25 (.move (.tmp 24)) 4 (qv_move rfl) ?_
      refine sq_n (d := 26) (op := .fieldAddr 135 (.tmp 3) 6) (ty := 0) (g := some (7, false)) (by kernel_rfl) ⟨25, _, by kernel_rfl, rfl, rfl⟩ ?_
      refine sq_n (d := 27) (op := .load 30 (.tmp 26)) (ty := 30) (g := some (7, false)) (by kernel_rfl) ⟨25, _, by kernel_rfl, rfl, rfl⟩ ?_
      refine sq_n (d := 28) (op := .fieldAddr 135 (.tmp 3) 7) (ty := 0) (g := some (7, false)) (by kernel_rfl) ⟨25, _, by kernel_rfl, rfl, rfl⟩ ?_
      refine sq_n (d := 29) (op := .load 30 (.tmp 28)) (ty := 30) (g := some (7, false)) (by kernel_rfl) ⟨25, _, by kernel_rfl, rfl, rfl⟩ ?_
      refine sq_n (d := 30) (op := .binOp .gtr 30 (.tmp 27) (.tmp 29) 30) (ty := 4) (g := some (7, false)) (by kernel_rfl) ⟨25, _, by kernel_rfl, rfl, rfl⟩ ?_
      refine sq_q0 31 (.pick (.tmp 25) (.const (.bool true)) (.tmp 30)) 4 (qv_pick_t rfl rfl) ?_
      refine sq_q0 32 (.move (.tmp 31)) 4 (qv_move rfl) ?_
      refine sq_n (d := 33) (op := .fieldAddr 135 (.tmp 3) 7) (ty := 0) (g := some (14, false)) (by kernel_rfl) ⟨32, _, by kernel_rfl, rfl, rfl⟩ ?_
      refine sq_n (d := 34) (op := .load 30 (.tmp 33)) (ty := 30) (g := some (14, false)) (by kernel_rfl) ⟨32, _, by kernel_rfl, rfl, rfl⟩ ?_
      refine sq_n (d := 35) (op := .move (.tmp 0)) (ty := 131) (g := some (14, false)) (by kernel_rfl) ⟨32, _, by kernel_rfl, rfl, rfl⟩ ?_
      refine sq_n (d := 36) (op := .call { callee := .value (.func 136), args := #[.tmp 35], argTypes := #[131] }) (ty := 30) (g := some (14, false)) (by kernel_rfl) ⟨32, _, by kernel_rfl, rfl, rfl⟩ ?_
      refine sq_n (d := 37) (op := .binOp .gtr 30 (.tmp 34) (.tmp 36) 30) (ty := 4) (g := some (14, false)) (by kernel_rfl) ⟨32, _, by kernel_rfl, rfl, rfl⟩ ?_
      refine sq_q0 38 (.pick (.tmp 32) (.const (.bool true)) (.tmp 37)) 4 (qv_pick_t rfl rfl) ?_
      refine SeqK.nil (fun β => ?_)
      refine gd_tail [] rfl (by kernel_rfl) (by kernel_rfl) ?_
      refine go_nil ?_
      exact ⟨_, by unfold crashOk1; (try simp only [hxe, hxf, hxn, Int.toNat_zero] at *); clear hxe hxf hxn hfn hnn; generalize (S.es.any fun e => decide (nt.epoch ≤ e.epoch)) = qq at *; cases qq <;> first | (simp [*]; done) | (rw [Bool.eq_iff_iff]; simp; omega) | (simp [*]; rfl) | (simp at *; done) | (simp at *; simp [*]; done) | (simp at *; simp [*]; omega), ⟨rfl, ⟨[38, 0, 3, 4], rfl⟩, .auto⟩⟩
    replace g20 := kn g20
    refine sq_q (d := 21) (op := .fieldAddr 135 (.tmp 3) 4) (ty := 0) (g := some (2, false)) (by kernel_rfl) ⟨20, by kernel_rfl, rfl⟩ (fun _ h => nomatch h) (qv_field rfl fd135_4) ?_
    refine sq_q (d := 22) (op := .load 77 (.tmp 21)) (ty := 77) (g := some (2, false)) (by kernel_rfl) ⟨20, by kernel_rfl, rfl⟩ (fun _ h => nomatch h) (qv_load rfl .auto (ldv_sca sc77 (get_Note_41 _))) ?_
    refine sq_q (d := 23) (op := .binOp .eql 77 (.tmp 22) (.const (.int .u32 0)) 77) (ty := 4) (g := some (2, false)) (by kernel_rfl) ⟨20, by kernel_rfl, rfl⟩ (fun _ h => nomatch h) (qv_eql rfl rfl rfl) ?_
    refine sq_q0 24 (.pick (.tmp 20) (.const (.bool true)) (.tmp 23)) 4 (qv_pick_f rfl rfl) ?_
    refine sq_q0 25 (.move (.tmp 24)) 4 (qv_move rfl) ?_
    refine sq_case (d := 25) rfl (fun _ => rfl) (fun g25 => ?_) (fun g25 => ?_)
    · replace g25 := kn g25
      refine sq_n (d := 26) (op := .fieldAddr 135 (.tmp 3) 6) (ty := 0) (g := some (7, false)) (by kernel_rfl) ⟨25, _, by kernel_rfl, rfl, rfl⟩ ?_
      refine sq_n (d := 27) (op := .load 30 (.tmp 26)) (ty := 30) (g := some (7, false)) (by kernel_rfl) ⟨25, _, by kernel_rfl, rfl, rfl⟩ ?_
      refine sq_n (d := 28) (op := .fieldAddr 135 (.tmp 3) 7) (ty := 0) (g := some (7, false)) (by kernel_rfl) ⟨25, _, by kernel_rfl, rfl, rfl⟩ ?_
      refine sq_n (d := 29) (op := .load 30 (.tmp 28)) (ty := 30) (g := some (7, false)) (by kernel_rfl) ⟨25, _, by kernel_rfl, rfl, rfl⟩ ?_
      refine sq_n (d := 30) (op := .binOp .gtr 30 (.tmp 27) (.tmp 29) 30) (ty := 4) (g := some (7, false)) (by kernel_rfl) ⟨25, _, by kernel_rfl, rfl, rfl⟩ ?_
      refine sq_q0 31 (.pick (.tmp 25) (.const (.bool true)) (.tmp 30)) 4 (qv_pick_t rfl rfl) ?_
      refine sq_q0 32 (.move (.tmp 31)) 4 (qv_move rfl) ?_
      refine sq_n (d := 33) (op := .fieldAddr 135 (.tmp 3) 7) (ty := 0) (g := some (14, false)) (by kernel_rfl) ⟨32, _, by kernel_rfl, rfl, rfl⟩ ?_
      refine sq_n (d := 34) (op := .load 30 (.tmp 33)) (ty := 30) (g := some (14, false)) (by kernel_rfl) ⟨32, _, by kernel_rfl, rfl, rfl⟩ ?_
      refine sq_n (d := 35) (op := .move (.tmp 0)) (ty := 131) (g := some (14, false)) (by kernel_rfl) ⟨32, _, by kernel_rfl, rfl, rfl⟩ ?_
      refine sq_n (d := 36) (op := .call { callee := .value (.func 136), args := #[.tmp 35], argTypes := #[131] }) (ty := 30) (g := some (14, false)) (by kernel_rfl) ⟨32, _, by kernel_rfl, rfl, rfl⟩ ?_
      refine sq_n (d := 37) (op := .binOp .gtr 30 (.tmp 34) (.tmp 36) 30) (ty := 4) (g := some (14, false)) (by kernel_rfl) ⟨32, _, by kernel_rfl, rfl, rfl⟩ ?_
      refine sq_q0 38 (.pick (.tmp 32) (.const (.bool true)) (.tmp 37)) 4 (qv_pick_t rfl rfl) ?_
      refine SeqK.nil (fun β => ?_)
      refine gd_tail [] rfl (by kernel_rfl) (by kernel_rfl) ?_
      refine go_nil ?_
      exact ⟨_, by unfold crashOk1; (try simp only [hxe, hxf, hxn, Int.toNat_zero] at *); clear hxe hxf hxn hfn hnn; generalize (S.es.any fun e => decide (nt.epoch ≤ e.epoch)) = qq at *; cases qq <;> first | (simp [*]; done) | (rw [Bool.eq_iff_iff]; simp; omega) | (simp [*]; rfl) | (simp at *; done) | (simp at *; simp [*]; done) | (simp at *; simp [*]; omega), ⟨rfl, ⟨[38, 0, 3, 4], rfl⟩, .auto⟩⟩
    replace g25 := kn g25
    refine sq_q (d := 26) (op := .fieldAddr 135 (.tmp 3) 6) (ty := 0) (g := some (7, false)) (by kernel_rfl) ⟨25, by kernel_rfl, rfl⟩ (fun _ h => nomatch h) (qv_field rfl fd135_6) ?_
    refine sq_q (d := 27) (op := .load 30 (.tmp 26)) (ty := 30) (g := some (7, false)) (by kernel_rfl) ⟨25, by kernel_rfl, rfl⟩ (fun _ h => nomatch h) (qv_load rfl .auto (ldv_sca sc30 (get_Note_43 _))) ?_
    refine sq_q (d := 28) (op := .fieldAddr 135 (.tmp 3) 7) (ty := 0) (g := some (7, false)) (by kernel_rfl) ⟨25, by kernel_rfl, rfl⟩ (fun _ h => nomatch h) (qv_field rfl fd135_7) ?_
    refine sq_q (d := 29) (op := .load 30 (.tmp 28)) (ty := 30) (g := some (7, false)) (by kernel_rfl) ⟨25, by kernel_rfl, rfl⟩ (fun _ h => nomatch h) (qv_load rfl .auto (ldv_sca sc30 (get_Note_44 _))) ?_
    refine sq_q (d := 30) (op := .binOp .gtr 30 (.tmp 27) (.tmp 29) 30) (ty := 4) (g := some (7, false)) (by kernel_rfl) ⟨25, by kernel_rfl, rfl⟩ (fun _ h => nomatch h) (qv_gtr rfl rfl rfl) ?_
    refine sq_q0 31 (.pick (.tmp 25) (.const (.bool true)) (.tmp 30)) 4 (qv_pick_f rfl rfl) ?_
    refine sq_q0 32 (.move (.tmp 31)) 4 (qv_move rfl) ?_
    refine sq_case (d := 32) rfl (fun _ => rfl) (fun g32 => ?_) (fun g32 => ?_)
    · replace g32 := kn g32
      refine sq_n (d := 33) (op := .fieldAddr 135 (.tmp 3) 7) (ty := 0) (g := some (14, false)) (by kernel_rfl) ⟨32, _, by kernel_rfl, rfl, rfl⟩ ?_
      refine sq_n (d := 34) (op := .load 30 (.tmp 33)) (ty := 30) (g := some (14, false)) (by kernel_rfl) ⟨32, _, by kernel_rfl, rfl, rfl⟩ ?_
      refine sq_n (d := 35) (op := .move (.tmp 0)) (ty := 131) (g := some (14, false)) (by kernel_rfl) ⟨32, _, by kernel_rfl, rfl, rfl⟩ ?_
      refine sq_n (d := 36) (op := .call { callee := .value (.func 136), args := #[.tmp 35], argTypes := #[131] }) (ty := 30) (g := some (14, false)) (by kernel_rfl) ⟨32, _, by kernel_rfl, rfl, rfl⟩ ?_
      refine sq_n (d := 37) (op := .binOp .gtr 30 (.tmp 34) (.tmp 36) 30) (ty := 4) (g := some (14, false)) (by kernel_rfl) ⟨32, _, by kernel_rfl, rfl, rfl⟩ ?_
      refine sq_q0 38 (.pick (.tmp 32) (.const (.bool true)) (.tmp 37)) 4 (qv_pick_t rfl rfl) ?_
      refine SeqK.nil (fun β => ?_)
      refine gd_tail [] rfl (by kernel_rfl) (by kernel_rfl) ?_
      refine go_nil ?_
      exact ⟨_, by unfold crashOk1; (try simp only [hxe, hxf, hxn, Int.toNat_zero] at *); clear hxe hxf hxn hfn hnn; generalize (S.es.any fun e => decide (nt.epoch ≤ e.epoch)) = qq at *; cases qq <;> first | (simp [*]; done) | (rw [Bool.eq_iff_iff]; simp; omega) | (simp [*]; rfl) | (simp at *; done) | (simp at *; simp [*]; done) | (simp at *; simp [*]; omega), ⟨rfl, ⟨[38, 0, 3, 4], rfl⟩, .auto⟩⟩
    replace g32 := kn g32
    refine sq_q (d := 33) (op := .fieldAddr 135 (.tmp 3) 7) (ty := 0) (g := some (14, false)) (by kernel_rfl) ⟨32, by kernel_rfl, rfl⟩ (fun _ h => nomatch h) (qv_field rfl fd135_7) ?_
    refine sq_q (d := 34) (op := .load 30 (.tmp 33)) (ty := 30) (g := some (14, false)) (by kernel_rfl) ⟨32, by kernel_rfl, rfl⟩ (fun _ h => nomatch h) (qv_load rfl .auto (ldv_sca sc30 (get_Note_44 _))) ?_
    refine sq_q (d := 35) (op := .move (.tmp 0)) (ty := 131) (g := some (14, false)) (by kernel_rfl) ⟨32, by kernel_rfl, rfl⟩ (fun _ h => nomatch h) (qv_move rfl) ?_
    refine sq_p (d := 36) (op := .call { callee := .value (.func 136), args := #[.tmp 35], argTypes := #[131] }) (ty := 30) (g := some (14, false)) (by kernel_rfl) ⟨32, by kernel_rfl, rfl⟩ (pv_callR en136 rfl .auto (ct_Mnext (by omega))) ?_
    refine sq_q (d := 37) (op := .binOp .gtr 30 (.tmp 34) (.tmp 36) 30) (ty := 4) (g := some (14, false)) (by kernel_rfl) ⟨32, by kernel_rfl, rfl⟩ (fun _ h => nomatch h) (qv_gtr rfl rfl rfl) ?_
    refine sq_q0 38 (.pick (.tmp 32) (.const (.bool true)) (.tmp 37)) 4 (qv_pick_f rfl rfl) ?_
    refine SeqK.nil (fun β => ?_)
    refine gd_tail [] rfl (by kernel_rfl) (by kernel_rfl) ?_
    refine go_nil ?_
    exact ⟨_, by unfold crashOk1; (try simp only [hxe, hxf, hxn, Int.toNat_zero] at *); clear hxe hxf hxn hfn hnn; generalize (S.es.any fun e => decide (nt.epoch ≤ e.epoch)) = qq at *; cases qq <;> first | (simp [*]; done) | (rw [Bool.eq_iff_iff]; simp; omega) | (simp [*]; rfl) | (simp at *; done) | (simp at *; simp [*]; done) | (simp at *; simp [*]; omega), ⟨rfl, ⟨[38, 0, 3, 4], rfl⟩, .auto⟩⟩
  rintro s ⟨z, hz, hs⟩
  refine ge_ok hs ?_
  refine p_cond (.tmp 38) (by kernel_rfl) rfl (fun h38 => ?_) (fun h38 => ?_)
  · replace h38 := kn h38
    have hpk : crashOk S nt = false := by unfold crashOk; rw [h38] at hz; rw [show crashOk1 S nt = false by simpa using hz.symm]; rfl
    refine p_seq0 ?_
    refine p_plain0 (0 :: []) ?_
    refine go_q0 4 (.assign (.const (.bool false))) 4 (qv_assign rfl) ?_
    refine go_nil ?_
    change G _ _ _ _
    refine p_weaken [0, 3, 4] rfl ?_
    refine p_ret0 ?_
    try dsimp only [thenQ, inBlockQ]
    try rw [if_pos rfl]
    refine ret_left (modO bm bf bc bl pe S.es.length ce pl S.line.length cl S.first S.boot :: mapO bf S.fw S.fc :: mapO bc S.ca S.cc :: mapO bl S.lo S.lc :: (Ae ++ (Al ++ Ar))) (.inr rfl) (.cons (res_tmp rfl) .nil) .auto ?_
    exact ⟨by rw [hpk]; rfl, .inl ⟨hpk, rfl⟩⟩
  replace h38 := kn h38
  have hpk1 : crashOk1 S nt = true := by rw [h38] at hz; simpa using hz.symm
  have hpk2 := hpk1
  unfold crashOk1 at hpk2
  simp only [Bool.and_eq_true, decide_eq_true_eq, Bool.not_eq_true', decide_eq_false_iff_not] at hpk2
  obtain ⟨⟨⟨hnb, hb0⟩, hle1⟩, hle2⟩ := hpk2
  refine p_skip0 ?_
  change G _ _ _ _
  refine p_weaken [0, 3, 4] rfl ?_
  refine p_seq0 ?_
  refine p_seqK [0, 3, 4] rfl (fun frk Mk s => ∃ (z2 : Bool), (z2 = !crashOk2 S nt) ∧ Ge s ⟨[], (52, .bool z2) :: frk, (b3, .cells nt.x.c 135 (0, 0)) :: modO bm bf bc bl pe S.es.length ce pl S.line.length cl S.first S.boot :: mapO bf S.fw S.fc :: mapO bc S.ca S.cc :: mapO bl S.lo S.lc :: (Ae ++ (Al ++ Ar))⟩) (by kernel_rfl) ?_ ?_
  · refine p_draw (by kernel_rfl) mixed 14 14 _ (fun _ h => h) (by kernel_rfl) ?_
    refine gd_all (0 :: 1 :: 2 :: 3 :: 4 :: 5 :: 6 :: 7 :: 8 :: 9 :: 10 :: 11 :: 12 :: 13 :: []) _ rfl (by kernel_rfl) (by decide) (fun _ h => h) rfl ?_
    refine sq_q0 39 (.move (.tmp 0)) 131 (qv_move rfl) ?_
    refine sq_q0 40 (.fieldAddr 135 (.tmp 3) 6) 0 (qv_field rfl fd135_6) ?_
    refine sq_q0 41 (.load 30 (.tmp 40)) 30 (qv_load rfl .auto (ldv_sca sc30 (get_Note_43 _))) ?_
    refine sq_p (d := 42) (op := .call { callee := .value (.func 164), args := #[.tmp 39, .const (.int .u64 0), .tmp 41, .func 169], argTypes := #[131, 30, 30, 246] }) (ty := 4) (g := none) (by kernel_rfl) trivial (pv_callR en164 rfl (Sel.skip Sel.all) (ct_MallI (x := 0) (fun e => e.credited) en169 hM0 (Int.le_refl _) (by omega) (by omega) (fun e _ => pu_crash2 e))) ?_
    refine sq_q0 43 (.unOp .not 4 (.tmp 42)) 4 (qv_not rfl) ?_
    refine sq_q0 44 (.move (.tmp 43)) 4 (qv_move rfl) ?_
    refine sq_case (d := 44) rfl (fun _ => rfl) (fun g44 => ?_) (fun g44 => ?_)
    · replace g44 := kn g44
      refine sq_n (d := 45) (op := .move (.tmp 0)) (ty := 131) (g := some (5, false)) (by kernel_rfl) ⟨44, _, by kernel_rfl, rfl, rfl⟩ ?_
      refine sq_n (d := 46) (op := .fieldAddr 135 (.tmp 3) 7) (ty := 0) (g := some (5, false)) (by kernel_rfl) ⟨44, _, by kernel_rfl, rfl, rfl⟩ ?_
      refine sq_n (d := 47) (op := .load 30 (.tmp 46)) (ty := 30) (g := some (5, false)) (by kernel_rfl) ⟨44, _, by kernel_rfl, rfl, rfl⟩ ?_
      refine sq_n (d := 48) (op := .move (.tmp 0)) (ty := 131) (g := some (5, false)) (by kernel_rfl) ⟨44, _, by kernel_rfl, rfl, rfl⟩ ?_
      refine sq_n (d := 49) (op := .call { callee := .value (.func 136), args := #[.tmp 48], argTypes := #[131] }) (ty := 30) (g := some (5, false)) (by kernel_rfl) ⟨44, _, by kernel_rfl, rfl, rfl⟩ ?_
      refine sq_n (d := 50) (op := .call { callee := .value (.func 164), args := #[.tmp 45, .tmp 47, .tmp 49, .func 170], argTypes := #[131, 30, 30, 246] }) (ty := 4) (g := some (5, false)) (by kernel_rfl) ⟨44, _, by kernel_rfl, rfl, rfl⟩ ?_
      refine sq_n (d := 51) (op := .unOp .not 4 (.tmp 50)) (ty := 4) (g := some (5, false)) (by kernel_rfl) ⟨44, _, by kernel_rfl, rfl, rfl⟩ ?_
      refine sq_q0 52 (.pick (.tmp 44) (.const (.bool true)) (.tmp 51)) 4 (qv_pick_t rfl rfl) ?_
      refine SeqK.nil (fun β => ?_)
      refine gd_tail [] rfl (by kernel_rfl) (by kernel_rfl) ?_
      refine go_nil ?_
      exact ⟨_, by unfold crashOk2; (try simp only [hxe, hxf, hxn, Int.toNat_zero] at *); clear hxe hxf hxn hfn hnn; first | (simp [*]; done) | (simp [*]; rfl) | (simp at *; done) | (simp at *; simp [*]; done) | (simp at *; simp [*]; rw [Bool.eq_iff_iff]; simp; omega) | (simp at *; simp [*]; omega), ⟨rfl, ⟨[52, 0, 3, 4], rfl⟩, .auto⟩⟩
    replace g44 := kn g44
    refine sq_q (d := 45) (op := .move (.tmp 0)) (ty := 131) (g := some (5, false)) (by kernel_rfl) ⟨44, by kernel_rfl, rfl⟩ (fun _ h => nomatch h) (qv_move rfl) ?_
    refine sq_q (d := 46) (op := .fieldAddr 135 (.tmp 3) 7) (ty := 0) (g := some (5, false)) (by kernel_rfl) ⟨44, by kernel_rfl, rfl⟩ (fun _ h => nomatch h) (qv_field rfl fd135_7) ?_
    refine sq_q (d := 47) (op := .load 30 (.tmp 46)) (ty := 30) (g := some (5, false)) (by kernel_rfl) ⟨44, by kernel_rfl, rfl⟩ (fun _ h => nomatch h) (qv_load rfl .auto (ldv_sca sc30 (get_Note_44 _))) ?_
    refine sq_q (d := 48) (op := .move (.tmp 0)) (ty := 131) (g := some (5, false)) (by kernel_rfl) ⟨44, by kernel_rfl, rfl⟩ (fun _ h => nomatch h) (qv_move rfl) ?_
    refine sq_p (d := 49) (op := .call { callee := .value (.func 136), args := #[.tmp 48], argTypes := #[131] }) (ty := 30) (g := some (5, false)) (by kernel_rfl) ⟨44, by kernel_rfl, rfl⟩ (pv_callR en136 rfl .auto (ct_Mnext (by omega))) ?_
    refine sq_p (d := 50) (op := .call { callee := .value (.func 164), args := #[.tmp 45, .tmp 47, .tmp 49, .func 170], argTypes := #[131, 30, 30, 246] }) (ty := 4) (g := some (5, false)) (by kernel_rfl) ⟨44, by kernel_rfl, rfl⟩ (pv_callR en164 rfl (Sel.skip Sel.all) (ct_MallI (fun e => or e.credited (!e.synced)) en170 hM0 (by omega) (by omega) (Int.le_refl _) (fun e _ => pu_crash3 e))) ?_
    refine sq_q (d := 51) (op := .unOp .not 4 (.tmp 50)) (ty := 4) (g := some (5, false)) (by kernel_rfl) ⟨44, by kernel_rfl, rfl⟩ (fun _ h => nomatch h) (qv_not rfl) ?_
    refine sq_q0 52 (.pick (.tmp 44) (.const (.bool true)) (.tmp 51)) 4 (qv_pick_f rfl rfl) ?_
    refine SeqK.nil (fun β => ?_)
    refine gd_tail [] rfl (by kernel_rfl) (by kernel_rfl) ?_
    refine go_nil ?_
    exact ⟨_, by unfold crashOk2; (try simp only [hxe, hxf, hxn, Int.toNat_zero] at *); clear hxe hxf hxn hfn hnn; first | (simp [*]; done) | (simp [*]; rfl) | (simp at *; done) | (simp at *; simp [*]; done) | (simp at *; simp [*]; rw [Bool.eq_iff_iff]; simp; omega) | (simp at *; simp [*]; omega), ⟨rfl, ⟨[52, 0, 3, 4], rfl⟩, .auto⟩⟩
  rintro s ⟨z2, hz2, hs⟩
  refine ge_ok hs ?_
  refine p_cond (.tmp 52) (by kernel_rfl) rfl (fun h52 => ?_) (fun h52 => ?_)
  · replace h52 := kn h52
    have hpk : crashOk S nt = false := by unfold crashOk; rw [h52] at hz2; rw [show crashOk2 S nt = false by simpa using hz2.symm, Bool.and_false]
    refine p_seq0 ?_
    refine p_plain0 (0 :: []) ?_
    refine go_q0 4 (.assign (.const (.bool false))) 4 (qv_assign rfl) ?_
    refine go_nil ?_
    change G _ _ _ _
    refine p_weaken [0, 3, 4] rfl ?_
    refine p_ret0 ?_
    try dsimp only [thenQ, inBlockQ]
    try rw [if_pos rfl]
    refine ret_left (modO bm bf bc bl pe S.es.length ce pl S.line.length cl S.first S.boot :: mapO bf S.fw S.fc :: mapO bc S.ca S.cc :: mapO bl S.lo S.lc :: (Ae ++ (Al ++ Ar))) (.inr rfl) (.cons (res_tmp rfl) .nil) .auto ?_
    exact ⟨by rw [hpk]; rfl, .inl ⟨hpk, rfl⟩⟩
  replace h52 := kn h52
  have hpk : crashOk S nt = true := by unfold crashOk; rw [h52] at hz2; rw [hpk1, show crashOk2 S nt = true by simpa using hz2.symm]; rfl
  refine p_skip0 ?_
  change G _ _ _ _
  refine p_weaken [0, 3, 4] rfl ?_
  refine p_seq0 ?_
  refine p_draw (by kernel_rfl) mixed 23 24 [(b3, .cells nt.x.c 135 (0, 0))] (by first | (simp; done) | (intro q hq; simp [hq]; done)) (by kernel_rfl) ?_
  refine gd_q (i := 0) (d := 53) (op := .move (.tmp 0)) (ty := 131) (g := none) (by kernel_rfl) trivial rfl (by kernel_rfl) (by kernel_rfl) (by kernel_rfl) (by kernel_rfl) (qv_move rfl) ?_
  refine gd_q (i := 1) (d := 54) (op := .move (.tmp 0)) (ty := 131) (g := none) (by kernel_rfl) trivial rfl (by kernel_rfl) (by kernel_rfl) (by kernel_rfl) (by kernel_rfl) (qv_move rfl) ?_
  refine gd_q (i := 2) (d := 55) (op := .move (.tmp 0)) (ty := 131) (g := none) (by kernel_rfl) trivial rfl (by kernel_rfl) (by kernel_rfl) (by kernel_rfl) (by kernel_rfl) (qv_move rfl) ?_
  refine gd_q (i := 3) (d := 56) (op := .fieldAddr 135 (.tmp 3) 4) (ty := 0) (g := none) (by kernel_rfl) trivial rfl (by kernel_rfl) (by kernel_rfl) (by kernel_rfl) (by kernel_rfl) (qv_field rfl fd135_4) ?_
  refine gd_q (i := 4) (d := 57) (op := .load 77 (.tmp 56)) (ty := 77) (g := none) (by kernel_rfl) trivial rfl (by kernel_rfl) (by kernel_rfl) (by kernel_rfl) (by kernel_rfl) (qv_load rfl .auto (ldv_sca sc77 (get_Note_41 _))) ?_
  refine gd_q (i := 5) (d := 58) (op := .fieldAddr 135 (.tmp 3) 6) (ty := 0) (g := none) (by kernel_rfl) trivial rfl (by kernel_rfl) (by kernel_rfl) (by kernel_rfl) (by kernel_rfl) (qv_field rfl fd135_6) ?_
  refine gd_q (i := 6) (d := 59) (op := .load 30 (.tmp 58)) (ty := 30) (g := none) (by kernel_rfl) trivial rfl (by kernel_rfl) (by kernel_rfl) (by kernel_rfl) (by kernel_rfl) (qv_load rfl .auto (ldv_sca sc30 (get_Note_43 _))) ?_
  refine gd_q (i := 7) (d := 60) (op := .move (.tmp 0)) (ty := 131) (g := none) (by kernel_rfl) trivial rfl (by kernel_rfl) (by kernel_rfl) (by kernel_rfl) (by kernel_rfl) (qv_move rfl) ?_
  refine gd_q (i := 8) (d := 61) (op := .nilCheck (.tmp 60)) (ty := 0) (g := none) (by kernel_rfl) trivial rfl (by kernel_rfl) (by kernel_rfl) (by kernel_rfl) (by kernel_rfl) (qv_nilCheck rfl) ?_
  refine gd_q (i := 9) (d := 62) (op := .fieldAddr 207 (.tmp 61) 4) (ty := 0) (g := none) (by kernel_rfl) trivial rfl (by kernel_rfl) (by kernel_rfl) (by kernel_rfl) (by kernel_rfl) (qv_field rfl fd207_4) ?_
  refine gd_q (i := 11) (d := 64) (op := .fieldAddr 135 (.tmp 3) 7) (ty := 0) (g := none) (by kernel_rfl) trivial rfl (by kernel_rfl) (by kernel_rfl) (by kernel_rfl) (by kernel_rfl) (qv_field rfl fd135_7) ?_
  refine gd_q (i := 12) (d := 65) (op := .load 30 (.tmp 64)) (ty := 30) (g := none) (by kernel_rfl) trivial rfl (by kernel_rfl) (by kernel_rfl) (by kernel_rfl) (by kernel_rfl) (qv_load rfl .auto (ldv_sca sc30 (get_Note_44 _))) ?_
  refine gd_one (i := 10) (d := some 63) (op := .load 89 (.tmp 62)) (ty := 89) (g := none) (by kernel_rfl) trivial rfl (by kernel_rfl) ?_
  refine os_of_qv (Nat.le_of_ble_eq_true rfl) (qv_load rfl .auto (ldv_sca sc89 (get_Mod_4 _))) ?_
  refine ⟨fun _ h => by first | exact h | (cases h; done) | exact .tail _ h | exact .tail _ (.tail _ h) | exact List.mem_append_right _ (List.mem_append_right _ h) | exact List.mem_append_right _ h | (simp only [List.mem_cons, List.not_mem_nil, or_false] at h ⊢; first | exact .inl h | exact .inr (.inl h) | exact .inr (.inr (.inl h)) | exact .inr (.inr (.inr (.inl h))) | (subst h; simp; done) | grind), ?_⟩
  refine gd_q (i := 13) (d := 66) (op := .slice 89 (.tmp 63) none (some (.tmp 65)) none) (ty := 89) (g := none) (by kernel_rfl) trivial rfl (by kernel_rfl) (by kernel_rfl) (by kernel_rfl) (by kernel_rfl) (qv_cutO hL un89 sz3 rfl rfl hnn (by omega)) ?_
  refine gd_one (i := 14) (d := some 67) (op := .call { callee := .value (.func 138), args := #[.tmp 66], argTypes := #[89] }) (ty := 89) (g := none) (by kernel_rfl) trivial rfl (by kernel_rfl) ?_
  refine os_call (Nat.le_of_ble_eq_true rfl) en138 rfl (Sel.skip (Sel.skip (Sel.skip (Sel.skip (Sel.skip (Sel.skipA Sel.app)))))) (ct_cloneI (hL.cut nt.next.toNat).lst (by rw [List.length_take]; omega) (by rw [List.length_take]; omega)) ?_
  rintro v67 A67 ⟨p67, c67, A67, rfl, h67, rfl⟩
  try dsimp only [List.nil_append, List.cons_append]
  rw [← lnI_take] at h67 ⊢
  rw [lnI_len]
  refine ⟨fun _ h => by first | exact h | (cases h; done) | exact .tail _ h | exact .tail _ (.tail _ h) | exact List.mem_append_right _ (List.mem_append_right _ h) | exact List.mem_append_right _ h | (simp only [List.mem_cons, List.not_mem_nil, or_false] at h ⊢; first | exact .inl h | exact .inr (.inl h) | exact .inr (.inr (.inl h)) | exact .inr (.inr (.inr (.inl h))) | (subst h; simp; done) | grind), ?_⟩
  refine gd_q (i := 15) (d := 68) (op := .nilCheck (.tmp 53)) (ty := 0) (g := none) (by kernel_rfl) trivial rfl (by kernel_rfl) (by kernel_rfl) (by kernel_rfl) (by kernel_rfl) (qv_nilCheck rfl) ?_
  refine gd_q (i := 16) (d := 69) (op := .fieldAddr 207 (.tmp 68) 6) (ty := 0) (g := none) (by kernel_rfl) trivial rfl (by kernel_rfl) (by kernel_rfl) (by kernel_rfl) (by kernel_rfl) (qv_field rfl fd207_6) ?_
  refine gd_one (i := 17) (d := none) (op := .store 77 (.tmp 69) (.tmp 57)) (ty := 0) (g := none) (by kernel_rfl) trivial rfl (by kernel_rfl) ?_
  refine os_store1 rfl rfl sz77 rfl rfl .auto (Nat.le_of_ble_eq_true rfl) (set_Mod_6 _ _) ?_
  refine ⟨fun _ h => by first | exact h | (cases h; done) | exact .tail _ h | exact .tail _ (.tail _ h) | exact List.mem_append_right _ (List.mem_append_right _ h) | exact List.mem_append_right _ h | (simp only [List.mem_cons, List.not_mem_nil, or_false] at h ⊢; first | exact .inl h | exact .inr (.inl h) | exact .inr (.inr (.inl h)) | exact .inr (.inr (.inr (.inl h))) | (subst h; simp; done) | grind), ?_⟩
  refine gd_q (i := 18) (d := 70) (op := .nilCheck (.tmp 54)) (ty := 0) (g := none) (by kernel_rfl) trivial rfl (by kernel_rfl) (by kernel_rfl) (by kernel_rfl) (by kernel_rfl) (qv_nilCheck rfl) ?_
  refine gd_q (i := 19) (d := 71) (op := .fieldAddr 207 (.tmp 70) 5) (ty := 0) (g := none) (by kernel_rfl) trivial rfl (by kernel_rfl) (by kernel_rfl) (by kernel_rfl) (by kernel_rfl) (qv_field rfl fd207_5) ?_
  refine gd_one (i := 20) (d := none) (op := .store 30 (.tmp 71) (.tmp 59)) (ty := 0) (g := none) (by kernel_rfl) trivial rfl (by kernel_rfl) ?_
  refine os_store1 rfl rfl sz30 rfl rfl .auto (Nat.le_of_ble_eq_true rfl) (set_Mod_5 _ _) ?_
  refine ⟨fun _ h => by first | exact h | (cases h; done) | exact .tail _ h | exact .tail _ (.tail _ h) | exact List.mem_append_right _ (List.mem_append_right _ h) | exact List.mem_append_right _ h | (simp only [List.mem_cons, List.not_mem_nil, or_false] at h ⊢; first | exact .inl h | exact .inr (.inl h) | exact .inr (.inr (.inl h)) | exact .inr (.inr (.inr (.inl h))) | (subst h; simp; done) | grind), ?_⟩
  refine gd_one (i := 21) (d := some 72) (op := .nilCheck (.tmp 55)) (ty := 0) (g := none) (by kernel_rfl) trivial rfl (by kernel_rfl) ?_
  refine os_of_qv (Nat.le_of_ble_eq_true rfl) (qv_nilCheck rfl) ?_
  refine ⟨fun _ h => by first | exact h | (cases h; done) | exact .tail _ h | exact .tail _ (.tail _ h) | exact List.mem_append_right _ (List.mem_append_right _ h) | exact List.mem_append_right _ h | (simp only [List.mem_cons, List.not_mem_nil, or_false] at h ⊢; first | exact .inl h | exact .inr (.inl h) | exact .inr (.inr (.inl h)) | exact .inr (.inr (.inr (.inl h))) | (subst h; simp; done) | grind), ?_⟩
  refine gd_q (i := 22) (d := 73) (op := .fieldAddr 207 (.tmp 72) 4) (ty := 0) (g := none) (by kernel_rfl) trivial rfl (by kernel_rfl) (by kernel_rfl) (by kernel_rfl) (by kernel_rfl) (qv_field rfl fd207_4) ?_
  refine gd_tail [23] rfl (by kernel_rfl) (by kernel_rfl) ?_
  refine go_s0 none (.store 89 (.tmp 73) (.tmp 67)) 0 ?_
  refine os_store1 rfl rfl sz89 rfl rfl .auto (Nat.le_of_ble_eq_true rfl) (set_Mod_4 _ _) ?_
  refine go_nil ?_
  change G _ _ _ _
  refine p_weaken [0, 3, 4] rfl ?_
  refine p_seq0 ?_
  refine p_seq0 ?_
  refine p_drop ((b3, .cells nt.x.c 135 (0, 0)) :: (bm, .cells (⟨.map (some bf), .map (some bc), .map (some bl), .slice pe S.es.length ce, .slice p67 (S.line.take nt.next.toNat).length c67, nt.x.first, nt.x.epoch⟩ : Mod).c 207 (0, 0)) :: mapO bf S.fw S.fc :: mapO bc S.ca S.cc :: mapO bl S.lo S.lc :: (Ae ++ (A67 ++ Ar))) .auto ?_
  refine p_plain0 (0 :: 1 :: 2 :: 3 :: 4 :: 5 :: []) ?_
  refine go_q0 74 (.move (.tmp 0)) 131 (qv_move rfl) ?_
  refine go_q0 75 (.nilCheck (.tmp 74)) 0 (qv_nilCheck rfl) ?_
  refine go_q0 76 (.fieldAddr 207 (.tmp 75) 3) 0 (qv_field rfl fd207_3) ?_
  refine go_q0 77 (.load 136 (.tmp 76)) 136 (qv_load rfl .auto (ldv_sca sc136 (get_Mod_3 _))) ?_
  refine go_q0 78 (.call { callee := .builtin .len, args := #[.tmp 77], argTypes := #[136] }) 3 (qv_lenS un136 rfl) ?_
  refine go_q0 79 (.move (.const (.int .i64 0))) 3 (qv_move rfl) ?_
  refine go_nil ?_
  change G _ _ _ _
  refine p_weaken [0, 3, 4, 78, 79] rfl ?_
  refine p_block 0 (by kernel_rfl) ?_
  refine p_loopE (by kernel_rfl) (fun s m => ∃ (i : Nat) (es1 : List EntR) (Ae1 : Mem), (i ≤ S.es.length) ∧ (UpdT S.es es1) ∧ (∀ (j : Nat) (e' : EntR), j < i → es1[j]? = some e' → e'.there = false) ∧ (OwnL eEntR 139 pe ce es1 Ae1) ∧ Ge s ⟨[], [(0, .pointer (some ⟨bm, 0, none⟩)), (3, .pointer (some ⟨b3, 0, none⟩)), (78, .int .i64 S.es.length), (79, .int .i64 i)], (b3, .cells nt.x.c 135 (0, 0)) :: (bm, .cells (⟨.map (some bf), .map (some bc), .map (some bl), .slice pe S.es.length ce, .slice p67 (S.line.take nt.next.toNat).length c67, nt.x.first, nt.x.epoch⟩ : Mod).c 207 (0, 0)) :: mapO bf S.fw S.fc :: mapO bc S.ca S.cc :: mapO bl S.lo S.lc :: (Ae1 ++ (A67 ++ Ar))⟩ ∧ m = S.es.length + 1 - i) ?_ ?_
  · exact ⟨_, ⟨0, S.es, Ae, by omega, UpdT.refl _, fun j e' hj => absurd hj (Nat.not_lt_zero _), hE, ⟨rfl, ⟨[0, 3, 78, 79], rfl⟩, .auto⟩, rfl⟩⟩
  rintro s m ⟨i, es1, Ae1, hi, hu, hth, hE1, hs, rfl⟩
  refine ge_ok hs ?_
  refine p_seq0 ?_
  refine p_plain0 (0 :: []) ?_
  refine go_q0 80 (.binOp .lss 3 (.tmp 79) (.tmp 78) 3) 0 (qv_lss rfl rfl rfl) ?_
  refine go_nil ?_
  change G _ _ _ _
  refine p_seq0 ?_
  refine p_cond (.tmp 80) (by kernel_rfl) rfl (fun h80 => ?_) (fun h80 => ?_)
  · replace h80 := kn h80
    refine p_skip0 ?_
    change G _ _ _ _
    refine p_weaken [0, 3, 78, 79] rfl ?_
    refine p_seq0 ?_
    refine p_block 1 (by kernel_rfl) ?_
    refine p_seq0 ?_
    have hl1 : es1.length = S.es.length := hu.1.1
    obtain ⟨b, cur, hpb, hAe, hc1, hc2, hc3, H⟩ := hE1.some_ (by omega)
    obtain ⟨x, hx⟩ : ∃ x, es1[i]? = some x := ⟨_, List.getElem?_eq_getElem (by omega)⟩
    have hun := hu.set hx false x.synced (fun h => by cases h)
    have hthn : ∀ (j : Nat) (e' : EntR), j < i + 1 → (es1.set i { x with there := false })[j]? = some e' → e'.there = false := fun j e' hj he => by
      by_cases hji : j = i
      · subst hji; rw [List.getElem?_set_self (by omega)] at he; cases he; rfl
      · rw [List.getElem?_set_ne (Ne.symm hji)] at he; exact hth j e' (by omega) he
    subst hpb
    subst hAe
    refine p_plain0 (0 :: 1 :: []) ?_
    refine go_q0 81 (.move (.tmp 79)) 3 (qv_move rfl) ?_
    refine go_q0 6 (.assign (.tmp 81)) 3 (qv_assign rfl) ?_
    refine go_nil ?_
    change G _ _ _ _
    refine p_weaken [0, 3, 6, 78, 79] rfl ?_
    refine p_plain0 (0 :: 1 :: 2 :: 3 :: 4 :: 5 :: 6 :: 7 :: []) ?_
    refine go_q0 82 (.move (.tmp 0)) 131 (qv_move rfl) ?_
    refine go_q0 83 (.nilCheck (.tmp 82)) 0 (qv_nilCheck rfl) ?_
    refine go_q0 84 (.fieldAddr 207 (.tmp 83) 3) 0 (qv_field rfl fd207_3) ?_
    refine go_q0 85 (.load 136 (.tmp 84)) 136 (qv_load rfl .auto (ldv_sca sc136 (get_Mod_3 _))) ?_
    refine go_q0 86 (.move (.tmp 6)) 3 (qv_move rfl) ?_
    refine go_q0 87 (.indexAddr 136 (.tmp 85) (.tmp 86)) 0 (qv_index un136 sz139 rfl rfl rfl (by omega)) ?_
    refine go_q0 88 (.fieldAddr 139 (.tmp 87) 3) 0 (qv_field rfl fd139_3) ?_
    refine go_s0 none (.store 4 (.tmp 88) (.const (.bool false))) 0 ?_
    refine os_store1 rfl rfl sz4 rfl rfl .auto (own_fitc (E := eEntR) (k := 3) (by decide) H hx (by decide) rfl) rfl ?_
    have hEn := own_setc (E := eEntR) (e := 139) (b := b) (k := 3) (a' := { x with there := false }) (by decide) hc1 hc2 hc3 H hx (by decide) (set_Entr_3 x.x false) rfl
    refine go_nil ?_
    change G _ _ _ _
    refine p_weaken [0, 3, 78, 79] rfl ?_
    refine p_plain0 (0 :: 1 :: []) ?_
    refine go_q0 89 (.binOp .add 3 (.tmp 79) (.const (.int .i64 1)) 3) 3 (qv_add rfl rfl (by first | exact IntWalk.i64_in _ (by omega) | exact IntWalk.i64_in _ (by dsimp only; omega) | rfl)) ?_
    refine go_q0 79 (.move (.tmp 89)) 3 (qv_move rfl) ?_
    refine go_nil ?_
    exact ⟨_, ⟨i + 1, es1.set i { x with there := false }, _, by omega, hun, hthn, hEn, ⟨rfl, ⟨[0, 3, 78, 79], rfl⟩, .auto⟩, rfl⟩, by omega⟩
  replace h80 := kn h80
  refine p_exit 0 (by kernel_rfl) ?_
  change G _ _ _ _
  refine p_weaken [0, 3] rfl ?_
  refine p_seq0 ?_
  refine p_seq0 ?_
  have hie : i = S.es.length := by omega
  have hth' : ∀ e ∈ es1, e.there = true → e.synced = true := fun e he ht => by
    obtain ⟨j, hj⟩ := List.mem_iff_getElem?.1 he
    rw [hth j e (by have := (List.getElem?_eq_some_iff.1 hj).1; have := hu.1.1; omega) hj] at ht
    cases ht
  have hD := h67.vwDrop (h := nt.first.toNat) (sz := 1) (by rw [lnI_len, List.length_take]; omega) rfl
  refine p_draw (by kernel_rfl) mixed 9 9 _ (fun _ h => h) (by kernel_rfl) ?_
  refine gd_all (0 :: 1 :: 2 :: 3 :: 4 :: 5 :: 6 :: 7 :: 8 :: []) _ rfl (by kernel_rfl) (by decide) (fun _ h => h) rfl ?_
  refine sq_q0 90 (.move (.tmp 0)) 131 (qv_move rfl) ?_
  refine sq_q0 91 (.nilCheck (.tmp 90)) 0 (qv_nilCheck rfl) ?_
  refine sq_q0 92 (.fieldAddr 207 (.tmp 91) 4) 0 (qv_field rfl fd207_4) ?_
  refine sq_q0 93 (.load 89 (.tmp 92)) 89 (qv_load rfl .auto (ldv_sca sc89 (get_Mod_4 _))) ?_
  refine sq_q0 94 (.fieldAddr 135 (.tmp 3) 6) 0 (qv_field rfl fd135_6) ?_
  refine sq_q0 95 (.load 30 (.tmp 94)) 30 (qv_load rfl .auto (ldv_sca sc30 (get_Note_43 _))) ?_
  refine sq_q0 96 (.slice 89 (.tmp 93) (some (.tmp 95)) none none) 89 (qv_dropO h67 un89 sz3 rfl (lnI_len _).symm rfl hfn (by rw [lnI_len, List.length_take]; omega)) ?_
  refine sq_q0 97 (.call { callee := .builtin .len, args := #[.tmp 96], argTypes := #[89] }) 3 (qv_lenS un89 rfl) ?_
  refine sq_q0 98 (.move (.const (.int .i64 0))) 3 (qv_move rfl) ?_
  refine SeqK.nil (fun β => ?_)
  refine gd_tail [] rfl (by kernel_rfl) (by kernel_rfl) ?_
  refine go_nil ?_
  change G _ _ _ _
  refine p_weaken [0, 96, 97, 98] rfl ?_
  refine p_block 2 (by kernel_rfl) ?_
  refine p_loopE (by kernel_rfl) (fun s m => ∃ (i : Nat) (es2 : List EntR) (Ae2 : Mem), (i ≤ ((lnI (S.line.take nt.next.toNat)).drop nt.first.toNat).length) ∧ (UpdT S.es es2) ∧ (∀ e ∈ es2, e.there = true → e.synced = true) ∧ (OwnL eEntR 139 pe ce es2 Ae2) ∧ Ge s ⟨[], [(0, .pointer (some ⟨bm, 0, none⟩)), (96, .slice (dropP p67 c67 nt.first.toNat 1) ((lnI (S.line.take nt.next.toNat)).drop nt.first.toNat).length (c67 - nt.first.toNat)), (97, .int .i64 ((lnI (S.line.take nt.next.toNat)).drop nt.first.toNat).length), (98, .int .i64 i)], (bm, .cells (⟨.map (some bf), .map (some bc), .map (some bl), .slice pe S.es.length ce, .slice p67 (S.line.take nt.next.toNat).length c67, nt.x.first, nt.x.epoch⟩ : Mod).c 207 (0, 0)) :: mapO bf S.fw S.fc :: mapO bc S.ca S.cc :: mapO bl S.lo S.lc :: (Ae2 ++ (A67 ++ Ar))⟩ ∧ m = ((lnI (S.line.take nt.next.toNat)).drop nt.first.toNat).length + 1 - i) ?_ ?_
  · exact ⟨_, ⟨0, es1, Ae1, by omega, hu, hth', hE1, ⟨rfl, ⟨[0, 96, 97, 98], rfl⟩, .auto⟩, rfl⟩⟩
  rintro s m ⟨i, es2, Ae2, hi, hu2, hsy, hE2, hs, rfl⟩
  refine ge_ok hs ?_
  refine p_seq0 ?_
  refine p_plain0 (0 :: []) ?_
  refine go_q0 99 (.binOp .lss 3 (.tmp 98) (.tmp 97) 3) 0 (qv_lss rfl rfl rfl) ?_
  refine go_nil ?_
  change G _ _ _ _
  refine p_seq0 ?_
  refine p_cond (.tmp 99) (by kernel_rfl) rfl (fun h99 => ?_) (fun h99 => ?_)
  · replace h99 := kn h99
    refine p_skip0 ?_
    change G _ _ _ _
    refine p_weaken [0, 96, 97, 98] rfl ?_
    refine p_seq0 ?_
    refine p_block 3 (by kernel_rfl) ?_
    refine p_seq0 ?_
    obtain ⟨lb, lo', lcu, lee, lff, hpe, lm, LH⟩ := hD.lst.at_ (i := i) (by omega)
    obtain ⟨z', hz'⟩ : ∃ z', ((lnI (S.line.take nt.next.toNat)).drop nt.first.toNat)[i]? = some z' := ⟨_, List.getElem?_eq_getElem (by omega)⟩
    obtain ⟨k, hkm, hkz⟩ := List.mem_map.1 (List.mem_of_mem_drop (List.mem_of_getElem? hz'))
    replace hkz := hkz.symm
    subst hkz
    have hke : k < S.es.length := hI.li k (List.mem_of_mem_take hkm)
    have hl2 : es2.length = S.es.length := hu2.1.1
    obtain ⟨b, cur, hpb, hAe, hc1, hc2, hc3, H⟩ := hE2.some_ (by omega)
    obtain ⟨x, hx⟩ : ∃ x, es2[k]? = some x := ⟨_, List.getElem?_eq_getElem (by omega)⟩
    have hun2 := hu2.set hx true true (fun _ h => by cases h)
    have hsyn : ∀ e ∈ es2.set k { x with there := true, synced := true }, e.there = true → e.synced = true := fun e he ht => by
      rcases List.mem_or_eq_of_mem_set he with h | h
      · exact hsy e h ht
      · rw [h]
    have hdl : ((lnI (S.line.take nt.next.toNat)).drop nt.first.toNat).length ≤ 1000 := by rw [List.length_drop, lnI_len, List.length_take]; omega
    rw [hpe]
    subst hpb
    subst hAe
    obtain ⟨H2, hcz⟩ := holds_setc (E := eEntR) (k := 3) (v := .bool true) (a' := { x with there := true }) (by decide) H hx (by decide) (set_Entr_3 x.x true) rfl
    have hx2 : (es2.set k { x with there := true })[k]? = some { x with there := true } := List.getElem?_set_self (by omega)
    refine p_plain0 (0 :: 1 :: 2 :: []) ?_
    refine go_q0 100 (.indexAddr 89 (.tmp 96) (.tmp 98)) 0 (qv_index un89 sz3 rfl rfl rfl (by omega)) ?_
    refine go_q0 101 (.load 3 (.tmp 100)) 3 (qv_load rfl (by repeat first | exact At.of_mem (.tail _ (.tail _ (.tail _ (.tail _ (List.mem_append_right _ (List.mem_append_left _ lm)))))) | apply At.next) (ldv_el LH hz' sc3 (k := 0) rfl rfl)) ?_
    refine go_q0 8 (.assign (.tmp 101)) 3 (qv_assign rfl) ?_
    refine go_nil ?_
    change G _ _ _ _
    refine p_weaken [0, 8, 96, 97, 98] rfl ?_
    refine p_draw (by kernel_rfl) mixed 15 16 [(bm, .cells (⟨.map (some bf), .map (some bc), .map (some bl), .slice (some ⟨b, 0, none⟩) S.es.length ce, .slice p67 (S.line.take nt.next.toNat).length c67, nt.x.first, nt.x.epoch⟩ : Mod).c 207 (0, 0))] (by first | (simp; done) | (intro q hq; simp [hq]; done)) (by kernel_rfl) ?_
    refine gd_q (i := 0) (d := 102) (op := .move (.tmp 0)) (ty := 131) (g := none) (by kernel_rfl) trivial rfl (by kernel_rfl) (by kernel_rfl) (by kernel_rfl) (by kernel_rfl) (qv_move rfl) ?_
    refine gd_q (i := 1) (d := 103) (op := .nilCheck (.tmp 102)) (ty := 0) (g := none) (by kernel_rfl) trivial rfl (by kernel_rfl) (by kernel_rfl) (by kernel_rfl) (by kernel_rfl) (qv_nilCheck rfl) ?_
    refine gd_q (i := 2) (d := 104) (op := .fieldAddr 207 (.tmp 103) 3) (ty := 0) (g := none) (by kernel_rfl) trivial rfl (by kernel_rfl) (by kernel_rfl) (by kernel_rfl) (by kernel_rfl) (qv_field rfl fd207_3) ?_
    refine gd_q (i := 3) (d := 105) (op := .load 136 (.tmp 104)) (ty := 136) (g := none) (by kernel_rfl) trivial rfl (by kernel_rfl) (by kernel_rfl) (by kernel_rfl) (by kernel_rfl) (qv_load rfl .auto (ldv_sca sc136 (get_Mod_3 _))) ?_
    refine gd_q (i := 4) (d := 106) (op := .move (.tmp 8)) (ty := 3) (g := none) (by kernel_rfl) trivial rfl (by kernel_rfl) (by kernel_rfl) (by kernel_rfl) (by kernel_rfl) (qv_move rfl) ?_
    refine gd_q (i := 5) (d := 107) (op := .move (.tmp 0)) (ty := 131) (g := none) (by kernel_rfl) trivial rfl (by kernel_rfl) (by kernel_rfl) (by kernel_rfl) (by kernel_rfl) (qv_move rfl) ?_
    refine gd_q (i := 6) (d := 108) (op := .nilCheck (.tmp 107)) (ty := 0) (g := none) (by kernel_rfl) trivial rfl (by kernel_rfl) (by kernel_rfl) (by kernel_rfl) (by kernel_rfl) (qv_nilCheck rfl) ?_
    refine gd_q (i := 7) (d := 109) (op := .fieldAddr 207 (.tmp 108) 3) (ty := 0) (g := none) (by kernel_rfl) trivial rfl (by kernel_rfl) (by kernel_rfl) (by kernel_rfl) (by kernel_rfl) (qv_field rfl fd207_3) ?_
    refine gd_q (i := 8) (d := 110) (op := .load 136 (.tmp 109)) (ty := 136) (g := none) (by kernel_rfl) trivial rfl (by kernel_rfl) (by kernel_rfl) (by kernel_rfl) (by kernel_rfl) (qv_load rfl .auto (ldv_sca sc136 (get_Mod_3 _))) ?_
    refine gd_q (i := 9) (d := 111) (op := .move (.tmp 8)) (ty := 3) (g := none) (by kernel_rfl) trivial rfl (by kernel_rfl) (by kernel_rfl) (by kernel_rfl) (by kernel_rfl) (qv_move rfl) ?_
    refine gd_q (i := 10) (d := 112) (op := .indexAddr 136 (.tmp 105) (.tmp 106)) (ty := 0) (g := none) (by kernel_rfl) trivial rfl (by kernel_rfl) (by kernel_rfl) (by kernel_rfl) (by kernel_rfl) (qv_index un136 sz139 rfl rfl rfl (by omega)) ?_
    refine gd_q (i := 11) (d := 113) (op := .fieldAddr 139 (.tmp 112) 3) (ty := 0) (g := none) (by kernel_rfl) trivial rfl (by kernel_rfl) (by kernel_rfl) (by kernel_rfl) (by kernel_rfl) (qv_field rfl fd139_3) ?_
    refine gd_one (i := 12) (d := none) (op := .store 4 (.tmp 113) (.const (.bool true))) (ty := 0) (g := none) (by kernel_rfl) trivial rfl (by kernel_rfl) ?_
    refine os_store1 rfl rfl sz4 rfl rfl .auto (own_fitc (E := eEntR) (k := 3) (by decide) H hx (by decide) rfl) rfl ?_
    refine ⟨fun _ h => by first | exact h | (cases h; done) | exact .tail _ h | exact .tail _ (.tail _ h) | exact List.mem_append_right _ (List.mem_append_right _ h) | exact List.mem_append_right _ h | (simp only [List.mem_cons, List.not_mem_nil, or_false] at h ⊢; first | exact .inl h | exact .inr (.inl h) | exact .inr (.inr (.inl h)) | exact .inr (.inr (.inr (.inl h))) | (subst h; simp; done) | grind), ?_⟩
    refine gd_one (i := 13) (d := some 114) (op := .indexAddr 136 (.tmp 110) (.tmp 111)) (ty := 0) (g := none) (by kernel_rfl) trivial rfl (by kernel_rfl) ?_
    refine os_of_qv (Nat.le_of_ble_eq_true rfl) (qv_index un136 sz139 rfl rfl rfl (by omega)) ?_
    refine ⟨fun _ h => by first | exact h | (cases h; done) | exact .tail _ h | exact .tail _ (.tail _ h) | exact List.mem_append_right _ (List.mem_append_right _ h) | exact List.mem_append_right _ h | (simp only [List.mem_cons, List.not_mem_nil, or_false] at h ⊢; first | exact .inl h | exact .inr (.inl h) | exact .inr (.inr (.inl h)) | exact .inr (.inr (.inr (.inl h))) | (subst h; simp; done) | grind), ?_⟩
    refine gd_q (i := 14) (d := 115) (op := .fieldAddr 139 (.tmp 114) 4) (ty := 0) (g := none) (by kernel_rfl) trivial rfl (by kernel_rfl) (by kernel_rfl) (by kernel_rfl) (by kernel_rfl) (qv_field rfl fd139_4) ?_
    refine gd_tail [15] rfl (by kernel_rfl) (by kernel_rfl) ?_
    refine go_s0 none (.store 4 (.tmp 115) (.const (.bool true))) 0 ?_
    refine os_store1 rfl rfl sz4 rfl rfl .auto (own_fitc (E := eEntR) (k := 4) (by decide) H2 hx2 (by decide) rfl) rfl ?_
    have hEn2 := own_setc (E := eEntR) (e := 139) (b := b) (k := 4) (a' := { x with there := true, synced := true }) (by decide) (by rw [List.length_set]; exact hc1) hc2 (by rw [hcz]; exact hc3) H2 hx2 (by decide) (set_Entr_4 ({ x with there := true } : EntR).x true) rfl
    rw [List.set_set] at hEn2
    refine go_nil ?_
    change G _ _ _ _
    refine p_weaken [0, 96, 97, 98] rfl ?_
    refine p_plain0 (0 :: 1 :: []) ?_
    refine go_q0 116 (.binOp .add 3 (.tmp 98) (.const (.int .i64 1)) 3) 3 (qv_add rfl rfl (by first | exact IntWalk.i64_in _ (by omega) | exact IntWalk.i64_in _ (by dsimp only; omega) | rfl)) ?_
    refine go_q0 98 (.move (.tmp 116)) 3 (qv_move rfl) ?_
    refine go_nil ?_
    exact ⟨_, ⟨i + 1, es2.set k { x with there := true, synced := true }, _, by omega, hun2, hsyn, hEn2, ⟨rfl, ⟨[0, 96, 97, 98], rfl⟩, .auto⟩, rfl⟩, by omega⟩
  replace h99 := kn h99
  refine p_exit 2 (by kernel_rfl) ?_
  change G _ _ _ _
  refine p_weaken [0] rfl ?_
  refine p_seq0 ?_
  refine p_seq0 ?_
  refine p_plain0 (0 :: 1 :: 2 :: 3 :: 4 :: []) ?_
  refine go_q0 117 (.move (.tmp 0)) 131 (qv_move rfl) ?_
  refine go_q0 118 (.nilCheck (.tmp 117)) 0 (qv_nilCheck rfl) ?_
  refine go_q0 119 (.fieldAddr 207 (.tmp 118) 1) 0 (qv_field rfl fd207_1) ?_
  refine go_q0 120 (.load 205 (.tmp 119)) 205 (qv_load rfl .auto (ldv_sca sc205 (get_Mod_1 _))) ?_
  refine go_s0 (some 121) (.range 205 (.tmp 120)) 0 ?_
  refine os_rangeT rfl rfl rfl .auto (fun bi => ?_)
  refine go_nil ?_
  change G _ _ _ _
  refine p_weaken [0, 121] rfl ?_
  refine p_block 4 (by kernel_rfl) ?_
  refine p_loopE (by kernel_rfl) (fun s m => ∃ (sn : Array Nat) (ls : Nat) (l2 : List MEnt) (c2 : Nat), (S.cc ≤ ls) ∧ (MOk l2 c2) ∧ (S.ca = [] → l2 = S.lo ∧ c2 = S.lc) ∧ Ge s ⟨[], [(0, .pointer (some ⟨bm, 0, none⟩)), (121, .pointer (some ⟨bi, 0, none⟩))], itO bi bc S.cc sn ls :: (bm, .cells (⟨.map (some bf), .map (some bc), .map (some bl), .slice pe S.es.length ce, .slice p67 (S.line.take nt.next.toNat).length c67, nt.x.first, nt.x.epoch⟩ : Mod).c 207 (0, 0)) :: mapO bf S.fw S.fc :: mapO bc S.ca S.cc :: mapO bl l2 c2 :: (Ae2 ++ (A67 ++ Ar))⟩ ∧ m = unseen S.ca sn + 1) ?_ ?_
  · exact ⟨_, ⟨#[], S.cc, S.lo, S.lc, Nat.le_refl _, hI.l, fun _ => ⟨rfl, rfl⟩, ⟨rfl, ⟨[0, 121], rfl⟩, .auto⟩, rfl⟩⟩
  rintro s m ⟨sn, ls, l2, c2, hls, hm2, hemp, hs, rfl⟩
  refine ge_ok hs ?_
  refine p_seq0 ?_
  refine p_plain0 (0 :: 1 :: []) ?_
  refine go_s0 (some 122) (.next (.tmp 121) false) 0 ?_
  refine os_nextS (fun sn' ls' => itO bi bc S.cc sn' ls' :: (bm, .cells (⟨.map (some bf), .map (some bc), .map (some bl), .slice pe S.es.length ce, .slice p67 (S.line.take nt.next.toNat).length c67, nt.x.first, nt.x.epoch⟩ : Mod).c 207 (0, 0)) :: mapO bf S.fw S.fc :: mapO bc S.ca S.cc :: mapO bl l2 c2 :: (Ae2 ++ (A67 ++ Ar))) rfl rfl .auto .auto hI.c.lt hls (Nat.le_refl _) (fun sn' ls' => Up.here) (fun mt tv sn' ls' ht0 hmF hmT hls' => ?_)
  refine go_q0 123 (.extract (.tmp 122) 0) 4 (qv_extract (v := .bool mt) rfl ht0) ?_
  refine go_nil ?_
  change G _ _ _ _
  refine p_weaken [0, 121, 123] rfl ?_
  refine p_seq0 ?_
  refine p_cond (.tmp 123) (by kernel_rfl) rfl (fun h123 => ?_) (fun h123 => ?_)
  rotate_left
  · replace h123 := kn h123
    refine p_exit 4 (by kernel_rfl) ?_
    change G _ _ _ _
    refine p_weaken [0] rfl ?_
    refine p_seq0 ?_
    refine p_plain0 (0 :: 1 :: 2 :: 3 :: 4 :: []) ?_
    refine go_q0 134 (.move (.tmp 0)) 131 (qv_move rfl) ?_
    refine go_q0 135 (.nilCheck (.tmp 134)) 0 (qv_nilCheck rfl) ?_
    refine go_q0 136 (.fieldAddr 207 (.tmp 135) 1) 0 (qv_field rfl fd207_1) ?_
    refine go_q0 137 (.load 205 (.tmp 136)) 205 (qv_load rfl .auto (ldv_sca sc205 (get_Mod_1 _))) ?_
    refine go_s0 none (.call { callee := .builtin .clear, args := #[.tmp 137], argTypes := #[205] }) 0 ?_
    refine os_clearT rfl rfl Up.autoM ?_
    refine go_nil ?_
    change G _ _ _ _
    refine p_weaken [] rfl ?_
    refine p_seq0 ?_
    refine p_plain0 (0 :: []) ?_
    refine go_q0 4 (.assign (.const (.bool true))) 4 (qv_assign rfl) ?_
    refine go_nil ?_
    change G _ _ _ _
    refine p_ret0 ?_
    try dsimp only [thenQ, inBlockQ]
    try rw [if_pos rfl]
    refine ret_left (modO bm bf bc bl pe S.es.length ce p67 (S.line.take nt.next.toNat).length c67 nt.x.first nt.x.epoch :: mapO bf S.fw S.fc :: mapO bc [] S.cc :: mapO bl l2 c2 :: (Ae2 ++ (A67 ++ Ar))) (.inr rfl) (.cons (res_tmp rfl) .nil) .auto ?_
    exact ⟨by rw [hpk]; rfl, .inr ⟨hpk, es2, l2, c2, hu2, hsy, hemp, bf, bc, bl, pe, ce, p67, c67, Ae2, A67, Ar, { hI.setEs hu2.1 with c := MOk.nil _, l := hm2, fi := hw.first_, bo := hw.epoch_, ln := (by show (S.line.take nt.next.toNat).length ≤ es2.length; rw [List.length_take, hu2.1.1]; omega), li := fun i hi => (by show i < es2.length; rw [hu2.1.1]; exact hI.li i (List.mem_of_mem_take hi)) }, hE2, h67, hu2.1.lst hA, by rw [hu2.1.1]; rfl⟩⟩
  replace h123 := kn h123
  obtain ⟨x, hxl, hxs, hsn', hlc'⟩ := hmT h123
  subst hsn'
  subst hlc'
  have hlt := unseen_lt hxl hxs
  have hkx := hI.c.kw x hxl
  have htx := hI.c.tw x hxl
  have hmn := hm2.add hkx htx
  refine p_skip0 ?_
  change G _ _ _ _
  refine p_weaken [0, 121] rfl ?_
  refine p_block 5 (by kernel_rfl) ?_
  refine p_seq0 ?_
  refine p_plain0 (0 :: 1 :: 2 :: 3 :: 4 :: 5 :: 6 :: []) ?_
  refine go_q0 124 (.entry (.tmp 121)) 0 (qv_entryT rfl .auto .auto hxl hI.c.nd) ?_
  refine go_q0 125 (.extract (.tmp 124) 0) 27 (qv_extract (v := .agg x.key.c) rfl rfl) ?_
  refine go_q0 126 (.extract (.tmp 124) 1) 32 (qv_extract (v := .agg x.tot.c) rfl rfl) ?_
  refine go_s0 (some 9) (.alloc 27) 0 ?_
  refine os_allocA rfl ze27 (fun b9 => ?_)
  refine go_s0 (some 10) (.alloc 32) 0 ?_
  refine os_allocA rfl ze32 (fun b10 => ?_)
  refine go_s0 none (.store 27 (.tmp 9) (.tmp 125)) 0 ?_
  refine os_store rfl rfl sz27 rfl (one_Key _) .auto (Nat.le_of_ble_eq_true rfl) (splw_Key _ _ (siz_Key _)) ?_
  refine go_s0 none (.store 32 (.tmp 10) (.tmp 126)) 0 ?_
  refine os_store rfl rfl sz32 rfl (one_Tot _) .auto (Nat.le_of_ble_eq_true rfl) (splw_Tot _ _ (siz_Tot _)) ?_
  refine go_nil ?_
  change G _ _ _ _
  refine p_weaken [0, 9, 10, 121] rfl ?_
  refine p_draw (by kernel_rfl) mixed 6 7 _ (fun _ h => h) (by kernel_rfl) ?_
  refine gd_all (0 :: 1 :: 2 :: 3 :: 4 :: 5 :: []) _ rfl (by kernel_rfl) (by decide) (fun _ h => h) rfl ?_
  refine sq_q0 127 (.move (.tmp 0)) 131 (qv_move rfl) ?_
  refine sq_q0 128 (.nilCheck (.tmp 127)) 0 (qv_nilCheck rfl) ?_
  refine sq_q0 129 (.fieldAddr 207 (.tmp 128) 2) 0 (qv_field rfl fd207_2) ?_
  refine sq_q0 130 (.load 205 (.tmp 129)) 205 (qv_load rfl .auto (ldv_sca sc205 (get_Mod_2 _))) ?_
  refine sq_q0 131 (.load 27 (.tmp 9)) 27 (qv_load rfl .auto (ldv_agg agg27 (extw_Key _) (Nat.le_of_ble_eq_true rfl))) ?_
  refine sq_q0 132 (.load 32 (.tmp 10)) 32 (qv_load rfl .auto (ldv_agg agg32 (extw_Tot _) (Nat.le_of_ble_eq_true rfl))) ?_
  refine SeqK.nil (fun β => ?_)
  refine gd_tail [6] rfl (by kernel_rfl) (by kernel_rfl) ?_
  refine go_s0 (some 133) (.call { callee := .value (.func 162), args := #[.tmp 130, .tmp 131, .tmp 132], argTypes := #[205, 27, 32] }) 0 ?_
  refine os_call (Nat.le_of_ble_eq_true rfl) en162 rfl .auto (ct_addT (k := x.key) hm2 htx) ?_
  rintro v133 A133 ⟨rfl, rfl⟩
  try dsimp only [List.nil_append, List.cons_append]
  refine go_nil ?_
  exact ⟨_, ⟨sn.push x.born, _, _, _, hls', hmn, fun h => (by rw [h] at hxl; cases hxl), ⟨rfl, ⟨[0, 121], rfl⟩, .auto⟩, rfl⟩, by omega⟩
end Go.Proofs.Ytobmcpoejhhemaa
