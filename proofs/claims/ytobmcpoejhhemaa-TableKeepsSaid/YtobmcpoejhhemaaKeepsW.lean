/- The law TableKeeps: the walk. -/
import Derived.Test.YtobmcpoejhhemaaKeeps
namespace Go.Proofs.Ytobmcpoejhhemaa
open Go.E

theorem ct_TableKeepsBad (s : Int) (acts : List Act23) (R : Mem) (pl : Option Addr) (cl : Nat) (hb : okSize s = false) :
    Ct Try.prog 6 [.int .i64 s, .slice pl acts.length cl].toArray R (fun v M' => v = .bool true ∧ M' = R) := by
  refine ct_body (rv := [.tmp 4]) [(0, _), (1, _)] Try.func6 (by kernel_rfl) Try.ntmps6 Try.results6 rfl rfl (fun w0 => ?_)
  refine p_seq (by kernel_rfl) ?_
  refine p_plain (by kernel_rfl) (0 :: []) (by kernel_rfl) ?_
  refine go_q (d := 4) (op := .assign (.const (.bool false))) (ty := 4) (g := none) (by kernel_rfl) trivial rfl (qv_assign rfl) ?_
  refine go_nil ?_
  change G _ _ _ _
  refine p_seq (by kernel_rfl) ?_
  refine p_seq (by kernel_rfl) ?_
  refine p_plain (by kernel_rfl) (0 :: 1 :: 2 :: 3 :: 4 :: 5 :: 6 :: []) (by kernel_rfl) ?_
  refine go_q (d := 22) (op := .move (.tmp 0)) (ty := 3) (g := none) (by kernel_rfl) trivial rfl (qv_move rfl) ?_
  refine go_q (d := 23) (op := .binOp .gtr 3 (.tmp 22) (.const (.int .i64 64)) 3) (ty := 4) (g := none) (by kernel_rfl) trivial rfl (qv_gtr rfl rfl rfl) ?_
  refine go_q (d := 24) (op := .move (.tmp 23)) (ty := 4) (g := none) (by kernel_rfl) trivial rfl (qv_move rfl) ?_
  refine go_case (d := 24) rfl (fun g24 => ?_) (fun g24 => ?_)
  · try first | replace g24 := t_nd g24 | replace g24 := f_nd g24 | replace g24 := t_nbb g24 | replace g24 := f_nbb g24 | replace g24 := t_not g24 | replace g24 := f_not g24 | replace g24 := t_eq g24 | replace g24 := f_eq g24 | replace g24 := t_ne g24 | replace g24 := f_ne g24 | replace g24 := t_bb g24 | replace g24 := f_bb g24 | replace g24 := of_decide_eq_true g24 | replace g24 := of_decide_eq_false g24
    refine go_n (d := 25) (op := .move (.tmp 1)) (ty := 82) (g := some (2, false)) (by kernel_rfl) ⟨24, _, by kernel_rfl, rfl, rfl⟩ rfl ?_
    refine go_n (d := 26) (op := .call { callee := .builtin .len, args := #[.tmp 25], argTypes := #[82] }) (ty := 3) (g := some (2, false)) (by kernel_rfl) ⟨24, _, by kernel_rfl, rfl, rfl⟩ rfl ?_
    refine go_n (d := 27) (op := .binOp .gtr 3 (.tmp 26) (.const (.int .i64 60)) 3) (ty := 4) (g := some (2, false)) (by kernel_rfl) ⟨24, _, by kernel_rfl, rfl, rfl⟩ rfl ?_
    refine go_q (d := 28) (op := .pick (.tmp 24) (.const (.bool true)) (.tmp 27)) (ty := 4) (g := none) (by kernel_rfl) trivial rfl (qv_pick_t rfl rfl) ?_
    refine go_nil ?_
    change G _ _ _ _
    refine p_weaken [0, 1, 4, 28] rfl ?_
    refine p_condT (.tmp 28) (by kernel_rfl) rfl ?_
    refine p_seq (by kernel_rfl) ?_
    refine p_plain (by kernel_rfl) (0 :: 1 :: []) (by kernel_rfl) ?_
    refine go_s (d := some 29) (op := .call { callee := .value (.func 38), args := #[], argTypes := #[] }) (ty := 4) (g := none) (by kernel_rfl) trivial ?_
    refine os_callP rfl en38 rfl (pu_works23) ?_
    refine go_q (d := 4) (op := .assign (.tmp 29)) (ty := 4) (g := none) (by kernel_rfl) trivial rfl (qv_assign rfl) ?_
    refine go_nil ?_
    change G _ _ _ _
    refine p_weaken [0, 1, 4] rfl ?_
    refine p_ret (by kernel_rfl) ?_
    try dsimp only [thenQ, inBlockQ]
    try rw [if_pos rfl]
    refine ret_left (R) (.inr rfl) (.cons (res_tmp rfl) .nil) (by first | ((repeat first | exact .refl | exact Sb.app | apply Sb.keep | apply Sb.app_keep | apply Sb.skip | apply Sb.app_skip); done) | exact Sb.of_cnt fun x => by (simp only [List.count_append, List.count_cons, List.count_nil]; omega)) ?_
    exact ⟨rfl, rfl⟩
  · try first | replace g24 := t_nd g24 | replace g24 := f_nd g24 | replace g24 := t_nbb g24 | replace g24 := f_nbb g24 | replace g24 := t_not g24 | replace g24 := f_not g24 | replace g24 := t_eq g24 | replace g24 := f_eq g24 | replace g24 := t_ne g24 | replace g24 := f_ne g24 | replace g24 := t_bb g24 | replace g24 := f_bb g24 | replace g24 := of_decide_eq_true g24 | replace g24 := of_decide_eq_false g24
    refine go_q (d := 25) (op := .move (.tmp 1)) (ty := 82) (g := some (2, false)) (by kernel_rfl) ⟨24, by kernel_rfl, rfl⟩ rfl (qv_move rfl) ?_
    refine go_q (d := 26) (op := .call { callee := .builtin .len, args := #[.tmp 25], argTypes := #[82] }) (ty := 3) (g := some (2, false)) (by kernel_rfl) ⟨24, by kernel_rfl, rfl⟩ rfl (qv_lenS un82 rfl) ?_
    refine go_q (d := 27) (op := .binOp .gtr 3 (.tmp 26) (.const (.int .i64 60)) 3) (ty := 4) (g := some (2, false)) (by kernel_rfl) ⟨24, by kernel_rfl, rfl⟩ rfl (qv_gtr rfl rfl rfl) ?_
    refine go_q (d := 28) (op := .pick (.tmp 24) (.const (.bool true)) (.tmp 27)) (ty := 4) (g := none) (by kernel_rfl) trivial rfl (qv_pick_f rfl rfl) ?_
    refine go_nil ?_
    change G _ _ _ _
    refine p_weaken [0, 1, 4, 28] rfl ?_
    refine p_cond (.tmp 28) (by kernel_rfl) rfl (fun h28 => ?_) (fun h28 => ?_)
    · try first | replace h28 := t_nd h28 | replace h28 := f_nd h28 | replace h28 := t_nbb h28 | replace h28 := f_nbb h28 | replace h28 := t_not h28 | replace h28 := f_not h28 | replace h28 := t_eq h28 | replace h28 := f_eq h28 | replace h28 := t_ne h28 | replace h28 := f_ne h28 | replace h28 := t_bb h28 | replace h28 := f_bb h28 | replace h28 := of_decide_eq_true h28 | replace h28 := of_decide_eq_false h28
      refine p_seq (by kernel_rfl) ?_
      refine p_plain (by kernel_rfl) (0 :: 1 :: []) (by kernel_rfl) ?_
      refine go_s (d := some 29) (op := .call { callee := .value (.func 38), args := #[], argTypes := #[] }) (ty := 4) (g := none) (by kernel_rfl) trivial ?_
      refine os_callP rfl en38 rfl (pu_works23) ?_
      refine go_q (d := 4) (op := .assign (.tmp 29)) (ty := 4) (g := none) (by kernel_rfl) trivial rfl (qv_assign rfl) ?_
      refine go_nil ?_
      change G _ _ _ _
      refine p_weaken [0, 1, 4] rfl ?_
      refine p_ret (by kernel_rfl) ?_
      try dsimp only [thenQ, inBlockQ]
      try rw [if_pos rfl]
      refine ret_left (R) (.inr rfl) (.cons (res_tmp rfl) .nil) (by first | ((repeat first | exact .refl | exact Sb.app | apply Sb.keep | apply Sb.app_keep | apply Sb.skip | apply Sb.app_skip); done) | exact Sb.of_cnt fun x => by (simp only [List.count_append, List.count_cons, List.count_nil]; omega)) ?_
      exact ⟨rfl, rfl⟩
    · try first | replace h28 := t_nd h28 | replace h28 := f_nd h28 | replace h28 := t_nbb h28 | replace h28 := f_nbb h28 | replace h28 := t_not h28 | replace h28 := f_not h28 | replace h28 := t_eq h28 | replace h28 := f_eq h28 | replace h28 := t_ne h28 | replace h28 := f_ne h28 | replace h28 := t_bb h28 | replace h28 := f_bb h28 | replace h28 := of_decide_eq_true h28 | replace h28 := of_decide_eq_false h28
      refine p_skip (by kernel_rfl) ?_
      change G _ _ _ _
      refine p_weaken [0, 1, 4] rfl ?_
      refine p_seq (by kernel_rfl) ?_
      refine p_plain (by kernel_rfl) (0 :: 1 :: 2 :: 3 :: 4 :: 5 :: 6 :: []) (by kernel_rfl) ?_
      refine go_q (d := 31) (op := .move (.tmp 0)) (ty := 3) (g := none) (by kernel_rfl) trivial rfl (qv_move rfl) ?_
      refine go_s (d := some 32) (op := .call { callee := .value (.func 39), args := #[.tmp 31], argTypes := #[3] }) (ty := 84) (g := none) (by kernel_rfl) trivial ?_
      refine os_callP rfl en39 rfl (pu_NewBad s hb) ?_
      refine go_q (d := 30) (op := .move (.tmp 32)) (ty := 84) (g := none) (by kernel_rfl) trivial rfl (qv_move rfl) ?_
      refine go_q (d := 33) (op := .extract (.tmp 30) 0) (ty := 83) (g := none) (by kernel_rfl) trivial rfl (qv_extract rfl rfl) ?_
      refine go_q (d := 34) (op := .extract (.tmp 30) 1) (ty := 61) (g := none) (by kernel_rfl) trivial rfl (qv_extract rfl rfl) ?_
      refine go_q (d := 5) (op := .assign (.tmp 33)) (ty := 83) (g := none) (by kernel_rfl) trivial rfl (qv_assign rfl) ?_
      refine go_q (d := 6) (op := .assign (.tmp 34)) (ty := 61) (g := none) (by kernel_rfl) trivial rfl (qv_assign rfl) ?_
      refine go_nil ?_
      change G _ _ _ _
      refine p_weaken [0, 1, 4, 5, 6] rfl ?_
      refine p_seq (by kernel_rfl) ?_
      refine p_seq (by kernel_rfl) ?_
      refine p_plain (by kernel_rfl) (0 :: 1 :: []) (by kernel_rfl) ?_
      refine go_q (d := 35) (op := .move (.tmp 6)) (ty := 61) (g := none) (by kernel_rfl) trivial rfl (qv_move rfl) ?_
      refine go_q (d := 36) (op := .binOp .neq 61 (.tmp 35) (.const (.int .i64 0)) 61) (ty := 4) (g := none) (by kernel_rfl) trivial rfl (qv_neq (b := true) rfl rfl (by decide)) ?_
      refine go_nil ?_
      change G _ _ _ _
      refine p_weaken [0, 1, 4, 5, 36] rfl ?_
      refine p_condT (.tmp 36) (by kernel_rfl) rfl ?_
      refine p_seq (by kernel_rfl) ?_
      refine p_plain (by kernel_rfl) (0 :: 1 :: 2 :: 3 :: 4 :: 5 :: []) (by kernel_rfl) ?_
      refine go_q (d := 37) (op := .move (.tmp 5)) (ty := 83) (g := none) (by kernel_rfl) trivial rfl (qv_move rfl) ?_
      refine go_q (d := 38) (op := .binOp .eql 83 (.tmp 37) (.const (.pointer none)) 83) (ty := 4) (g := none) (by kernel_rfl) trivial rfl (qv_eqlP un83 rfl) ?_
      refine go_q (d := 39) (op := .move (.tmp 38)) (ty := 4) (g := none) (by kernel_rfl) trivial rfl (qv_move rfl) ?_
      refine go_s (d := some 40) (op := .call { callee := .value (.func 38), args := #[], argTypes := #[] }) (ty := 4) (g := some (2, true)) (by kernel_rfl) ⟨39, by kernel_rfl, rfl⟩ ?_
      refine os_callP rfl en38 rfl (pu_works23) ?_
      refine go_q (d := 41) (op := .pick (.tmp 39) (.tmp 40) (.const (.bool false))) (ty := 4) (g := none) (by kernel_rfl) trivial rfl (qv_pick_t rfl rfl) ?_
      refine go_q (d := 4) (op := .assign (.tmp 41)) (ty := 4) (g := none) (by kernel_rfl) trivial rfl (qv_assign rfl) ?_
      refine go_nil ?_
      change G _ _ _ _
      refine p_weaken [0, 1, 4, 5] rfl ?_
      refine p_ret (by kernel_rfl) ?_
      try dsimp only [thenQ, inBlockQ]
      try rw [if_pos rfl]
      refine ret_left (R) (.inr rfl) (.cons (res_tmp rfl) .nil) (by first | ((repeat first | exact .refl | exact Sb.app | apply Sb.keep | apply Sb.app_keep | apply Sb.skip | apply Sb.app_skip); done) | exact Sb.of_cnt fun x => by (simp only [List.count_append, List.count_cons, List.count_nil]; omega)) ?_
      exact ⟨rfl, rfl⟩

theorem ct_TableKeeps (n : Nat) (acts : List Act23) (R : Mem) (pl : Option Addr) (cl : Nat) (hok : okSize n = true) (hl : Lst eAct23 pl acts R) (hwf : ∀ a ∈ acts, a.k.Wf) :
    Ct Try.prog 6 [.int .i64 n, .slice pl acts.length cl].toArray R (fun v M' => v = .bool true ∧ M' = R) := by
  obtain ⟨hn1, hn2, hn3⟩ := okSize_pos hok
  refine ct_body (rv := [.tmp 4]) [(0, _), (1, _)] Try.func6 (by kernel_rfl) Try.ntmps6 Try.results6 rfl rfl (fun w0 => ?_)
  refine p_seq (by kernel_rfl) ?_
  refine p_plain (by kernel_rfl) (0 :: []) (by kernel_rfl) ?_
  refine go_q (d := 4) (op := .assign (.const (.bool false))) (ty := 4) (g := none) (by kernel_rfl) trivial rfl (qv_assign rfl) ?_
  refine go_nil ?_
  change G _ _ _ _
  refine p_seq (by kernel_rfl) ?_
  refine p_seq (by kernel_rfl) ?_
  refine p_plain (by kernel_rfl) (0 :: 1 :: 2 :: 3 :: 4 :: 5 :: 6 :: []) (by kernel_rfl) ?_
  refine go_q (d := 22) (op := .move (.tmp 0)) (ty := 3) (g := none) (by kernel_rfl) trivial rfl (qv_move rfl) ?_
  refine go_q (d := 23) (op := .binOp .gtr 3 (.tmp 22) (.const (.int .i64 64)) 3) (ty := 4) (g := none) (by kernel_rfl) trivial rfl (qv_gtr rfl rfl rfl) ?_
  refine go_q (d := 24) (op := .move (.tmp 23)) (ty := 4) (g := none) (by kernel_rfl) trivial rfl (qv_move rfl) ?_
  refine go_case (d := 24) rfl (fun g24 => ?_) (fun g24 => ?_)
  · try first | replace g24 := t_nd g24 | replace g24 := f_nd g24 | replace g24 := t_nbb g24 | replace g24 := f_nbb g24 | replace g24 := t_not g24 | replace g24 := f_not g24 | replace g24 := t_eq g24 | replace g24 := f_eq g24 | replace g24 := t_ne g24 | replace g24 := f_ne g24 | replace g24 := t_bb g24 | replace g24 := f_bb g24 | replace g24 := of_decide_eq_true g24 | replace g24 := of_decide_eq_false g24
    refine go_n (d := 25) (op := .move (.tmp 1)) (ty := 82) (g := some (2, false)) (by kernel_rfl) ⟨24, _, by kernel_rfl, rfl, rfl⟩ rfl ?_
    refine go_n (d := 26) (op := .call { callee := .builtin .len, args := #[.tmp 25], argTypes := #[82] }) (ty := 3) (g := some (2, false)) (by kernel_rfl) ⟨24, _, by kernel_rfl, rfl, rfl⟩ rfl ?_
    refine go_n (d := 27) (op := .binOp .gtr 3 (.tmp 26) (.const (.int .i64 60)) 3) (ty := 4) (g := some (2, false)) (by kernel_rfl) ⟨24, _, by kernel_rfl, rfl, rfl⟩ rfl ?_
    refine go_q (d := 28) (op := .pick (.tmp 24) (.const (.bool true)) (.tmp 27)) (ty := 4) (g := none) (by kernel_rfl) trivial rfl (qv_pick_t rfl rfl) ?_
    refine go_nil ?_
    change G _ _ _ _
    refine p_weaken [0, 1, 4, 28] rfl ?_
    refine p_condT (.tmp 28) (by kernel_rfl) rfl ?_
    refine p_seq (by kernel_rfl) ?_
    refine p_plain (by kernel_rfl) (0 :: 1 :: []) (by kernel_rfl) ?_
    refine go_s (d := some 29) (op := .call { callee := .value (.func 38), args := #[], argTypes := #[] }) (ty := 4) (g := none) (by kernel_rfl) trivial ?_
    refine os_callP rfl en38 rfl (pu_works23) ?_
    refine go_q (d := 4) (op := .assign (.tmp 29)) (ty := 4) (g := none) (by kernel_rfl) trivial rfl (qv_assign rfl) ?_
    refine go_nil ?_
    change G _ _ _ _
    refine p_weaken [0, 1, 4] rfl ?_
    refine p_ret (by kernel_rfl) ?_
    try dsimp only [thenQ, inBlockQ]
    try rw [if_pos rfl]
    refine ret_left (R) (.inr rfl) (.cons (res_tmp rfl) .nil) (by first | ((repeat first | exact .refl | exact Sb.app | apply Sb.keep | apply Sb.app_keep | apply Sb.skip | apply Sb.app_skip); done) | exact Sb.of_cnt fun x => by (simp only [List.count_append, List.count_cons, List.count_nil]; omega)) ?_
    exact ⟨rfl, rfl⟩
  · try first | replace g24 := t_nd g24 | replace g24 := f_nd g24 | replace g24 := t_nbb g24 | replace g24 := f_nbb g24 | replace g24 := t_not g24 | replace g24 := f_not g24 | replace g24 := t_eq g24 | replace g24 := f_eq g24 | replace g24 := t_ne g24 | replace g24 := f_ne g24 | replace g24 := t_bb g24 | replace g24 := f_bb g24 | replace g24 := of_decide_eq_true g24 | replace g24 := of_decide_eq_false g24
    refine go_q (d := 25) (op := .move (.tmp 1)) (ty := 82) (g := some (2, false)) (by kernel_rfl) ⟨24, by kernel_rfl, rfl⟩ rfl (qv_move rfl) ?_
    refine go_q (d := 26) (op := .call { callee := .builtin .len, args := #[.tmp 25], argTypes := #[82] }) (ty := 3) (g := some (2, false)) (by kernel_rfl) ⟨24, by kernel_rfl, rfl⟩ rfl (qv_lenS un82 rfl) ?_
    refine go_q (d := 27) (op := .binOp .gtr 3 (.tmp 26) (.const (.int .i64 60)) 3) (ty := 4) (g := some (2, false)) (by kernel_rfl) ⟨24, by kernel_rfl, rfl⟩ rfl (qv_gtr rfl rfl rfl) ?_
    refine go_q (d := 28) (op := .pick (.tmp 24) (.const (.bool true)) (.tmp 27)) (ty := 4) (g := none) (by kernel_rfl) trivial rfl (qv_pick_f rfl rfl) ?_
    refine go_nil ?_
    change G _ _ _ _
    refine p_weaken [0, 1, 4, 28] rfl ?_
    refine p_cond (.tmp 28) (by kernel_rfl) rfl (fun h28 => ?_) (fun h28 => ?_)
    · try first | replace h28 := t_nd h28 | replace h28 := f_nd h28 | replace h28 := t_nbb h28 | replace h28 := f_nbb h28 | replace h28 := t_not h28 | replace h28 := f_not h28 | replace h28 := t_eq h28 | replace h28 := f_eq h28 | replace h28 := t_ne h28 | replace h28 := f_ne h28 | replace h28 := t_bb h28 | replace h28 := f_bb h28 | replace h28 := of_decide_eq_true h28 | replace h28 := of_decide_eq_false h28
      refine p_seq (by kernel_rfl) ?_
      refine p_plain (by kernel_rfl) (0 :: 1 :: []) (by kernel_rfl) ?_
      refine go_s (d := some 29) (op := .call { callee := .value (.func 38), args := #[], argTypes := #[] }) (ty := 4) (g := none) (by kernel_rfl) trivial ?_
      refine os_callP rfl en38 rfl (pu_works23) ?_
      refine go_q (d := 4) (op := .assign (.tmp 29)) (ty := 4) (g := none) (by kernel_rfl) trivial rfl (qv_assign rfl) ?_
      refine go_nil ?_
      change G _ _ _ _
      refine p_weaken [0, 1, 4] rfl ?_
      refine p_ret (by kernel_rfl) ?_
      try dsimp only [thenQ, inBlockQ]
      try rw [if_pos rfl]
      refine ret_left (R) (.inr rfl) (.cons (res_tmp rfl) .nil) (by first | ((repeat first | exact .refl | exact Sb.app | apply Sb.keep | apply Sb.app_keep | apply Sb.skip | apply Sb.app_skip); done) | exact Sb.of_cnt fun x => by (simp only [List.count_append, List.count_cons, List.count_nil]; omega)) ?_
      exact ⟨rfl, rfl⟩
    · try first | replace h28 := t_nd h28 | replace h28 := f_nd h28 | replace h28 := t_nbb h28 | replace h28 := f_nbb h28 | replace h28 := t_not h28 | replace h28 := f_not h28 | replace h28 := t_eq h28 | replace h28 := f_eq h28 | replace h28 := t_ne h28 | replace h28 := f_ne h28 | replace h28 := t_bb h28 | replace h28 := f_bb h28 | replace h28 := of_decide_eq_true h28 | replace h28 := of_decide_eq_false h28
      refine p_skip (by kernel_rfl) ?_
      change G _ _ _ _
      refine p_weaken [0, 1, 4] rfl ?_
      refine p_seq (by kernel_rfl) ?_
      refine p_plain (by kernel_rfl) (0 :: 1 :: 2 :: 3 :: 4 :: 5 :: 6 :: []) (by kernel_rfl) ?_
      refine go_q (d := 31) (op := .move (.tmp 0)) (ty := 3) (g := none) (by kernel_rfl) trivial rfl (qv_move rfl) ?_
      refine go_s (d := some 32) (op := .call { callee := .value (.func 39), args := #[.tmp 31], argTypes := #[3] }) (ty := 84) (g := none) (by kernel_rfl) trivial ?_
      refine os_call (Nat.le_of_ble_eq_true rfl) en39 rfl (by first | ((repeat constructor); done) | (repeat first | exact Sel.nil | exact Sel.all | exact Sel.app | (apply Sel.cons; focus (repeat first | exact Tk.here | apply Tk.next | apply Tk.app)) | apply Sel.skip | apply Sel.skipA)) (ct_New n (by omega) (by omega) hn3) ?_
      rintro v32 A32 ⟨bt, bs, rfl, rfl⟩
      try dsimp only [List.nil_append, List.cons_append]
      refine go_q (d := 30) (op := .move (.tmp 32)) (ty := 84) (g := none) (by kernel_rfl) trivial rfl (qv_move rfl) ?_
      refine go_q (d := 33) (op := .extract (.tmp 30) 0) (ty := 83) (g := none) (by kernel_rfl) trivial rfl (qv_extract rfl rfl) ?_
      refine go_q (d := 34) (op := .extract (.tmp 30) 1) (ty := 61) (g := none) (by kernel_rfl) trivial rfl (qv_extract rfl rfl) ?_
      refine go_q (d := 5) (op := .assign (.tmp 33)) (ty := 83) (g := none) (by kernel_rfl) trivial rfl (qv_assign rfl) ?_
      refine go_q (d := 6) (op := .assign (.tmp 34)) (ty := 61) (g := none) (by kernel_rfl) trivial rfl (qv_assign rfl) ?_
      refine go_nil ?_
      change G _ _ _ _
      refine p_weaken [0, 1, 4, 5, 6] rfl ?_
      refine p_seq (by kernel_rfl) ?_
      refine p_seq (by kernel_rfl) ?_
      refine p_plain (by kernel_rfl) (0 :: 1 :: []) (by kernel_rfl) ?_
      refine go_q (d := 35) (op := .move (.tmp 6)) (ty := 61) (g := none) (by kernel_rfl) trivial rfl (qv_move rfl) ?_
      refine go_q (d := 36) (op := .binOp .neq 61 (.tmp 35) (.const (.int .i64 0)) 61) (ty := 4) (g := none) (by kernel_rfl) trivial rfl (qv_neq (b := false) rfl rfl (by decide)) ?_
      refine go_nil ?_
      change G _ _ _ _
      refine p_weaken [0, 1, 4, 5, 36] rfl ?_
      refine p_condF (.tmp 36) (by kernel_rfl) rfl ?_
      refine p_skip (by kernel_rfl) ?_
      change G _ _ _ _
      refine p_weaken [0, 1, 4, 5] rfl ?_
      refine p_seq (by kernel_rfl) ?_
      have hn := Pow.of_ok hok (by omega)
      refine p_plain (by kernel_rfl) (0 :: []) (by kernel_rfl) ?_
      refine go_q (d := 7) (op := .assign (.const (.slice none 0 0))) (ty := 86) (g := none) (by kernel_rfl) trivial rfl (qv_assign rfl) ?_
      refine go_nil ?_
      change G _ _ _ _
      refine p_seq (by kernel_rfl) ?_
      refine p_plain (by kernel_rfl) (0 :: []) (by kernel_rfl) ?_
      refine go_q (d := 8) (op := .assign (.const (.slice none 0 0))) (ty := 29) (g := none) (by kernel_rfl) trivial rfl (qv_assign rfl) ?_
      refine go_nil ?_
      change G _ _ _ _
      refine p_seq (by kernel_rfl) ?_
      refine p_seq (by kernel_rfl) ?_
      refine p_plain (by kernel_rfl) (0 :: []) (by kernel_rfl) ?_
      refine go_q (d := 9) (op := .assign (.const (.int .i64 0))) (ty := 3) (g := none) (by kernel_rfl) trivial rfl (qv_assign rfl) ?_
      refine go_nil ?_
      change G _ _ _ _
      refine p_block 0 (by kernel_rfl) ?_
      refine p_loopE (by kernel_rfl) (fun s m => ∃ (i : Nat) (L : List Slot) (ks : List Key) (ns : List Int) (p7 : Option Addr) (c7 : Nat) (A7 : Mem) (p8 : Option Addr) (c8 : Nat) (A8 : Mem), (i ≤ acts.length) ∧ (Kp n L ks ns) ∧ (OwnL eKey 27 p7 c7 ks A7) ∧ (OwnL (eI .u64) 30 p8 c8 ns A8) ∧ Ge s ⟨[], [(0, .int .i64 n), (1, .slice pl acts.length cl), (5, .pointer (some ⟨bt, 0, none⟩)), (7, .slice p7 ks.length c7), (8, .slice p8 ns.length c8), (9, .int .i64 i)], tabO bt bs n ks.length :: slotO bs L :: (A7 ++ (A8 ++ R))⟩ ∧ m = acts.length + 1 - i) ?_ ?_
      · exact ⟨_, ⟨0, List.replicate n zeroS, [], [], none, 0, [], none, 0, [], by omega, Kp.new n, OwnL.nil, OwnL.nil, ⟨rfl, ⟨[0, 1, 5, 7, 8, 9], rfl⟩, (by first | ((repeat first | exact .refl | exact Sb.app | apply Sb.keep | apply Sb.app_keep | apply Sb.skip | apply Sb.app_skip); done) | exact Sb.of_cnt fun x => by (simp only [List.count_append, List.count_cons, List.count_nil]; omega))⟩, rfl⟩⟩
      · rintro s m ⟨i, L, ks, ns, p7, c7, A7, p8, c8, A8, hi, hK, h7, h8, hs, rfl⟩
        refine ge_ok hs ?_
        refine p_seq (by kernel_rfl) ?_
        refine p_seq (by kernel_rfl) ?_
        refine p_plain (by kernel_rfl) (0 :: 1 :: 2 :: 3 :: []) (by kernel_rfl) ?_
        refine go_q (d := 42) (op := .move (.tmp 9)) (ty := 3) (g := none) (by kernel_rfl) trivial rfl (qv_move rfl) ?_
        refine go_q (d := 43) (op := .move (.tmp 1)) (ty := 82) (g := none) (by kernel_rfl) trivial rfl (qv_move rfl) ?_
        refine go_q (d := 44) (op := .call { callee := .builtin .len, args := #[.tmp 43], argTypes := #[82] }) (ty := 3) (g := none) (by kernel_rfl) trivial rfl (qv_lenS un82 rfl) ?_
        refine go_q (d := 45) (op := .binOp .lss 3 (.tmp 42) (.tmp 44) 3) (ty := 4) (g := none) (by kernel_rfl) trivial rfl (qv_lss rfl rfl rfl) ?_
        refine go_nil ?_
        change G _ _ _ _
        refine p_weaken [0, 1, 5, 7, 8, 9, 45] rfl ?_
        refine p_cond (.tmp 45) (by kernel_rfl) rfl (fun h45 => ?_) (fun h45 => ?_)
        · try first | replace h45 := t_nd h45 | replace h45 := f_nd h45 | replace h45 := t_nbb h45 | replace h45 := f_nbb h45 | replace h45 := t_not h45 | replace h45 := f_not h45 | replace h45 := t_eq h45 | replace h45 := f_eq h45 | replace h45 := t_ne h45 | replace h45 := f_ne h45 | replace h45 := t_bb h45 | replace h45 := f_bb h45 | replace h45 := of_decide_eq_true h45 | replace h45 := of_decide_eq_false h45
          refine p_skip (by kernel_rfl) ?_
          change G _ _ _ _
          refine p_weaken [0, 1, 5, 7, 8, 9] rfl ?_
          refine p_seq (by kernel_rfl) ?_
          refine p_block 1 (by kernel_rfl) ?_
          refine p_seq (by kernel_rfl) ?_
          obtain ⟨ba, oa, ca, ea, fa, rfl, ma, Ha⟩ := hl.at_ (i := i) (by omega)
          obtain ⟨a, hx⟩ : ∃ a, acts[i]? = some a := ⟨_, List.getElem?_eq_getElem (by omega)⟩
          have hkw := hwf a (List.mem_of_getElem? hx)
          have hle := hK.le
          have hnlen := hK.len
          refine p_plain (by kernel_rfl) (0 :: 1 :: 2 :: 3 :: 4 :: 5 :: []) (by kernel_rfl) ?_
          refine go_q (d := 48) (op := .move (.tmp 1)) (ty := 82) (g := none) (by kernel_rfl) trivial rfl (qv_move rfl) ?_
          refine go_q (d := 49) (op := .move (.tmp 9)) (ty := 3) (g := none) (by kernel_rfl) trivial rfl (qv_move rfl) ?_
          refine go_q (d := 50) (op := .indexAddr 82 (.tmp 48) (.tmp 49)) (ty := 0) (g := none) (by kernel_rfl) trivial rfl (qv_index un82 sz88 rfl rfl rfl (by omega)) ?_
          refine go_q (d := 51) (op := .load 88 (.tmp 50)) (ty := 88) (g := none) (by kernel_rfl) trivial rfl (qv_load rfl (At.of_mem (by repeat first | exact ma | exact List.mem_append_left _ ma | apply List.mem_cons_of_mem | apply List.mem_append_right)) (ldv_els Ha hx (by decide) agg88 rfl)) ?_
          refine go_s (d := some 10) (op := .alloc 88) (ty := 0) (g := none) (by kernel_rfl) trivial ?_
          refine os_allocA rfl ze88 (fun b10 => ?_)
          refine go_s (d := none) (op := .store 88 (.tmp 10) (.tmp 51)) (ty := 0) (g := none) (by kernel_rfl) trivial ?_
          refine os_store rfl rfl sz88 rfl (one_Act23 _) (by repeat first | exact .here | apply Up.next | apply Up.app) (Nat.le_of_ble_eq_true rfl) (splw_Act23 _ _ (siz_Act23 _)) ?_
          refine go_nil ?_
          change G _ _ _ _
          refine p_weaken [0, 1, 5, 7, 8, 9, 10] rfl ?_
          refine p_seq (by kernel_rfl) ?_
          refine p_plain (by kernel_rfl) (0 :: []) (by kernel_rfl) ?_
          refine go_q (d := 11) (op := .assign (.const (.int .i64 (-1)))) (ty := 3) (g := none) (by kernel_rfl) trivial rfl (qv_assign rfl) ?_
          refine go_nil ?_
          change G _ _ _ _
          refine p_seq (by kernel_rfl) ?_
          refine p_seq (by kernel_rfl) ?_
          refine p_plain (by kernel_rfl) (0 :: []) (by kernel_rfl) ?_
          refine go_q (d := 12) (op := .assign (.const (.int .i64 0))) (ty := 3) (g := none) (by kernel_rfl) trivial rfl (qv_assign rfl) ?_
          refine go_nil ?_
          change G _ _ _ _
          refine p_block 2 (by kernel_rfl) ?_
          refine p_loopE (by kernel_rfl) (fun s m => ∃ (j : Nat) (z : Int), (j ≤ ks.length) ∧ (AtI ks a.k j z) ∧ Ge s ⟨[], [(0, .int .i64 n), (1, .slice (some ⟨ba, oa, none⟩) acts.length cl), (5, .pointer (some ⟨bt, 0, none⟩)), (7, .slice p7 ks.length c7), (8, .slice p8 ns.length c8), (9, .int .i64 i), (10, .pointer (some ⟨b10, 0, none⟩)), (11, .int .i64 z), (12, .int .i64 j)], (b10, .cells a.c 88 (0, 0)) :: tabO bt bs n ks.length :: slotO bs L :: (A7 ++ (A8 ++ R))⟩ ∧ m = ks.length + 1 - j) ?_ ?_
          · exact ⟨_, ⟨0, -1, by omega, .inl ⟨rfl, fun m hm => absurd hm (by omega)⟩, ⟨rfl, ⟨[0, 1, 5, 7, 8, 9, 10, 11, 12], rfl⟩, (by first | ((repeat first | exact .refl | exact Sb.app | apply Sb.keep | apply Sb.app_keep | apply Sb.skip | apply Sb.app_skip); done) | exact Sb.of_cnt fun x => by (simp only [List.count_append, List.count_cons, List.count_nil]; omega))⟩, rfl⟩⟩
          · rintro s m ⟨j, z, hj, hz, hs, rfl⟩
            refine ge_ok hs ?_
            refine p_seq (by kernel_rfl) ?_
            refine p_seq (by kernel_rfl) ?_
            refine p_plain (by kernel_rfl) (0 :: 1 :: 2 :: 3 :: []) (by kernel_rfl) ?_
            refine go_q (d := 52) (op := .move (.tmp 12)) (ty := 3) (g := none) (by kernel_rfl) trivial rfl (qv_move rfl) ?_
            refine go_q (d := 53) (op := .move (.tmp 7)) (ty := 86) (g := none) (by kernel_rfl) trivial rfl (qv_move rfl) ?_
            refine go_q (d := 54) (op := .call { callee := .builtin .len, args := #[.tmp 53], argTypes := #[86] }) (ty := 3) (g := none) (by kernel_rfl) trivial rfl (qv_lenS un86 rfl) ?_
            refine go_q (d := 55) (op := .binOp .lss 3 (.tmp 52) (.tmp 54) 3) (ty := 4) (g := none) (by kernel_rfl) trivial rfl (qv_lss rfl rfl rfl) ?_
            refine go_nil ?_
            change G _ _ _ _
            refine p_weaken [0, 1, 5, 7, 8, 9, 10, 11, 12, 55] rfl ?_
            refine p_cond (.tmp 55) (by kernel_rfl) rfl (fun h55 => ?_) (fun h55 => ?_)
            · try first | replace h55 := t_nd h55 | replace h55 := f_nd h55 | replace h55 := t_nbb h55 | replace h55 := f_nbb h55 | replace h55 := t_not h55 | replace h55 := f_not h55 | replace h55 := t_eq h55 | replace h55 := f_eq h55 | replace h55 := t_ne h55 | replace h55 := f_ne h55 | replace h55 := t_bb h55 | replace h55 := f_bb h55 | replace h55 := of_decide_eq_true h55 | replace h55 := of_decide_eq_false h55
              refine p_skip (by kernel_rfl) ?_
              change G _ _ _ _
              refine p_weaken [0, 1, 5, 7, 8, 9, 10, 11, 12] rfl ?_
              refine p_seq (by kernel_rfl) ?_
              refine p_block 3 (by kernel_rfl) ?_
              refine p_seq (by kernel_rfl) ?_
              obtain ⟨b7, o7, cur7, e7, f7, rfl, m7, H7⟩ := h7.lst.at_ (i := j) (by omega)
              obtain ⟨x, hk⟩ : ∃ x, ks[j]? = some x := ⟨_, List.getElem?_eq_getElem (by omega)⟩
              refine p_draw (by kernel_rfl) mixed 7 7 _ (fun _ h => h) (by kernel_rfl) ?_
              refine gd_all (0 :: 1 :: 2 :: 3 :: 4 :: 5 :: 6 :: []) _ rfl (by kernel_rfl) (by decide) (fun _ h => h) rfl ?_
              refine sq_q (d := 58) (op := .move (.tmp 7)) (ty := 86) (g := none) (by kernel_rfl) trivial (fun _ h => nomatch h) (qv_move rfl) ?_
              refine sq_q (d := 59) (op := .move (.tmp 12)) (ty := 3) (g := none) (by kernel_rfl) trivial (fun _ h => nomatch h) (qv_move rfl) ?_
              refine sq_q (d := 60) (op := .indexAddr 86 (.tmp 58) (.tmp 59)) (ty := 0) (g := none) (by kernel_rfl) trivial (fun _ h => nomatch h) (qv_index un86 sz27 rfl rfl rfl (by omega)) ?_
              refine sq_q (d := 61) (op := .load 27 (.tmp 60)) (ty := 27) (g := none) (by kernel_rfl) trivial (fun _ h => nomatch h) (qv_load rfl (At.of_mem (by repeat first | exact m7 | exact List.mem_append_left _ m7 | apply List.mem_cons_of_mem | apply List.mem_append_right)) (ldv_els H7 hk (by decide) agg27 rfl)) ?_
              refine sq_q (d := 62) (op := .fieldAddr 88 (.tmp 10) 1) (ty := 0) (g := none) (by kernel_rfl) trivial (fun _ h => nomatch h) (qv_field rfl fd88_1) ?_
              refine sq_q (d := 63) (op := .load 27 (.tmp 62)) (ty := 27) (g := none) (by kernel_rfl) trivial (fun _ h => nomatch h) (qv_load rfl (by repeat first | exact .here | apply At.next | apply At.app) (ldv_agg agg27 (ext_Act23_1_37 _) (Nat.le_of_ble_eq_true rfl))) ?_
              refine sq_q (d := 64) (op := .binOp .eql 27 (.tmp 61) (.tmp 63) 27) (ty := 4) (g := none) (by kernel_rfl) trivial (fun _ h => nomatch h) (qv_eql_27 rfl rfl rfl) ?_
              refine SeqK.nil (fun β => ?_)
              refine gd_tail [] rfl (by kernel_rfl) (by kernel_rfl) ?_
              refine go_nil ?_
              change G _ _ _ _
              refine p_weaken [0, 1, 5, 7, 8, 9, 10, 11, 12, 64] rfl ?_
              refine p_cond (.tmp 64) (by kernel_rfl) rfl (fun h64 => ?_) (fun h64 => ?_)
              · try first | replace h64 := t_nd h64 | replace h64 := f_nd h64 | replace h64 := t_nbb h64 | replace h64 := f_nbb h64 | replace h64 := t_not h64 | replace h64 := f_not h64 | replace h64 := t_eq h64 | replace h64 := f_eq h64 | replace h64 := t_ne h64 | replace h64 := f_ne h64 | replace h64 := t_bb h64 | replace h64 := f_bb h64 | replace h64 := of_decide_eq_true h64 | replace h64 := of_decide_eq_false h64
                refine p_plain (by kernel_rfl) (0 :: 1 :: []) (by kernel_rfl) ?_
                refine go_q (d := 65) (op := .move (.tmp 12)) (ty := 3) (g := none) (by kernel_rfl) trivial rfl (qv_move rfl) ?_
                refine go_q (d := 11) (op := .assign (.tmp 65)) (ty := 3) (g := none) (by kernel_rfl) trivial rfl (qv_assign rfl) ?_
                refine go_nil ?_
                change G _ _ _ _
                refine p_weaken [0, 1, 5, 7, 8, 9, 10, 11, 12] rfl ?_
                refine p_plain (by kernel_rfl) (0 :: 1 :: 2 :: []) (by kernel_rfl) ?_
                refine go_q (d := 56) (op := .move (.tmp 12)) (ty := 3) (g := none) (by kernel_rfl) trivial rfl (qv_move rfl) ?_
                refine go_q (d := 57) (op := .binOp .add 3 (.tmp 56) (.const (.int .i64 1)) 3) (ty := 3) (g := none) (by kernel_rfl) trivial rfl (qv_add rfl rfl (by first | exact IntWalk.i64_in _ (by omega) | exact IntWalk.i64_in _ (by dsimp only; omega) | rfl)) ?_
                refine go_q (d := 12) (op := .assign (.tmp 57)) (ty := 3) (g := none) (by kernel_rfl) trivial rfl (qv_assign rfl) ?_
                refine go_nil ?_
                exact ⟨_, ⟨j + 1, _, by omega, by first | exact hz.no hk h64 | exact AtI.yes hk h64, ⟨rfl, ⟨[0, 1, 5, 7, 8, 9, 10, 11, 12], rfl⟩, (by first | ((repeat first | exact .refl | exact Sb.app | apply Sb.keep | apply Sb.app_keep | apply Sb.skip | apply Sb.app_skip); done) | exact Sb.of_cnt fun x => by (simp only [List.count_append, List.count_cons, List.count_nil]; omega))⟩, rfl⟩, by omega⟩
              · try first | replace h64 := t_nd h64 | replace h64 := f_nd h64 | replace h64 := t_nbb h64 | replace h64 := f_nbb h64 | replace h64 := t_not h64 | replace h64 := f_not h64 | replace h64 := t_eq h64 | replace h64 := f_eq h64 | replace h64 := t_ne h64 | replace h64 := f_ne h64 | replace h64 := t_bb h64 | replace h64 := f_bb h64 | replace h64 := of_decide_eq_true h64 | replace h64 := of_decide_eq_false h64
                refine p_skip (by kernel_rfl) ?_
                change G _ _ _ _
                refine p_weaken [0, 1, 5, 7, 8, 9, 10, 11, 12] rfl ?_
                refine p_plain (by kernel_rfl) (0 :: 1 :: 2 :: []) (by kernel_rfl) ?_
                refine go_q (d := 56) (op := .move (.tmp 12)) (ty := 3) (g := none) (by kernel_rfl) trivial rfl (qv_move rfl) ?_
                refine go_q (d := 57) (op := .binOp .add 3 (.tmp 56) (.const (.int .i64 1)) 3) (ty := 3) (g := none) (by kernel_rfl) trivial rfl (qv_add rfl rfl (by first | exact IntWalk.i64_in _ (by omega) | exact IntWalk.i64_in _ (by dsimp only; omega) | rfl)) ?_
                refine go_q (d := 12) (op := .assign (.tmp 57)) (ty := 3) (g := none) (by kernel_rfl) trivial rfl (qv_assign rfl) ?_
                refine go_nil ?_
                exact ⟨_, ⟨j + 1, _, by omega, by first | exact hz.no hk h64 | exact AtI.yes hk h64, ⟨rfl, ⟨[0, 1, 5, 7, 8, 9, 10, 11, 12], rfl⟩, (by first | ((repeat first | exact .refl | exact Sb.app | apply Sb.keep | apply Sb.app_keep | apply Sb.skip | apply Sb.app_skip); done) | exact Sb.of_cnt fun x => by (simp only [List.count_append, List.count_cons, List.count_nil]; omega))⟩, rfl⟩, by omega⟩
            · try first | replace h55 := t_nd h55 | replace h55 := f_nd h55 | replace h55 := t_nbb h55 | replace h55 := f_nbb h55 | replace h55 := t_not h55 | replace h55 := f_not h55 | replace h55 := t_eq h55 | replace h55 := f_eq h55 | replace h55 := t_ne h55 | replace h55 := f_ne h55 | replace h55 := t_bb h55 | replace h55 := f_bb h55 | replace h55 := of_decide_eq_true h55 | replace h55 := of_decide_eq_false h55
              refine p_exit 2 (by kernel_rfl) ?_
              change G _ _ _ _
              refine p_weaken [0, 1, 5, 7, 8, 9, 10, 11] rfl ?_
              refine p_seq (by kernel_rfl) ?_
              have hjl : j = ks.length := by omega
              subst hjl
              refine p_plain (by kernel_rfl) (0 :: []) (by kernel_rfl) ?_
              refine go_q (d := 13) (op := .assign (.const (.slice none 0 0))) (ty := 89) (g := none) (by kernel_rfl) trivial rfl (qv_assign rfl) ?_
              refine go_nil ?_
              change G _ _ _ _
              refine p_seq (by kernel_rfl) ?_
              refine p_seq (by kernel_rfl) ?_
              refine p_plain (by kernel_rfl) (0 :: []) (by kernel_rfl) ?_
              refine go_q (d := 14) (op := .assign (.const (.int .i64 0))) (ty := 3) (g := none) (by kernel_rfl) trivial rfl (qv_assign rfl) ?_
              refine go_nil ?_
              change G _ _ _ _
              refine p_block 4 (by kernel_rfl) ?_
              refine p_loopE (by kernel_rfl) (fun s m => ∃ (j : Nat) (bf : List Int) (p13 : Option Addr) (c13 : Nat) (A13 : Mem), (j ≤ ks.length) ∧ (bf = (ks.take j).map (probesV L)) ∧ (OwnL (eI .i64) 3 p13 c13 bf A13) ∧ Ge s ⟨[], [(0, .int .i64 n), (1, .slice (some ⟨ba, oa, none⟩) acts.length cl), (5, .pointer (some ⟨bt, 0, none⟩)), (7, .slice p7 ks.length c7), (8, .slice p8 ns.length c8), (9, .int .i64 i), (10, .pointer (some ⟨b10, 0, none⟩)), (11, .int .i64 z), (13, .slice p13 bf.length c13), (14, .int .i64 j)], A13 ++ ((b10, .cells a.c 88 (0, 0)) :: tabO bt bs n ks.length :: slotO bs L :: (A7 ++ (A8 ++ R)))⟩ ∧ m = ks.length + 1 - j) ?_ ?_
              · exact ⟨_, ⟨0, [], none, 0, [], by omega, rfl, OwnL.nil, ⟨rfl, ⟨[0, 1, 5, 7, 8, 9, 10, 11, 13, 14], rfl⟩, (by first | ((repeat first | exact .refl | exact Sb.app | apply Sb.keep | apply Sb.app_keep | apply Sb.skip | apply Sb.app_skip); done) | exact Sb.of_cnt fun x => by (simp only [List.count_append, List.count_cons, List.count_nil]; omega))⟩, rfl⟩⟩
              · rintro s m ⟨j, bf, p13, c13, A13, hj, hbf, h13, hs, rfl⟩
                refine ge_ok hs ?_
                refine p_seq (by kernel_rfl) ?_
                refine p_seq (by kernel_rfl) ?_
                refine p_plain (by kernel_rfl) (0 :: 1 :: 2 :: 3 :: []) (by kernel_rfl) ?_
                refine go_q (d := 66) (op := .move (.tmp 14)) (ty := 3) (g := none) (by kernel_rfl) trivial rfl (qv_move rfl) ?_
                refine go_q (d := 67) (op := .move (.tmp 7)) (ty := 86) (g := none) (by kernel_rfl) trivial rfl (qv_move rfl) ?_
                refine go_q (d := 68) (op := .call { callee := .builtin .len, args := #[.tmp 67], argTypes := #[86] }) (ty := 3) (g := none) (by kernel_rfl) trivial rfl (qv_lenS un86 rfl) ?_
                refine go_q (d := 69) (op := .binOp .lss 3 (.tmp 66) (.tmp 68) 3) (ty := 4) (g := none) (by kernel_rfl) trivial rfl (qv_lss rfl rfl rfl) ?_
                refine go_nil ?_
                change G _ _ _ _
                refine p_weaken [0, 1, 5, 7, 8, 9, 10, 11, 13, 14, 69] rfl ?_
                refine p_cond (.tmp 69) (by kernel_rfl) rfl (fun h69 => ?_) (fun h69 => ?_)
                · try first | replace h69 := t_nd h69 | replace h69 := f_nd h69 | replace h69 := t_nbb h69 | replace h69 := f_nbb h69 | replace h69 := t_not h69 | replace h69 := f_not h69 | replace h69 := t_eq h69 | replace h69 := f_eq h69 | replace h69 := t_ne h69 | replace h69 := f_ne h69 | replace h69 := t_bb h69 | replace h69 := f_bb h69 | replace h69 := of_decide_eq_true h69 | replace h69 := of_decide_eq_false h69
                  refine p_skip (by kernel_rfl) ?_
                  change G _ _ _ _
                  refine p_weaken [0, 1, 5, 7, 8, 9, 10, 11, 13, 14] rfl ?_
                  refine p_seq (by kernel_rfl) ?_
                  refine p_block 5 (by kernel_rfl) ?_
                  obtain ⟨b7, o7, cur7, e7, f7, rfl, m7, H7⟩ := h7.lst.at_ (i := j) (by omega)
                  obtain ⟨x, hk⟩ : ∃ x, ks[j]? = some x := ⟨_, List.getElem?_eq_getElem (by omega)⟩
                  have hxw := hK.kwf x (List.mem_of_getElem? hk)
                  have hbl : bf.length = j := by rw [hbf]; simp; omega
                  refine p_plain (by kernel_rfl) (0 :: 1 :: 2 :: 3 :: 4 :: 5 :: 6 :: 7 :: 8 :: 9 :: []) (by kernel_rfl) ?_
                  refine go_q (d := 72) (op := .move (.tmp 13)) (ty := 89) (g := none) (by kernel_rfl) trivial rfl (qv_move rfl) ?_
                  refine go_q (d := 73) (op := .move (.tmp 5)) (ty := 83) (g := none) (by kernel_rfl) trivial rfl (qv_move rfl) ?_
                  refine go_q (d := 74) (op := .move (.tmp 7)) (ty := 86) (g := none) (by kernel_rfl) trivial rfl (qv_move rfl) ?_
                  refine go_q (d := 75) (op := .move (.tmp 14)) (ty := 3) (g := none) (by kernel_rfl) trivial rfl (qv_move rfl) ?_
                  refine go_q (d := 76) (op := .indexAddr 86 (.tmp 74) (.tmp 75)) (ty := 0) (g := none) (by kernel_rfl) trivial rfl (qv_index un86 sz27 rfl rfl rfl (by omega)) ?_
                  refine go_q (d := 77) (op := .load 27 (.tmp 76)) (ty := 27) (g := none) (by kernel_rfl) trivial rfl (qv_load rfl (At.of_mem (by repeat first | exact m7 | exact List.mem_append_left _ m7 | apply List.mem_cons_of_mem | apply List.mem_append_right)) (ldv_els H7 hk (by decide) agg27 rfl)) ?_
                  refine go_s (d := some 78) (op := .call { callee := .value (.func 40), args := #[.tmp 73, .tmp 77], argTypes := #[83, 27] }) (ty := 3) (g := none) (by kernel_rfl) trivial ?_
                  refine os_pv rfl (pv_callR en40 rfl (by first | ((repeat constructor); done) | (repeat first | exact Sel.nil | exact Sel.all | exact Sel.app | (apply Sel.cons; focus (repeat first | exact Tk.here | apply Tk.next | apply Tk.app)) | apply Sel.skip | apply Sel.skipA)) (ct_ProbesV (many := ks.length) (bs := bs) hK.L_len hxw (by omega) (by omega))) ?_
                  refine go_s (d := some 79) (op := .buildSlice 89 1 #[(0, .tmp 78)]) (ty := 89) (g := none) (by kernel_rfl) trivial ?_
                  refine os_buildSlice (Nat.le_of_ble_eq_true rfl) rfl (bls89_1 _) (fun b79 => ?_)
                  refine go_s (d := some 80) (op := .call { callee := .builtin .append, args := #[.tmp 72, .tmp 79], argTypes := #[89, 89] }) (ty := 89) (g := none) (by kernel_rfl) trivial ?_
                  refine os_appendK (E := eI .i64) (l := bf) (l2 := [probesV L x]) rfl el89 rfl rfl rfl rfl h13 (by first | ((repeat constructor); done) | (repeat first | exact Sel.nil | exact Sel.all | exact Sel.app | (apply Sel.cons; focus (repeat first | exact Tk.here | apply Tk.next | apply Tk.app)) | apply Sel.skip | apply Sel.skipA)) (by repeat first | exact .here | apply At.next | apply At.app) (holds_one _) (eI_one _) (by simp [maxLen] <;> omega) (by simp <;> omega) (fun p80 c80 A80 h80 => ?_)
                  refine go_q (d := 13) (op := .assign (.tmp 80)) (ty := 89) (g := none) (by kernel_rfl) trivial rfl (qv_assign rfl) ?_
                  refine go_nil ?_
                  change G _ _ _ _
                  refine p_weaken [0, 1, 5, 7, 8, 9, 10, 11, 13, 14] rfl ?_
                  refine p_plain (by kernel_rfl) (0 :: 1 :: 2 :: []) (by kernel_rfl) ?_
                  refine go_q (d := 70) (op := .move (.tmp 14)) (ty := 3) (g := none) (by kernel_rfl) trivial rfl (qv_move rfl) ?_
                  refine go_q (d := 71) (op := .binOp .add 3 (.tmp 70) (.const (.int .i64 1)) 3) (ty := 3) (g := none) (by kernel_rfl) trivial rfl (qv_add rfl rfl (by first | exact IntWalk.i64_in _ (by omega) | exact IntWalk.i64_in _ (by dsimp only; omega) | rfl)) ?_
                  refine go_q (d := 14) (op := .assign (.tmp 71)) (ty := 3) (g := none) (by kernel_rfl) trivial rfl (qv_assign rfl) ?_
                  refine go_nil ?_
                  exact ⟨_, ⟨j + 1, _, _, _, _, by omega, by rw [hbf, List.take_add_one, hk]; simp, h80, ⟨rfl, ⟨[0, 1, 5, 7, 8, 9, 10, 11, 13, 14], rfl⟩, (by first | ((repeat first | exact .refl | exact Sb.app | apply Sb.keep | apply Sb.app_keep | apply Sb.skip | apply Sb.app_skip); done) | exact Sb.of_cnt fun x => by (simp only [List.count_append, List.count_cons, List.count_nil]; omega))⟩, rfl⟩, by omega⟩
                · try first | replace h69 := t_nd h69 | replace h69 := f_nd h69 | replace h69 := t_nbb h69 | replace h69 := f_nbb h69 | replace h69 := t_not h69 | replace h69 := f_not h69 | replace h69 := t_eq h69 | replace h69 := f_eq h69 | replace h69 := t_ne h69 | replace h69 := f_ne h69 | replace h69 := t_bb h69 | replace h69 := f_bb h69 | replace h69 := of_decide_eq_true h69 | replace h69 := of_decide_eq_false h69
                  refine p_exit 4 (by kernel_rfl) ?_
                  change G _ _ _ _
                  refine p_weaken [0, 1, 5, 7, 8, 9, 10, 11, 13] rfl ?_
                  refine p_seqJ (fun s => ∃ (L2 : List Slot) (ks2 : List Key) (ns2 : List Int) (q7 : Option Addr) (d7 : Nat) (B7 : Mem) (q8 : Option Addr) (d8 : Nat) (B8 : Mem), (Kp n L2 ks2 ns2) ∧ (OwnL eKey 27 q7 d7 ks2 B7) ∧ (OwnL (eI .u64) 30 q8 d8 ns2 B8) ∧ Ge s ⟨[], [(0, .int .i64 n), (1, .slice (some ⟨ba, oa, none⟩) acts.length cl), (5, .pointer (some ⟨bt, 0, none⟩)), (7, .slice q7 ks2.length d7), (8, .slice q8 ns2.length d8), (9, .int .i64 i)], tabO bt bs n ks2.length :: slotO bs L2 :: (B7 ++ (B8 ++ R))⟩) (by kernel_rfl) ?_ ?_
                  · refine p_seq (by kernel_rfl) ?_
                    have hjl : j = ks.length := by omega
                    subst hjl
                    rw [List.take_length] at hbf
                    refine p_plain (by kernel_rfl) (0 :: 1 :: 2 :: 3 :: []) (by kernel_rfl) ?_
                    refine go_q (d := 81) (op := .fieldAddr 88 (.tmp 10) 0) (ty := 0) (g := none) (by kernel_rfl) trivial rfl (qv_field rfl fd88_0) ?_
                    refine go_q (d := 82) (op := .load 3 (.tmp 81)) (ty := 3) (g := none) (by kernel_rfl) trivial rfl (qv_load rfl (by repeat first | exact .here | apply At.next | apply At.app) (ldv_sca sc3 (get_Act23_0 _))) ?_
                    refine go_s (d := some 83) (op := .call { callee := .value (.func 41), args := #[.tmp 82, .const (.int .i64 8)], argTypes := #[3, 3] }) (ty := 3) (g := none) (by kernel_rfl) trivial ?_
                    refine os_callP rfl en41 rfl (pu_Pick8 a.do_) ?_
                    refine go_q (d := 15) (op := .assign (.tmp 83)) (ty := 3) (g := none) (by kernel_rfl) trivial rfl (qv_assign rfl) ?_
                    refine go_nil ?_
                    change G _ _ _ _
                    refine p_weaken [0, 1, 5, 7, 8, 9, 10, 11, 13, 15] rfl ?_
                    refine p_seq (by kernel_rfl) ?_
                    refine p_plain (by kernel_rfl) (0 :: 1 :: []) (by kernel_rfl) ?_
                    refine go_q (d := 84) (op := .move (.tmp 15)) (ty := 3) (g := none) (by kernel_rfl) trivial rfl (qv_move rfl) ?_
                    refine go_q (d := 85) (op := .binOp .lss 3 (.tmp 84) (.const (.int .i64 4)) 3) (ty := 4) (g := none) (by kernel_rfl) trivial rfl (qv_lss rfl rfl rfl) ?_
                    refine go_nil ?_
                    change G _ _ _ _
                    refine p_weaken [0, 1, 5, 7, 8, 9, 10, 11, 13, 15, 85] rfl ?_
                    refine p_cond (.tmp 85) (by kernel_rfl) rfl (fun h85 => ?_) (fun h85 => ?_)
                    · try first | replace h85 := t_nd h85 | replace h85 := f_nd h85 | replace h85 := t_nbb h85 | replace h85 := f_nbb h85 | replace h85 := t_not h85 | replace h85 := f_not h85 | replace h85 := t_eq h85 | replace h85 := f_eq h85 | replace h85 := t_ne h85 | replace h85 := f_ne h85 | replace h85 := t_bb h85 | replace h85 := f_bb h85 | replace h85 := of_decide_eq_true h85 | replace h85 := of_decide_eq_false h85
                      refine p_seq (by kernel_rfl) ?_
                      refine p_plain (by kernel_rfl) (0 :: 1 :: 2 :: 3 :: 4 :: 5 :: 6 :: []) (by kernel_rfl) ?_
                      refine go_q (d := 86) (op := .move (.tmp 5)) (ty := 83) (g := none) (by kernel_rfl) trivial rfl (qv_move rfl) ?_
                      refine go_q (d := 87) (op := .fieldAddr 88 (.tmp 10) 1) (ty := 0) (g := none) (by kernel_rfl) trivial rfl (qv_field rfl fd88_1) ?_
                      refine go_q (d := 88) (op := .load 27 (.tmp 87)) (ty := 27) (g := none) (by kernel_rfl) trivial rfl (qv_load rfl (by repeat first | exact .here | apply At.next | apply At.app) (ldv_agg agg27 (ext_Act23_1_37 _) (Nat.le_of_ble_eq_true rfl))) ?_
                      refine go_q (d := 89) (op := .fieldAddr 88 (.tmp 10) 2) (ty := 0) (g := none) (by kernel_rfl) trivial rfl (qv_field rfl fd88_2) ?_
                      refine go_q (d := 90) (op := .load 30 (.tmp 89)) (ty := 30) (g := none) (by kernel_rfl) trivial rfl (qv_load rfl (by repeat first | exact .here | apply At.next | apply At.app) (ldv_sca sc30 (get_Act23_38 _))) ?_
                      refine go_s (d := some 91) (op := .call { callee := .value (.func 42), args := #[.tmp 86, .tmp 88, .tmp 90], argTypes := #[83, 27, 30] }) (ty := 61) (g := none) (by kernel_rfl) trivial ?_
                      refine os_call (Nat.le_of_ble_eq_true rfl) en42 rfl (by first | ((repeat constructor); done) | (repeat first | exact Sel.nil | exact Sel.all | exact Sel.app | (apply Sel.cons; focus (repeat first | exact Tk.here | apply Tk.next | apply Tk.app)) | apply Sel.skip | apply Sel.skipA)) (ct_PutK hn hK hkw hz a.n) ?_
                      rintro v91 A91 ⟨e, L1, many1, rfl, he, hrel, rfl⟩
                      try dsimp only [List.nil_append, List.cons_append]
                      refine go_q (d := 16) (op := .assign (.tmp 91)) (ty := 61) (g := none) (by kernel_rfl) trivial rfl (qv_assign rfl) ?_
                      refine go_nil ?_
                      change G _ _ _ _
                      refine p_weaken [0, 1, 5, 7, 8, 9, 10, 11, 16] rfl ?_
                      refine p_seqK [0, 1, 5, 7, 8, 9, 10, 11, 16] rfl (fun frk Mk s => ∃ (may : Bool), (may = mayB n ks a.k z) ∧ Ge s ⟨[], (17, .bool may) :: frk, Mk⟩) (by kernel_rfl) ?_ ?_
                      · refine p_plain (by kernel_rfl) (0 :: 1 :: 2 :: 3 :: 4 :: 5 :: 6 :: 7 :: 8 :: 9 :: 10 :: 11 :: 12 :: 13 :: []) (by kernel_rfl) ?_
                        refine go_q (d := 92) (op := .fieldAddr 88 (.tmp 10) 1) (ty := 0) (g := none) (by kernel_rfl) trivial rfl (qv_field rfl fd88_1) ?_
                        refine go_q (d := 93) (op := .load 27 (.tmp 92)) (ty := 27) (g := none) (by kernel_rfl) trivial rfl (qv_load rfl (by repeat first | exact .here | apply At.next | apply At.app) (ldv_agg agg27 (ext_Act23_1_37 _) (Nat.le_of_ble_eq_true rfl))) ?_
                        refine go_s (d := some 94) (op := .call { callee := .value (.func 43), args := #[.tmp 93], argTypes := #[27] }) (ty := 4) (g := none) (by kernel_rfl) trivial ?_
                        refine os_callP rfl en43 rfl (pu_KeyRight a.k) ?_
                        refine go_q (d := 95) (op := .move (.tmp 94)) (ty := 4) (g := none) (by kernel_rfl) trivial rfl (qv_move rfl) ?_
                        refine go_case (d := 95) rfl (fun g95 => ?_) (fun g95 => ?_)
                        · try first | replace g95 := t_nd g95 | replace g95 := f_nd g95 | replace g95 := t_nbb g95 | replace g95 := f_nbb g95 | replace g95 := t_not g95 | replace g95 := f_not g95 | replace g95 := t_eq g95 | replace g95 := f_eq g95 | replace g95 := t_ne g95 | replace g95 := f_ne g95 | replace g95 := t_bb g95 | replace g95 := f_bb g95 | replace g95 := of_decide_eq_true g95 | replace g95 := of_decide_eq_false g95
                          refine go_q (d := 96) (op := .move (.tmp 11)) (ty := 3) (g := some (3, true)) (by kernel_rfl) ⟨95, by kernel_rfl, rfl⟩ rfl (qv_move rfl) ?_
                          refine go_q (d := 97) (op := .binOp .geq 3 (.tmp 96) (.const (.int .i64 0)) 3) (ty := 4) (g := some (3, true)) (by kernel_rfl) ⟨95, by kernel_rfl, rfl⟩ rfl (qv_geq rfl rfl rfl) ?_
                          refine go_q (d := 98) (op := .move (.tmp 97)) (ty := 4) (g := some (3, true)) (by kernel_rfl) ⟨95, by kernel_rfl, rfl⟩ rfl (qv_move rfl) ?_
                          refine go_case (d := 98) rfl (fun g98 => ?_) (fun g98 => ?_)
                          · try first | replace g98 := t_nd g98 | replace g98 := f_nd g98 | replace g98 := t_nbb g98 | replace g98 := f_nbb g98 | replace g98 := t_not g98 | replace g98 := f_not g98 | replace g98 := t_eq g98 | replace g98 := f_eq g98 | replace g98 := t_ne g98 | replace g98 := f_ne g98 | replace g98 := t_bb g98 | replace g98 := f_bb g98 | replace g98 := of_decide_eq_true g98 | replace g98 := of_decide_eq_false g98
                            refine go_n (d := 99) (op := .move (.tmp 7)) (ty := 86) (g := some (6, false)) (by kernel_rfl) ⟨98, _, by kernel_rfl, rfl, rfl⟩ rfl ?_
                            refine go_n (d := 100) (op := .call { callee := .builtin .len, args := #[.tmp 99], argTypes := #[86] }) (ty := 3) (g := some (6, false)) (by kernel_rfl) ⟨98, _, by kernel_rfl, rfl, rfl⟩ rfl ?_
                            refine go_n (d := 101) (op := .move (.tmp 0)) (ty := 3) (g := some (6, false)) (by kernel_rfl) ⟨98, _, by kernel_rfl, rfl, rfl⟩ rfl ?_
                            refine go_n (d := 102) (op := .binOp .lss 3 (.tmp 100) (.tmp 101) 3) (ty := 4) (g := some (6, false)) (by kernel_rfl) ⟨98, _, by kernel_rfl, rfl, rfl⟩ rfl ?_
                            refine go_q (d := 103) (op := .pick (.tmp 98) (.const (.bool true)) (.tmp 102)) (ty := 4) (g := some (3, true)) (by kernel_rfl) ⟨95, by kernel_rfl, rfl⟩ rfl (qv_pick_t rfl rfl) ?_
                            refine go_q (d := 104) (op := .pick (.tmp 95) (.tmp 103) (.const (.bool false))) (ty := 4) (g := none) (by kernel_rfl) trivial rfl (qv_pick_t rfl rfl) ?_
                            refine go_q (d := 17) (op := .assign (.tmp 104)) (ty := 4) (g := none) (by kernel_rfl) trivial rfl (qv_assign rfl) ?_
                            refine go_nil ?_
                            exact ⟨_, by unfold mayB; simp [*], ⟨rfl, ⟨[17, 0, 1, 5, 7, 8, 9, 10, 11, 16], rfl⟩, (by first | ((repeat first | exact .refl | exact Sb.app | apply Sb.keep | apply Sb.app_keep | apply Sb.skip | apply Sb.app_skip); done) | exact Sb.of_cnt fun x => by (simp only [List.count_append, List.count_cons, List.count_nil]; omega))⟩⟩
                          · try first | replace g98 := t_nd g98 | replace g98 := f_nd g98 | replace g98 := t_nbb g98 | replace g98 := f_nbb g98 | replace g98 := t_not g98 | replace g98 := f_not g98 | replace g98 := t_eq g98 | replace g98 := f_eq g98 | replace g98 := t_ne g98 | replace g98 := f_ne g98 | replace g98 := t_bb g98 | replace g98 := f_bb g98 | replace g98 := of_decide_eq_true g98 | replace g98 := of_decide_eq_false g98
                            refine go_q (d := 99) (op := .move (.tmp 7)) (ty := 86) (g := some (6, false)) (by kernel_rfl) ⟨98, by kernel_rfl, rfl⟩ rfl (qv_move rfl) ?_
                            refine go_q (d := 100) (op := .call { callee := .builtin .len, args := #[.tmp 99], argTypes := #[86] }) (ty := 3) (g := some (6, false)) (by kernel_rfl) ⟨98, by kernel_rfl, rfl⟩ rfl (qv_lenS un86 rfl) ?_
                            refine go_q (d := 101) (op := .move (.tmp 0)) (ty := 3) (g := some (6, false)) (by kernel_rfl) ⟨98, by kernel_rfl, rfl⟩ rfl (qv_move rfl) ?_
                            refine go_q (d := 102) (op := .binOp .lss 3 (.tmp 100) (.tmp 101) 3) (ty := 4) (g := some (6, false)) (by kernel_rfl) ⟨98, by kernel_rfl, rfl⟩ rfl (qv_lss rfl rfl rfl) ?_
                            refine go_q (d := 103) (op := .pick (.tmp 98) (.const (.bool true)) (.tmp 102)) (ty := 4) (g := some (3, true)) (by kernel_rfl) ⟨95, by kernel_rfl, rfl⟩ rfl (qv_pick_f rfl rfl) ?_
                            refine go_q (d := 104) (op := .pick (.tmp 95) (.tmp 103) (.const (.bool false))) (ty := 4) (g := none) (by kernel_rfl) trivial rfl (qv_pick_t rfl rfl) ?_
                            refine go_q (d := 17) (op := .assign (.tmp 104)) (ty := 4) (g := none) (by kernel_rfl) trivial rfl (qv_assign rfl) ?_
                            refine go_nil ?_
                            exact ⟨_, by unfold mayB; simp [*], ⟨rfl, ⟨[17, 0, 1, 5, 7, 8, 9, 10, 11, 16], rfl⟩, (by first | ((repeat first | exact .refl | exact Sb.app | apply Sb.keep | apply Sb.app_keep | apply Sb.skip | apply Sb.app_skip); done) | exact Sb.of_cnt fun x => by (simp only [List.count_append, List.count_cons, List.count_nil]; omega))⟩⟩
                        · try first | replace g95 := t_nd g95 | replace g95 := f_nd g95 | replace g95 := t_nbb g95 | replace g95 := f_nbb g95 | replace g95 := t_not g95 | replace g95 := f_not g95 | replace g95 := t_eq g95 | replace g95 := f_eq g95 | replace g95 := t_ne g95 | replace g95 := f_ne g95 | replace g95 := t_bb g95 | replace g95 := f_bb g95 | replace g95 := of_decide_eq_true g95 | replace g95 := of_decide_eq_false g95
                          refine go_n (d := 96) (op := .move (.tmp 11)) (ty := 3) (g := some (3, true)) (by kernel_rfl) ⟨95, _, by kernel_rfl, rfl, rfl⟩ rfl ?_
                          refine go_n (d := 97) (op := .binOp .geq 3 (.tmp 96) (.const (.int .i64 0)) 3) (ty := 4) (g := some (3, true)) (by kernel_rfl) ⟨95, _, by kernel_rfl, rfl, rfl⟩ rfl ?_
                          refine go_n (d := 98) (op := .move (.tmp 97)) (ty := 4) (g := some (3, true)) (by kernel_rfl) ⟨95, _, by kernel_rfl, rfl, rfl⟩ rfl ?_
                          refine go_n (d := 99) (op := .move (.tmp 7)) (ty := 86) (g := some (6, false)) (by kernel_rfl) ⟨98, _, by kernel_rfl, rfl, rfl⟩ rfl ?_
                          refine go_n (d := 100) (op := .call { callee := .builtin .len, args := #[.tmp 99], argTypes := #[86] }) (ty := 3) (g := some (6, false)) (by kernel_rfl) ⟨98, _, by kernel_rfl, rfl, rfl⟩ rfl ?_
                          refine go_n (d := 101) (op := .move (.tmp 0)) (ty := 3) (g := some (6, false)) (by kernel_rfl) ⟨98, _, by kernel_rfl, rfl, rfl⟩ rfl ?_
                          refine go_n (d := 102) (op := .binOp .lss 3 (.tmp 100) (.tmp 101) 3) (ty := 4) (g := some (6, false)) (by kernel_rfl) ⟨98, _, by kernel_rfl, rfl, rfl⟩ rfl ?_
                          refine go_n (d := 103) (op := .pick (.tmp 98) (.const (.bool true)) (.tmp 102)) (ty := 4) (g := some (3, true)) (by kernel_rfl) ⟨95, _, by kernel_rfl, rfl, rfl⟩ rfl ?_
                          refine go_q (d := 104) (op := .pick (.tmp 95) (.tmp 103) (.const (.bool false))) (ty := 4) (g := none) (by kernel_rfl) trivial rfl (qv_pick_f rfl rfl) ?_
                          refine go_q (d := 17) (op := .assign (.tmp 104)) (ty := 4) (g := none) (by kernel_rfl) trivial rfl (qv_assign rfl) ?_
                          refine go_nil ?_
                          exact ⟨_, by unfold mayB; simp [*], ⟨rfl, ⟨[17, 0, 1, 5, 7, 8, 9, 10, 11, 16], rfl⟩, (by first | ((repeat first | exact .refl | exact Sb.app | apply Sb.keep | apply Sb.app_keep | apply Sb.skip | apply Sb.app_skip); done) | exact Sb.of_cnt fun x => by (simp only [List.count_append, List.count_cons, List.count_nil]; omega))⟩⟩
                      · rintro s ⟨may, hmay, hs⟩
                        refine ge_ok hs ?_
                        refine p_seq (by kernel_rfl) ?_
                        refine p_seq (by kernel_rfl) ?_
                        refine p_plain (by kernel_rfl) (0 :: 1 :: 2 :: 3 :: []) (by kernel_rfl) ?_
                        refine go_q (d := 105) (op := .move (.tmp 17)) (ty := 4) (g := none) (by kernel_rfl) trivial rfl (qv_move rfl) ?_
                        refine go_q (d := 106) (op := .move (.tmp 16)) (ty := 61) (g := none) (by kernel_rfl) trivial rfl (qv_move rfl) ?_
                        refine go_q (d := 107) (op := .binOp .eql 61 (.tmp 106) (.const (.int .i64 0)) 61) (ty := 4) (g := none) (by kernel_rfl) trivial rfl (qv_eql rfl rfl rfl) ?_
                        refine go_q (d := 108) (op := .binOp .neq 4 (.tmp 105) (.tmp 107) 4) (ty := 4) (g := none) (by kernel_rfl) trivial rfl (qv_neqBb (b := false) un4 rfl rfl (by rw [he, hmay]; simp)) ?_
                        refine go_nil ?_
                        change G _ _ _ _
                        refine p_weaken [0, 1, 5, 7, 8, 9, 10, 11, 17, 108] rfl ?_
                        refine p_condF (.tmp 108) (by kernel_rfl) rfl ?_
                        refine p_skip (by kernel_rfl) ?_
                        change G _ _ _ _
                        refine p_weaken [0, 1, 5, 7, 8, 9, 10, 11, 17] rfl ?_
                        refine p_seqK [0, 1, 5, 7, 8, 9, 10, 11, 17] rfl (fun frk Mk s => ∃ (ns1 : List Int) (A8n : Mem), (OwnL (eI .u64) 30 p8 c8 ns1 A8n) ∧ (ns1 = if (may && decide (0 ≤ z)) = true then ns.set z.toNat a.n else ns) ∧ (ns1.length = ns.length) ∧ Ge s ⟨[], frk, tabO bt bs n many1 :: slotO bs L1 :: (A13 ++ ((b10, .cells a.c 88 (0, 0)) :: (A7 ++ (A8n ++ R))))⟩) (by kernel_rfl) ?_ ?_
                        · refine p_seqK [0, 1, 5, 7, 8, 9, 10, 11, 17] rfl (fun frk Mk s => ∃ (x1 : Bool), (x1 = (may && decide (0 ≤ z))) ∧ Ge s ⟨[], (113, .bool x1) :: frk, Mk⟩) (by kernel_rfl) ?_ ?_
                          · refine p_plain (by kernel_rfl) (0 :: 1 :: 2 :: 3 :: 4 :: []) (by kernel_rfl) ?_
                            refine go_q (d := 109) (op := .move (.tmp 17)) (ty := 4) (g := none) (by kernel_rfl) trivial rfl (qv_move rfl) ?_
                            refine go_q (d := 110) (op := .move (.tmp 109)) (ty := 4) (g := none) (by kernel_rfl) trivial rfl (qv_move rfl) ?_
                            refine go_case (d := 110) rfl (fun g110 => ?_) (fun g110 => ?_)
                            · try first | replace g110 := t_nd g110 | replace g110 := f_nd g110 | replace g110 := t_nbb g110 | replace g110 := f_nbb g110 | replace g110 := t_not g110 | replace g110 := f_not g110 | replace g110 := t_eq g110 | replace g110 := f_eq g110 | replace g110 := t_ne g110 | replace g110 := f_ne g110 | replace g110 := t_bb g110 | replace g110 := f_bb g110 | replace g110 := of_decide_eq_true g110 | replace g110 := of_decide_eq_false g110
                              refine go_q (d := 111) (op := .move (.tmp 11)) (ty := 3) (g := some (1, true)) (by kernel_rfl) ⟨110, by kernel_rfl, rfl⟩ rfl (qv_move rfl) ?_
                              refine go_q (d := 112) (op := .binOp .geq 3 (.tmp 111) (.const (.int .i64 0)) 3) (ty := 4) (g := some (1, true)) (by kernel_rfl) ⟨110, by kernel_rfl, rfl⟩ rfl (qv_geq rfl rfl rfl) ?_
                              refine go_q (d := 113) (op := .pick (.tmp 110) (.tmp 112) (.const (.bool false))) (ty := 4) (g := none) (by kernel_rfl) trivial rfl (qv_pick_t rfl rfl) ?_
                              refine go_nil ?_
                              exact ⟨_, by rw [g110]; rfl, ⟨rfl, ⟨[113, 0, 1, 5, 7, 8, 9, 10, 11, 17], rfl⟩, (by first | ((repeat first | exact .refl | exact Sb.app | apply Sb.keep | apply Sb.app_keep | apply Sb.skip | apply Sb.app_skip); done) | exact Sb.of_cnt fun x => by (simp only [List.count_append, List.count_cons, List.count_nil]; omega))⟩⟩
                            · try first | replace g110 := t_nd g110 | replace g110 := f_nd g110 | replace g110 := t_nbb g110 | replace g110 := f_nbb g110 | replace g110 := t_not g110 | replace g110 := f_not g110 | replace g110 := t_eq g110 | replace g110 := f_eq g110 | replace g110 := t_ne g110 | replace g110 := f_ne g110 | replace g110 := t_bb g110 | replace g110 := f_bb g110 | replace g110 := of_decide_eq_true g110 | replace g110 := of_decide_eq_false g110
                              refine go_n (d := 111) (op := .move (.tmp 11)) (ty := 3) (g := some (1, true)) (by kernel_rfl) ⟨110, _, by kernel_rfl, rfl, rfl⟩ rfl ?_
                              refine go_n (d := 112) (op := .binOp .geq 3 (.tmp 111) (.const (.int .i64 0)) 3) (ty := 4) (g := some (1, true)) (by kernel_rfl) ⟨110, _, by kernel_rfl, rfl, rfl⟩ rfl ?_
                              refine go_q (d := 113) (op := .pick (.tmp 110) (.tmp 112) (.const (.bool false))) (ty := 4) (g := none) (by kernel_rfl) trivial rfl (qv_pick_f rfl rfl) ?_
                              refine go_nil ?_
                              exact ⟨_, by rw [g110]; rfl, ⟨rfl, ⟨[113, 0, 1, 5, 7, 8, 9, 10, 11, 17], rfl⟩, (by first | ((repeat first | exact .refl | exact Sb.app | apply Sb.keep | apply Sb.app_keep | apply Sb.skip | apply Sb.app_skip); done) | exact Sb.of_cnt fun x => by (simp only [List.count_append, List.count_cons, List.count_nil]; omega))⟩⟩
                          · rintro s ⟨x1, hx1, hs⟩
                            refine ge_ok hs ?_
                            refine p_cond (.tmp 113) (by kernel_rfl) rfl (fun h113 => ?_) (fun h113 => ?_)
                            · try first | replace h113 := t_nd h113 | replace h113 := f_nd h113 | replace h113 := t_nbb h113 | replace h113 := f_nbb h113 | replace h113 := t_not h113 | replace h113 := f_not h113 | replace h113 := t_eq h113 | replace h113 := f_eq h113 | replace h113 := t_ne h113 | replace h113 := f_ne h113 | replace h113 := t_bb h113 | replace h113 := f_bb h113 | replace h113 := of_decide_eq_true h113 | replace h113 := of_decide_eq_false h113
                              obtain ⟨hmt, h0z⟩ : may = true ∧ 0 ≤ z := by rw [h113] at hx1; simpa using hx1.symm
                              obtain ⟨zn, hzn, hzk⟩ := hz.some_ h0z
                              have hzl := (List.getElem?_eq_some_iff.1 hzk).1
                              have hzl8 : zn < ns.length := by omega
                              obtain ⟨b8, cur8, rfl, rfl, hc1, hc2, hc3, H8⟩ := h8.some_ (by omega)
                              refine p_plain (by kernel_rfl) (0 :: 1 :: 2 :: 3 :: 4 :: 5 :: []) (by kernel_rfl) ?_
                              refine go_q (d := 114) (op := .move (.tmp 8)) (ty := 29) (g := none) (by kernel_rfl) trivial rfl (qv_move rfl) ?_
                              refine go_q (d := 115) (op := .move (.tmp 11)) (ty := 3) (g := none) (by kernel_rfl) trivial rfl (qv_move rfl) ?_
                              refine go_q (d := 116) (op := .fieldAddr 88 (.tmp 10) 2) (ty := 0) (g := none) (by kernel_rfl) trivial rfl (qv_field rfl fd88_2) ?_
                              refine go_q (d := 117) (op := .load 30 (.tmp 116)) (ty := 30) (g := none) (by kernel_rfl) trivial rfl (qv_load rfl (by repeat first | exact .here | apply At.next | apply At.app) (ldv_sca sc30 (get_Act23_38 _))) ?_
                              refine go_q (d := 118) (op := .indexAddr 29 (.tmp 114) (.tmp 115)) (ty := 0) (g := none) (by kernel_rfl) trivial rfl (qv_index un29 sz30 rfl rfl hzn hzl8) ?_
                              refine go_s (d := none) (op := .store 30 (.tmp 118) (.tmp 117)) (ty := 0) (g := none) (by kernel_rfl) trivial ?_
                              refine os_store1 rfl rfl sz30 rfl rfl (by repeat first | exact .here | apply Up.next | apply Up.app) (own_fit hc1 hc3 hzl8) (splice_one (own_fit hc1 hc3 hzl8)).symm ?_
                              have h8n := OwnL.put (e := 30) (b := b8) a.n hc1 hc2 hc3 H8 hzl8
                              have hns : ns.set zn a.n = if (may && decide (0 ≤ z)) = true then ns.set z.toNat a.n else ns := by rw [← hx1, h113, hzn]; simp
                              have hnl : (ns.set zn a.n).length = ns.length := by simp
                              refine go_nil ?_
                              exact ⟨_, _, h8n, hns, hnl, ⟨rfl, ⟨[0, 1, 5, 7, 8, 9, 10, 11, 17], rfl⟩, (by first | ((repeat first | exact .refl | exact Sb.app | apply Sb.keep | apply Sb.app_keep | apply Sb.skip | apply Sb.app_skip); done) | exact Sb.of_cnt fun x => by (simp only [List.count_append, List.count_cons, List.count_nil]; omega))⟩⟩
                            · try first | replace h113 := t_nd h113 | replace h113 := f_nd h113 | replace h113 := t_nbb h113 | replace h113 := f_nbb h113 | replace h113 := t_not h113 | replace h113 := f_not h113 | replace h113 := t_eq h113 | replace h113 := f_eq h113 | replace h113 := t_ne h113 | replace h113 := f_ne h113 | replace h113 := t_bb h113 | replace h113 := f_bb h113 | replace h113 := of_decide_eq_true h113 | replace h113 := of_decide_eq_false h113
                              have h8n := h8
                              have hns : ns = if (may && decide (0 ≤ z)) = true then ns.set z.toNat a.n else ns := by rw [← hx1, h113]; simp
                              have hnl : ns.length = ns.length := rfl
                              refine p_skip (by kernel_rfl) ?_
                              exact ⟨_, _, h8n, hns, hnl, ⟨rfl, ⟨[0, 1, 5, 7, 8, 9, 10, 11, 17], rfl⟩, (by first | ((repeat first | exact .refl | exact Sb.app | apply Sb.keep | apply Sb.app_keep | apply Sb.skip | apply Sb.app_skip); done) | exact Sb.of_cnt fun x => by (simp only [List.count_append, List.count_cons, List.count_nil]; omega))⟩⟩
                        · rintro s ⟨ns1, A8n, h8, hns, hnl, hs⟩
                          refine ge_ok hs ?_
                          rw [← hnl]
                          refine p_seqK [0, 1, 5, 7, 8, 9, 10] rfl (fun frk Mk s => ∃ (x2 : Bool), (x2 = (may && decide (z < 0))) ∧ Ge s ⟨[], (123, .bool x2) :: frk, Mk⟩) (by kernel_rfl) ?_ ?_
                          · refine p_plain (by kernel_rfl) (0 :: 1 :: 2 :: 3 :: 4 :: []) (by kernel_rfl) ?_
                            refine go_q (d := 119) (op := .move (.tmp 17)) (ty := 4) (g := none) (by kernel_rfl) trivial rfl (qv_move rfl) ?_
                            refine go_q (d := 120) (op := .move (.tmp 119)) (ty := 4) (g := none) (by kernel_rfl) trivial rfl (qv_move rfl) ?_
                            refine go_case (d := 120) rfl (fun g120 => ?_) (fun g120 => ?_)
                            · try first | replace g120 := t_nd g120 | replace g120 := f_nd g120 | replace g120 := t_nbb g120 | replace g120 := f_nbb g120 | replace g120 := t_not g120 | replace g120 := f_not g120 | replace g120 := t_eq g120 | replace g120 := f_eq g120 | replace g120 := t_ne g120 | replace g120 := f_ne g120 | replace g120 := t_bb g120 | replace g120 := f_bb g120 | replace g120 := of_decide_eq_true g120 | replace g120 := of_decide_eq_false g120
                              refine go_q (d := 121) (op := .move (.tmp 11)) (ty := 3) (g := some (1, true)) (by kernel_rfl) ⟨120, by kernel_rfl, rfl⟩ rfl (qv_move rfl) ?_
                              refine go_q (d := 122) (op := .binOp .lss 3 (.tmp 121) (.const (.int .i64 0)) 3) (ty := 4) (g := some (1, true)) (by kernel_rfl) ⟨120, by kernel_rfl, rfl⟩ rfl (qv_lss rfl rfl rfl) ?_
                              refine go_q (d := 123) (op := .pick (.tmp 120) (.tmp 122) (.const (.bool false))) (ty := 4) (g := none) (by kernel_rfl) trivial rfl (qv_pick_t rfl rfl) ?_
                              refine go_nil ?_
                              exact ⟨_, by rw [g120]; rfl, ⟨rfl, ⟨[123, 0, 1, 5, 7, 8, 9, 10], rfl⟩, (by first | ((repeat first | exact .refl | exact Sb.app | apply Sb.keep | apply Sb.app_keep | apply Sb.skip | apply Sb.app_skip); done) | exact Sb.of_cnt fun x => by (simp only [List.count_append, List.count_cons, List.count_nil]; omega))⟩⟩
                            · try first | replace g120 := t_nd g120 | replace g120 := f_nd g120 | replace g120 := t_nbb g120 | replace g120 := f_nbb g120 | replace g120 := t_not g120 | replace g120 := f_not g120 | replace g120 := t_eq g120 | replace g120 := f_eq g120 | replace g120 := t_ne g120 | replace g120 := f_ne g120 | replace g120 := t_bb g120 | replace g120 := f_bb g120 | replace g120 := of_decide_eq_true g120 | replace g120 := of_decide_eq_false g120
                              refine go_n (d := 121) (op := .move (.tmp 11)) (ty := 3) (g := some (1, true)) (by kernel_rfl) ⟨120, _, by kernel_rfl, rfl, rfl⟩ rfl ?_
                              refine go_n (d := 122) (op := .binOp .lss 3 (.tmp 121) (.const (.int .i64 0)) 3) (ty := 4) (g := some (1, true)) (by kernel_rfl) ⟨120, _, by kernel_rfl, rfl, rfl⟩ rfl ?_
                              refine go_q (d := 123) (op := .pick (.tmp 120) (.tmp 122) (.const (.bool false))) (ty := 4) (g := none) (by kernel_rfl) trivial rfl (qv_pick_f rfl rfl) ?_
                              refine go_nil ?_
                              exact ⟨_, by rw [g120]; rfl, ⟨rfl, ⟨[123, 0, 1, 5, 7, 8, 9, 10], rfl⟩, (by first | ((repeat first | exact .refl | exact Sb.app | apply Sb.keep | apply Sb.app_keep | apply Sb.skip | apply Sb.app_skip); done) | exact Sb.of_cnt fun x => by (simp only [List.count_append, List.count_cons, List.count_nil]; omega))⟩⟩
                          · rintro s ⟨x2, hx2, hs⟩
                            refine ge_ok hs ?_
                            refine p_cond (.tmp 123) (by kernel_rfl) rfl (fun h123 => ?_) (fun h123 => ?_)
                            · try first | replace h123 := t_nd h123 | replace h123 := f_nd h123 | replace h123 := t_nbb h123 | replace h123 := f_nbb h123 | replace h123 := t_not h123 | replace h123 := f_not h123 | replace h123 := t_eq h123 | replace h123 := f_eq h123 | replace h123 := t_ne h123 | replace h123 := f_ne h123 | replace h123 := t_bb h123 | replace h123 := f_bb h123 | replace h123 := of_decide_eq_true h123 | replace h123 := of_decide_eq_false h123
                              obtain ⟨hKn, rfl⟩ : Kp n L1 (ks ++ [a.k]) (ns1 ++ [a.n]) ∧ many1 = ((ks ++ [a.k]).length : Int) := put_new hrel hmay hx2 h123 hns
                              refine p_seq (by kernel_rfl) ?_
                              refine p_plain (by kernel_rfl) (0 :: 1 :: 2 :: 3 :: 4 :: 5 :: []) (by kernel_rfl) ?_
                              refine go_q (d := 124) (op := .move (.tmp 7)) (ty := 86) (g := none) (by kernel_rfl) trivial rfl (qv_move rfl) ?_
                              refine go_q (d := 125) (op := .fieldAddr 88 (.tmp 10) 1) (ty := 0) (g := none) (by kernel_rfl) trivial rfl (qv_field rfl fd88_1) ?_
                              refine go_q (d := 126) (op := .load 27 (.tmp 125)) (ty := 27) (g := none) (by kernel_rfl) trivial rfl (qv_load rfl (by repeat first | exact .here | apply At.next | apply At.app) (ldv_agg agg27 (ext_Act23_1_37 _) (Nat.le_of_ble_eq_true rfl))) ?_
                              refine go_s (d := some 127) (op := .buildSlice 86 1 #[(0, .tmp 126)]) (ty := 86) (g := none) (by kernel_rfl) trivial ?_
                              refine os_buildSlice (Nat.le_of_ble_eq_true rfl) rfl (bls86_1 _) (fun b127 => ?_)
                              refine go_s (d := some 128) (op := .call { callee := .builtin .append, args := #[.tmp 124, .tmp 127], argTypes := #[86, 86] }) (ty := 86) (g := none) (by kernel_rfl) trivial ?_
                              refine os_appendK (E := eKey) (l := ks) (l2 := [a.k]) rfl el86 rfl rfl rfl rfl h7 (by first | ((repeat constructor); done) | (repeat first | exact Sel.nil | exact Sel.all | exact Sel.app | (apply Sel.cons; focus (repeat first | exact Tk.here | apply Tk.next | apply Tk.app)) | apply Sel.skip | apply Sel.skipA)) (by repeat first | exact .here | apply At.next | apply At.app) (holds_one _) (one_Key) (by simp [maxLen] <;> omega) (by simp <;> omega) (fun p128 c128 A128 h128 => ?_)
                              have h7n := h128
                              refine go_q (d := 7) (op := .assign (.tmp 128)) (ty := 86) (g := none) (by kernel_rfl) trivial rfl (qv_assign rfl) ?_
                              refine go_nil ?_
                              change G _ _ _ _
                              refine p_weaken [0, 1, 5, 7, 8, 9, 10] rfl ?_
                              refine p_plain (by kernel_rfl) (0 :: 1 :: 2 :: 3 :: 4 :: 5 :: []) (by kernel_rfl) ?_
                              refine go_q (d := 129) (op := .move (.tmp 8)) (ty := 29) (g := none) (by kernel_rfl) trivial rfl (qv_move rfl) ?_
                              refine go_q (d := 130) (op := .fieldAddr 88 (.tmp 10) 2) (ty := 0) (g := none) (by kernel_rfl) trivial rfl (qv_field rfl fd88_2) ?_
                              refine go_q (d := 131) (op := .load 30 (.tmp 130)) (ty := 30) (g := none) (by kernel_rfl) trivial rfl (qv_load rfl (by repeat first | exact .here | apply At.next | apply At.app) (ldv_sca sc30 (get_Act23_38 _))) ?_
                              refine go_s (d := some 132) (op := .buildSlice 29 1 #[(0, .tmp 131)]) (ty := 29) (g := none) (by kernel_rfl) trivial ?_
                              refine os_buildSlice (Nat.le_of_ble_eq_true rfl) rfl (bls29_1 _) (fun b132 => ?_)
                              refine go_s (d := some 133) (op := .call { callee := .builtin .append, args := #[.tmp 129, .tmp 132], argTypes := #[29, 29] }) (ty := 29) (g := none) (by kernel_rfl) trivial ?_
                              refine os_appendK (E := eI .u64) (l := ns1) (l2 := [a.n]) rfl el29 rfl rfl rfl rfl h8 (by first | ((repeat constructor); done) | (repeat first | exact Sel.nil | exact Sel.all | exact Sel.app | (apply Sel.cons; focus (repeat first | exact Tk.here | apply Tk.next | apply Tk.app)) | apply Sel.skip | apply Sel.skipA)) (by repeat first | exact .here | apply At.next | apply At.app) (holds_one _) (eI_one _) (by simp [maxLen] <;> omega) (by simp <;> omega) (fun p133 c133 A133 h133 => ?_)
                              have h8n := h133
                              refine go_q (d := 8) (op := .assign (.tmp 133)) (ty := 29) (g := none) (by kernel_rfl) trivial rfl (qv_assign rfl) ?_
                              refine go_nil ?_
                              exact ⟨_, _, _, _, _, _, _, _, _, hKn, h7n, h8n, ⟨rfl, ⟨[0, 1, 5, 7, 8, 9], rfl⟩, (by first | ((repeat first | exact .refl | exact Sb.app | apply Sb.keep | apply Sb.app_keep | apply Sb.skip | apply Sb.app_skip); done) | exact Sb.of_cnt fun x => by (simp only [List.count_append, List.count_cons, List.count_nil]; omega))⟩⟩
                            · try first | replace h123 := t_nd h123 | replace h123 := f_nd h123 | replace h123 := t_nbb h123 | replace h123 := f_nbb h123 | replace h123 := t_not h123 | replace h123 := f_not h123 | replace h123 := t_eq h123 | replace h123 := f_eq h123 | replace h123 := t_ne h123 | replace h123 := f_ne h123 | replace h123 := t_bb h123 | replace h123 := f_bb h123 | replace h123 := of_decide_eq_true h123 | replace h123 := of_decide_eq_false h123
                              obtain ⟨hKn, rfl⟩ : Kp n L1 ks ns1 ∧ many1 = (ks.length : Int) := put_old hK hrel hmay hx2 h123 hns
                              have h7n := h7
                              have h8n := h8
                              refine p_skip (by kernel_rfl) ?_
                              exact ⟨_, _, _, _, _, _, _, _, _, hKn, h7n, h8n, ⟨rfl, ⟨[0, 1, 5, 7, 8, 9], rfl⟩, (by first | ((repeat first | exact .refl | exact Sb.app | apply Sb.keep | apply Sb.app_keep | apply Sb.skip | apply Sb.app_skip); done) | exact Sb.of_cnt fun x => by (simp only [List.count_append, List.count_cons, List.count_nil]; omega))⟩⟩
                    · try first | replace h85 := t_nd h85 | replace h85 := f_nd h85 | replace h85 := t_nbb h85 | replace h85 := f_nbb h85 | replace h85 := t_not h85 | replace h85 := f_not h85 | replace h85 := t_eq h85 | replace h85 := f_eq h85 | replace h85 := t_ne h85 | replace h85 := f_ne h85 | replace h85 := t_bb h85 | replace h85 := f_bb h85 | replace h85 := of_decide_eq_true h85 | replace h85 := of_decide_eq_false h85
                      refine p_seq (by kernel_rfl) ?_
                      refine p_plain (by kernel_rfl) (0 :: 1 :: []) (by kernel_rfl) ?_
                      refine go_q (d := 134) (op := .move (.tmp 15)) (ty := 3) (g := none) (by kernel_rfl) trivial rfl (qv_move rfl) ?_
                      refine go_q (d := 135) (op := .binOp .lss 3 (.tmp 134) (.const (.int .i64 7)) 3) (ty := 4) (g := none) (by kernel_rfl) trivial rfl (qv_lss rfl rfl rfl) ?_
                      refine go_nil ?_
                      change G _ _ _ _
                      refine p_weaken [0, 1, 5, 7, 8, 9, 10, 11, 13, 135] rfl ?_
                      refine p_cond (.tmp 135) (by kernel_rfl) rfl (fun h135 => ?_) (fun h135 => ?_)
                      · try first | replace h135 := t_nd h135 | replace h135 := f_nd h135 | replace h135 := t_nbb h135 | replace h135 := f_nbb h135 | replace h135 := t_not h135 | replace h135 := f_not h135 | replace h135 := t_eq h135 | replace h135 := f_eq h135 | replace h135 := t_ne h135 | replace h135 := f_ne h135 | replace h135 := t_bb h135 | replace h135 := f_bb h135 | replace h135 := of_decide_eq_true h135 | replace h135 := of_decide_eq_false h135
                        refine p_seq (by kernel_rfl) ?_
                        refine p_seq (by kernel_rfl) ?_
                        refine p_plain (by kernel_rfl) (0 :: 1 :: 2 :: 3 :: 4 :: 5 :: 6 :: []) (by kernel_rfl) ?_
                        refine go_q (d := 136) (op := .move (.tmp 5)) (ty := 83) (g := none) (by kernel_rfl) trivial rfl (qv_move rfl) ?_
                        refine go_q (d := 137) (op := .fieldAddr 88 (.tmp 10) 1) (ty := 0) (g := none) (by kernel_rfl) trivial rfl (qv_field rfl fd88_1) ?_
                        refine go_q (d := 138) (op := .load 27 (.tmp 137)) (ty := 27) (g := none) (by kernel_rfl) trivial rfl (qv_load rfl (by repeat first | exact .here | apply At.next | apply At.app) (ldv_agg agg27 (ext_Act23_1_37 _) (Nat.le_of_ble_eq_true rfl))) ?_
                        refine go_s (d := some 139) (op := .call { callee := .value (.func 44), args := #[.tmp 136, .tmp 138], argTypes := #[83, 27] }) (ty := 4) (g := none) (by kernel_rfl) trivial ?_
                        refine os_call (Nat.le_of_ble_eq_true rfl) en44 rfl (by first | ((repeat constructor); done) | (repeat first | exact Sel.nil | exact Sel.all | exact Sel.app | (apply Sel.cons; focus (repeat first | exact Tk.here | apply Tk.next | apply Tk.app)) | apply Sel.skip | apply Sel.skipA)) (ct_DelK hn hK hkw hz) ?_
                        rintro v139 A139 ⟨L1, many1, rfl, hdel, rfl⟩
                        try dsimp only [List.nil_append, List.cons_append]
                        refine go_q (d := 140) (op := .move (.tmp 11)) (ty := 3) (g := none) (by kernel_rfl) trivial rfl (qv_move rfl) ?_
                        refine go_q (d := 141) (op := .binOp .geq 3 (.tmp 140) (.const (.int .i64 0)) 3) (ty := 4) (g := none) (by kernel_rfl) trivial rfl (qv_geq rfl rfl rfl) ?_
                        refine go_q (d := 142) (op := .binOp .neq 4 (.tmp 139) (.tmp 141) 4) (ty := 4) (g := none) (by kernel_rfl) trivial rfl (qv_neqBb (b := false) un4 rfl rfl (by simp)) ?_
                        refine go_nil ?_
                        change G _ _ _ _
                        refine p_weaken [0, 1, 5, 7, 8, 9, 11, 13, 142] rfl ?_
                        refine p_condF (.tmp 142) (by kernel_rfl) rfl ?_
                        refine p_skip (by kernel_rfl) ?_
                        change G _ _ _ _
                        refine p_weaken [0, 1, 5, 7, 8, 9, 11, 13] rfl ?_
                        refine p_seq (by kernel_rfl) ?_
                        refine p_seq (by kernel_rfl) ?_
                        refine p_plain (by kernel_rfl) (0 :: []) (by kernel_rfl) ?_
                        refine go_q (d := 18) (op := .assign (.const (.int .i64 0))) (ty := 3) (g := none) (by kernel_rfl) trivial rfl (qv_assign rfl) ?_
                        refine go_nil ?_
                        change G _ _ _ _
                        refine p_block 6 (by kernel_rfl) ?_
                        refine p_loopE (by kernel_rfl) (fun s m => ∃ (j : Nat), (j ≤ ks.length) ∧ Ge s ⟨[], [(0, .int .i64 n), (1, .slice (some ⟨ba, oa, none⟩) acts.length cl), (5, .pointer (some ⟨bt, 0, none⟩)), (7, .slice p7 ks.length c7), (8, .slice p8 ns.length c8), (9, .int .i64 i), (11, .int .i64 z), (13, .slice p13 bf.length c13), (18, .int .i64 j)], tabO bt bs n many1 :: slotO bs L1 :: (A13 ++ (A7 ++ (A8 ++ R)))⟩ ∧ m = ks.length + 1 - j) ?_ ?_
                        · exact ⟨_, ⟨0, by omega, ⟨rfl, ⟨[0, 1, 5, 7, 8, 9, 11, 13, 18], rfl⟩, (by first | ((repeat first | exact .refl | exact Sb.app | apply Sb.keep | apply Sb.app_keep | apply Sb.skip | apply Sb.app_skip); done) | exact Sb.of_cnt fun x => by (simp only [List.count_append, List.count_cons, List.count_nil]; omega))⟩, rfl⟩⟩
                        · rintro s m ⟨j, hj, hs, rfl⟩
                          refine ge_ok hs ?_
                          refine p_seq (by kernel_rfl) ?_
                          refine p_seq (by kernel_rfl) ?_
                          refine p_plain (by kernel_rfl) (0 :: 1 :: 2 :: 3 :: []) (by kernel_rfl) ?_
                          refine go_q (d := 143) (op := .move (.tmp 18)) (ty := 3) (g := none) (by kernel_rfl) trivial rfl (qv_move rfl) ?_
                          refine go_q (d := 144) (op := .move (.tmp 7)) (ty := 86) (g := none) (by kernel_rfl) trivial rfl (qv_move rfl) ?_
                          refine go_q (d := 145) (op := .call { callee := .builtin .len, args := #[.tmp 144], argTypes := #[86] }) (ty := 3) (g := none) (by kernel_rfl) trivial rfl (qv_lenS un86 rfl) ?_
                          refine go_q (d := 146) (op := .binOp .lss 3 (.tmp 143) (.tmp 145) 3) (ty := 4) (g := none) (by kernel_rfl) trivial rfl (qv_lss rfl rfl rfl) ?_
                          refine go_nil ?_
                          change G _ _ _ _
                          refine p_weaken [0, 1, 5, 7, 8, 9, 11, 13, 18, 146] rfl ?_
                          refine p_cond (.tmp 146) (by kernel_rfl) rfl (fun h146 => ?_) (fun h146 => ?_)
                          · try first | replace h146 := t_nd h146 | replace h146 := f_nd h146 | replace h146 := t_nbb h146 | replace h146 := f_nbb h146 | replace h146 := t_not h146 | replace h146 := f_not h146 | replace h146 := t_eq h146 | replace h146 := f_eq h146 | replace h146 := t_ne h146 | replace h146 := f_ne h146 | replace h146 := t_bb h146 | replace h146 := f_bb h146 | replace h146 := of_decide_eq_true h146 | replace h146 := of_decide_eq_false h146
                            refine p_skip (by kernel_rfl) ?_
                            change G _ _ _ _
                            refine p_weaken [0, 1, 5, 7, 8, 9, 11, 13, 18] rfl ?_
                            refine p_seq (by kernel_rfl) ?_
                            refine p_block 7 (by kernel_rfl) ?_
                            refine p_seq (by kernel_rfl) ?_
                            obtain ⟨b7, o7, cur7, e7, f7, rfl, m7, H7⟩ := h7.lst.at_ (i := j) (by omega)
                            obtain ⟨x, hk⟩ : ∃ x, ks[j]? = some x := ⟨_, List.getElem?_eq_getElem (by omega)⟩
                            have hxw := hK.kwf x (List.mem_of_getElem? hk)
                            have hbl : bf.length = ks.length := by rw [hbf]; simp
                            have hbj : bf[j]? = some (probesV L x) := by rw [hbf, List.getElem?_map, hk]; rfl
                            obtain ⟨b13, o13, cur13, e13, f13, rfl, m13, H13⟩ := h13.lst.at_ (i := j) (by omega)
                            have hl1 := hdel.len hK
                            refine p_draw (by kernel_rfl) mixed 16 16 _ (fun _ h => h) (by kernel_rfl) ?_
                            refine gd_all (0 :: 1 :: 2 :: 3 :: 4 :: 5 :: 6 :: 7 :: 8 :: 9 :: 10 :: 11 :: 12 :: 13 :: 14 :: 15 :: []) _ rfl (by kernel_rfl) (by decide) (fun _ h => h) rfl ?_
                            refine sq_q (d := 149) (op := .move (.tmp 18)) (ty := 3) (g := none) (by kernel_rfl) trivial (fun _ h => nomatch h) (qv_move rfl) ?_
                            refine sq_q (d := 150) (op := .move (.tmp 11)) (ty := 3) (g := none) (by kernel_rfl) trivial (fun _ h => nomatch h) (qv_move rfl) ?_
                            refine sq_q (d := 151) (op := .binOp .neq 3 (.tmp 149) (.tmp 150) 3) (ty := 4) (g := none) (by kernel_rfl) trivial (fun _ h => nomatch h) (qv_neq rfl rfl rfl) ?_
                            refine sq_q (d := 152) (op := .move (.tmp 151)) (ty := 4) (g := none) (by kernel_rfl) trivial (fun _ h => nomatch h) (qv_move rfl) ?_
                            refine sq_case (d := 152) rfl (fun _ => rfl) (fun g152 => ?_) (fun g152 => ?_)
                            · try first | replace g152 := t_nd g152 | replace g152 := f_nd g152 | replace g152 := t_nbb g152 | replace g152 := f_nbb g152 | replace g152 := t_not g152 | replace g152 := f_not g152 | replace g152 := t_eq g152 | replace g152 := f_eq g152 | replace g152 := t_ne g152 | replace g152 := f_ne g152 | replace g152 := t_bb g152 | replace g152 := f_bb g152 | replace g152 := of_decide_eq_true g152 | replace g152 := of_decide_eq_false g152
                              refine sq_q (d := 153) (op := .move (.tmp 5)) (ty := 83) (g := some (3, true)) (by kernel_rfl) ⟨152, by kernel_rfl, rfl⟩ (fun _ h => nomatch h) (qv_move rfl) ?_
                              refine sq_q (d := 154) (op := .move (.tmp 7)) (ty := 86) (g := some (3, true)) (by kernel_rfl) ⟨152, by kernel_rfl, rfl⟩ (fun _ h => nomatch h) (qv_move rfl) ?_
                              refine sq_q (d := 155) (op := .move (.tmp 18)) (ty := 3) (g := some (3, true)) (by kernel_rfl) ⟨152, by kernel_rfl, rfl⟩ (fun _ h => nomatch h) (qv_move rfl) ?_
                              refine sq_q (d := 156) (op := .indexAddr 86 (.tmp 154) (.tmp 155)) (ty := 0) (g := some (3, true)) (by kernel_rfl) ⟨152, by kernel_rfl, rfl⟩ (fun _ h => nomatch h) (qv_index un86 sz27 rfl rfl rfl (by omega)) ?_
                              refine sq_q (d := 157) (op := .load 27 (.tmp 156)) (ty := 27) (g := some (3, true)) (by kernel_rfl) ⟨152, by kernel_rfl, rfl⟩ (fun _ h => nomatch h) (qv_load rfl (At.of_mem (by repeat first | exact m7 | exact List.mem_append_left _ m7 | apply List.mem_cons_of_mem | apply List.mem_append_right)) (ldv_els H7 hk (by decide) agg27 rfl)) ?_
                              refine sq_p (d := 158) (op := .call { callee := .value (.func 40), args := #[.tmp 153, .tmp 157], argTypes := #[83, 27] }) (ty := 3) (g := some (3, true)) (by kernel_rfl) ⟨152, by kernel_rfl, rfl⟩ (pv_callR en40 rfl (by first | ((repeat constructor); done) | (repeat first | exact Sel.nil | exact Sel.all | exact Sel.app | (apply Sel.cons; focus (repeat first | exact Tk.here | apply Tk.next | apply Tk.app)) | apply Sel.skip | apply Sel.skipA)) (ct_ProbesV (many := many1) (bs := bs) (L := L1) hl1 hxw (by omega) (by omega))) ?_
                              refine sq_q (d := 159) (op := .move (.tmp 13)) (ty := 89) (g := some (3, true)) (by kernel_rfl) ⟨152, by kernel_rfl, rfl⟩ (fun _ h => nomatch h) (qv_move rfl) ?_
                              refine sq_q (d := 160) (op := .move (.tmp 18)) (ty := 3) (g := some (3, true)) (by kernel_rfl) ⟨152, by kernel_rfl, rfl⟩ (fun _ h => nomatch h) (qv_move rfl) ?_
                              refine sq_q (d := 161) (op := .indexAddr 89 (.tmp 159) (.tmp 160)) (ty := 0) (g := some (3, true)) (by kernel_rfl) ⟨152, by kernel_rfl, rfl⟩ (fun _ h => nomatch h) (qv_index un89 sz3 rfl rfl rfl (by omega)) ?_
                              refine sq_q (d := 162) (op := .load 3 (.tmp 161)) (ty := 3) (g := some (3, true)) (by kernel_rfl) ⟨152, by kernel_rfl, rfl⟩ (fun _ h => nomatch h) (qv_load rfl (At.of_mem (by repeat first | exact m13 | exact List.mem_append_left _ m13 | apply List.mem_cons_of_mem | apply List.mem_append_right)) (ldv_el H13 hbj sc3 (k := 0) rfl rfl)) ?_
                              refine sq_q (d := 163) (op := .binOp .gtr 3 (.tmp 158) (.tmp 162) 3) (ty := 4) (g := some (3, true)) (by kernel_rfl) ⟨152, by kernel_rfl, rfl⟩ (fun _ h => nomatch h) (qv_gtr (b := false) rfl rfl (decide_eq_false (by have := hdel.less hk g152; omega))) ?_
                              refine sq_q (d := 164) (op := .pick (.tmp 152) (.tmp 163) (.const (.bool false))) (ty := 4) (g := none) (by kernel_rfl) trivial (fun _ h => nomatch h) (qv_pick_t rfl rfl) ?_
                              refine SeqK.nil (fun β => ?_)
                              refine gd_tail [] rfl (by kernel_rfl) (by kernel_rfl) ?_
                              refine go_nil ?_
                              change G _ _ _ _
                              refine p_weaken [0, 1, 5, 7, 8, 9, 11, 13, 18, 164] rfl ?_
                              refine p_condF (.tmp 164) (by kernel_rfl) rfl ?_
                              refine p_skip (by kernel_rfl) ?_
                              change G _ _ _ _
                              refine p_weaken [0, 1, 5, 7, 8, 9, 11, 13, 18] rfl ?_
                              refine p_plain (by kernel_rfl) (0 :: 1 :: 2 :: []) (by kernel_rfl) ?_
                              refine go_q (d := 147) (op := .move (.tmp 18)) (ty := 3) (g := none) (by kernel_rfl) trivial rfl (qv_move rfl) ?_
                              refine go_q (d := 148) (op := .binOp .add 3 (.tmp 147) (.const (.int .i64 1)) 3) (ty := 3) (g := none) (by kernel_rfl) trivial rfl (qv_add rfl rfl (by first | exact IntWalk.i64_in _ (by omega) | exact IntWalk.i64_in _ (by dsimp only; omega) | rfl)) ?_
                              refine go_q (d := 18) (op := .assign (.tmp 148)) (ty := 3) (g := none) (by kernel_rfl) trivial rfl (qv_assign rfl) ?_
                              refine go_nil ?_
                              exact ⟨_, ⟨j + 1, by omega, ⟨rfl, ⟨[0, 1, 5, 7, 8, 9, 11, 13, 18], rfl⟩, (by first | ((repeat first | exact .refl | exact Sb.app | apply Sb.keep | apply Sb.app_keep | apply Sb.skip | apply Sb.app_skip); done) | exact Sb.of_cnt fun x => by (simp only [List.count_append, List.count_cons, List.count_nil]; omega))⟩, rfl⟩, by omega⟩
                            · try first | replace g152 := t_nd g152 | replace g152 := f_nd g152 | replace g152 := t_nbb g152 | replace g152 := f_nbb g152 | replace g152 := t_not g152 | replace g152 := f_not g152 | replace g152 := t_eq g152 | replace g152 := f_eq g152 | replace g152 := t_ne g152 | replace g152 := f_ne g152 | replace g152 := t_bb g152 | replace g152 := f_bb g152 | replace g152 := of_decide_eq_true g152 | replace g152 := of_decide_eq_false g152
                              refine sq_n (d := 153) (op := .move (.tmp 5)) (ty := 83) (g := some (3, true)) (by kernel_rfl) ⟨152, _, by kernel_rfl, rfl, rfl⟩ ?_
                              refine sq_n (d := 154) (op := .move (.tmp 7)) (ty := 86) (g := some (3, true)) (by kernel_rfl) ⟨152, _, by kernel_rfl, rfl, rfl⟩ ?_
                              refine sq_n (d := 155) (op := .move (.tmp 18)) (ty := 3) (g := some (3, true)) (by kernel_rfl) ⟨152, _, by kernel_rfl, rfl, rfl⟩ ?_
                              refine sq_n (d := 156) (op := .indexAddr 86 (.tmp 154) (.tmp 155)) (ty := 0) (g := some (3, true)) (by kernel_rfl) ⟨152, _, by kernel_rfl, rfl, rfl⟩ ?_
                              refine sq_n (d := 157) (op := .load 27 (.tmp 156)) (ty := 27) (g := some (3, true)) (by kernel_rfl) ⟨152, _, by kernel_rfl, rfl, rfl⟩ ?_
                              refine sq_n (d := 158) (op := .call { callee := .value (.func 40), args := #[.tmp 153, .tmp 157], argTypes := #[83, 27] }) (ty := 3) (g := some (3, true)) (by kernel_rfl) ⟨152, _, by kernel_rfl, rfl, rfl⟩ ?_
                              refine sq_n (d := 159) (op := .move (.tmp 13)) (ty := 89) (g := some (3, true)) (by kernel_rfl) ⟨152, _, by kernel_rfl, rfl, rfl⟩ ?_
                              refine sq_n (d := 160) (op := .move (.tmp 18)) (ty := 3) (g := some (3, true)) (by kernel_rfl) ⟨152, _, by kernel_rfl, rfl, rfl⟩ ?_
                              refine sq_n (d := 161) (op := .indexAddr 89 (.tmp 159) (.tmp 160)) (ty := 0) (g := some (3, true)) (by kernel_rfl) ⟨152, _, by kernel_rfl, rfl, rfl⟩ ?_
                              refine sq_n (d := 162) (op := .load 3 (.tmp 161)) (ty := 3) (g := some (3, true)) (by kernel_rfl) ⟨152, _, by kernel_rfl, rfl, rfl⟩ ?_
                              refine sq_n (d := 163) (op := .binOp .gtr 3 (.tmp 158) (.tmp 162) 3) (ty := 4) (g := some (3, true)) (by kernel_rfl) ⟨152, _, by kernel_rfl, rfl, rfl⟩ ?_
                              refine sq_q (d := 164) (op := .pick (.tmp 152) (.tmp 163) (.const (.bool false))) (ty := 4) (g := none) (by kernel_rfl) trivial (fun _ h => nomatch h) (qv_pick_f rfl rfl) ?_
                              refine SeqK.nil (fun β => ?_)
                              refine gd_tail [] rfl (by kernel_rfl) (by kernel_rfl) ?_
                              refine go_nil ?_
                              change G _ _ _ _
                              refine p_weaken [0, 1, 5, 7, 8, 9, 11, 13, 18, 164] rfl ?_
                              refine p_condF (.tmp 164) (by kernel_rfl) rfl ?_
                              refine p_skip (by kernel_rfl) ?_
                              change G _ _ _ _
                              refine p_weaken [0, 1, 5, 7, 8, 9, 11, 13, 18] rfl ?_
                              refine p_plain (by kernel_rfl) (0 :: 1 :: 2 :: []) (by kernel_rfl) ?_
                              refine go_q (d := 147) (op := .move (.tmp 18)) (ty := 3) (g := none) (by kernel_rfl) trivial rfl (qv_move rfl) ?_
                              refine go_q (d := 148) (op := .binOp .add 3 (.tmp 147) (.const (.int .i64 1)) 3) (ty := 3) (g := none) (by kernel_rfl) trivial rfl (qv_add rfl rfl (by first | exact IntWalk.i64_in _ (by omega) | exact IntWalk.i64_in _ (by dsimp only; omega) | rfl)) ?_
                              refine go_q (d := 18) (op := .assign (.tmp 148)) (ty := 3) (g := none) (by kernel_rfl) trivial rfl (qv_assign rfl) ?_
                              refine go_nil ?_
                              exact ⟨_, ⟨j + 1, by omega, ⟨rfl, ⟨[0, 1, 5, 7, 8, 9, 11, 13, 18], rfl⟩, (by first | ((repeat first | exact .refl | exact Sb.app | apply Sb.keep | apply Sb.app_keep | apply Sb.skip | apply Sb.app_skip); done) | exact Sb.of_cnt fun x => by (simp only [List.count_append, List.count_cons, List.count_nil]; omega))⟩, rfl⟩, by omega⟩
                          · try first | replace h146 := t_nd h146 | replace h146 := f_nd h146 | replace h146 := t_nbb h146 | replace h146 := f_nbb h146 | replace h146 := t_not h146 | replace h146 := f_not h146 | replace h146 := t_eq h146 | replace h146 := f_eq h146 | replace h146 := t_ne h146 | replace h146 := f_ne h146 | replace h146 := t_bb h146 | replace h146 := f_bb h146 | replace h146 := of_decide_eq_true h146 | replace h146 := of_decide_eq_false h146
                            refine p_exit 6 (by kernel_rfl) ?_
                            change G _ _ _ _
                            refine p_weaken [0, 1, 5, 7, 8, 9, 11] rfl ?_
                            refine p_seq (by kernel_rfl) ?_
                            refine p_plain (by kernel_rfl) (0 :: 1 :: []) (by kernel_rfl) ?_
                            refine go_q (d := 165) (op := .move (.tmp 11)) (ty := 3) (g := none) (by kernel_rfl) trivial rfl (qv_move rfl) ?_
                            refine go_q (d := 166) (op := .binOp .geq 3 (.tmp 165) (.const (.int .i64 0)) 3) (ty := 4) (g := none) (by kernel_rfl) trivial rfl (qv_geq rfl rfl rfl) ?_
                            refine go_nil ?_
                            change G _ _ _ _
                            refine p_weaken [0, 1, 5, 7, 8, 9, 11, 166] rfl ?_
                            refine p_cond (.tmp 166) (by kernel_rfl) rfl (fun h166 => ?_) (fun h166 => ?_)
                            · try first | replace h166 := t_nd h166 | replace h166 := f_nd h166 | replace h166 := t_nbb h166 | replace h166 := f_nbb h166 | replace h166 := t_not h166 | replace h166 := f_not h166 | replace h166 := t_eq h166 | replace h166 := f_eq h166 | replace h166 := t_ne h166 | replace h166 := f_ne h166 | replace h166 := t_bb h166 | replace h166 := f_bb h166 | replace h166 := of_decide_eq_true h166 | replace h166 := of_decide_eq_false h166
                              obtain ⟨zn, hzn, hzl, hKn, rfl⟩ := hdel.some_ h166
                              refine p_seq (by kernel_rfl) ?_
                              obtain ⟨b7, cur7, rfl, rfl, hc1, hc2, hc3, H7⟩ := h7.some_ (by omega)
                              obtain ⟨b8, cur8, rfl, rfl, hd1, hd2, hd3, H8⟩ := h8.some_ (by omega)
                              have hzl8 : zn < ns.length := by omega
                              obtain ⟨kl, hkl⟩ : ∃ kl, ks[ks.length - 1]? = some kl := ⟨_, List.getElem?_eq_getElem (by omega)⟩
                              obtain ⟨nl, hnl⟩ : ∃ nl, ns[ns.length - 1]? = some nl := ⟨_, List.getElem?_eq_getElem (by omega)⟩
                              refine p_plain (by kernel_rfl) (0 :: 1 :: 2 :: 3 :: 4 :: 5 :: 6 :: 7 :: 8 :: 9 :: []) (by kernel_rfl) ?_
                              refine go_q (d := 167) (op := .move (.tmp 7)) (ty := 86) (g := none) (by kernel_rfl) trivial rfl (qv_move rfl) ?_
                              refine go_q (d := 168) (op := .move (.tmp 11)) (ty := 3) (g := none) (by kernel_rfl) trivial rfl (qv_move rfl) ?_
                              refine go_q (d := 169) (op := .move (.tmp 7)) (ty := 86) (g := none) (by kernel_rfl) trivial rfl (qv_move rfl) ?_
                              refine go_q (d := 170) (op := .move (.tmp 7)) (ty := 86) (g := none) (by kernel_rfl) trivial rfl (qv_move rfl) ?_
                              refine go_q (d := 171) (op := .call { callee := .builtin .len, args := #[.tmp 170], argTypes := #[86] }) (ty := 3) (g := none) (by kernel_rfl) trivial rfl (qv_lenS un86 rfl) ?_
                              refine go_q (d := 172) (op := .binOp .sub 3 (.tmp 171) (.const (.int .i64 1)) 3) (ty := 3) (g := none) (by kernel_rfl) trivial rfl (qv_sub rfl rfl (by first | exact IntWalk.i64_in _ (by omega) | exact IntWalk.i64_in _ (by dsimp only; omega) | rfl)) ?_
                              refine go_q (d := 173) (op := .indexAddr 86 (.tmp 169) (.tmp 172)) (ty := 0) (g := none) (by kernel_rfl) trivial rfl (qv_index un86 sz27 rfl rfl (show (ks.length : Int) - 1 = ((ks.length - 1 : Nat) : Int) by omega) (by omega)) ?_
                              refine go_q (d := 174) (op := .load 27 (.tmp 173)) (ty := 27) (g := none) (by kernel_rfl) trivial rfl (qv_load rfl (by repeat first | exact .here | apply At.next | apply At.app) (ldv_els H7 hkl (by decide) agg27 rfl)) ?_
                              refine go_q (d := 175) (op := .indexAddr 86 (.tmp 167) (.tmp 168)) (ty := 0) (g := none) (by kernel_rfl) trivial rfl (qv_index un86 sz27 rfl rfl hzn hzl) ?_
                              refine go_s (d := none) (op := .store 27 (.tmp 175) (.tmp 174)) (ty := 0) (g := none) (by kernel_rfl) trivial ?_
                              refine os_store rfl rfl sz27 rfl (one_Key _) (by repeat first | exact .here | apply Up.next | apply Up.app) (own_fit hc1 hc3 hzl) rfl ?_
                              have h7p := OwnL.put (e := 27) (b := b7) kl hc1 hc2 hc3 H7 hzl
                              have h7n := (swapOut_eq hkl zn).symm ▸ h7p.cut (ks.length - 1)
                              refine go_nil ?_
                              change G _ _ _ _
                              refine p_weaken [0, 1, 5, 7, 8, 9, 11] rfl ?_
                              refine p_seq (by kernel_rfl) ?_
                              refine p_plain (by kernel_rfl) (0 :: 1 :: 2 :: 3 :: 4 :: 5 :: 6 :: 7 :: 8 :: 9 :: []) (by kernel_rfl) ?_
                              refine go_q (d := 176) (op := .move (.tmp 8)) (ty := 29) (g := none) (by kernel_rfl) trivial rfl (qv_move rfl) ?_
                              refine go_q (d := 177) (op := .move (.tmp 11)) (ty := 3) (g := none) (by kernel_rfl) trivial rfl (qv_move rfl) ?_
                              refine go_q (d := 178) (op := .move (.tmp 8)) (ty := 29) (g := none) (by kernel_rfl) trivial rfl (qv_move rfl) ?_
                              refine go_q (d := 179) (op := .move (.tmp 8)) (ty := 29) (g := none) (by kernel_rfl) trivial rfl (qv_move rfl) ?_
                              refine go_q (d := 180) (op := .call { callee := .builtin .len, args := #[.tmp 179], argTypes := #[29] }) (ty := 3) (g := none) (by kernel_rfl) trivial rfl (qv_lenS un29 rfl) ?_
                              refine go_q (d := 181) (op := .binOp .sub 3 (.tmp 180) (.const (.int .i64 1)) 3) (ty := 3) (g := none) (by kernel_rfl) trivial rfl (qv_sub rfl rfl (by first | exact IntWalk.i64_in _ (by omega) | exact IntWalk.i64_in _ (by dsimp only; omega) | rfl)) ?_
                              refine go_q (d := 182) (op := .indexAddr 29 (.tmp 178) (.tmp 181)) (ty := 0) (g := none) (by kernel_rfl) trivial rfl (qv_index un29 sz30 rfl rfl (show (ns.length : Int) - 1 = ((ns.length - 1 : Nat) : Int) by omega) (by omega)) ?_
                              refine go_q (d := 183) (op := .load 30 (.tmp 182)) (ty := 30) (g := none) (by kernel_rfl) trivial rfl (qv_load rfl (by repeat first | exact .here | apply At.next | apply At.app) (ldv_el H8 hnl sc30 (k := 0) rfl rfl)) ?_
                              refine go_q (d := 184) (op := .indexAddr 29 (.tmp 176) (.tmp 177)) (ty := 0) (g := none) (by kernel_rfl) trivial rfl (qv_index un29 sz30 rfl rfl hzn hzl8) ?_
                              refine go_s (d := none) (op := .store 30 (.tmp 184) (.tmp 183)) (ty := 0) (g := none) (by kernel_rfl) trivial ?_
                              refine os_store1 rfl rfl sz30 rfl rfl (by repeat first | exact .here | apply Up.next | apply Up.app) (own_fit hd1 hd3 hzl8) (splice_one (own_fit hd1 hd3 hzl8)).symm ?_
                              have h8p := OwnL.put (e := 30) (b := b8) nl hd1 hd2 hd3 H8 hzl8
                              have h8n := (swapOut_eq hnl zn).symm ▸ h8p.cut (ns.length - 1)
                              refine go_nil ?_
                              change G _ _ _ _
                              refine p_weaken [0, 1, 5, 7, 8, 9] rfl ?_
                              refine p_seq (by kernel_rfl) ?_
                              refine p_plain (by kernel_rfl) (0 :: 1 :: 2 :: 3 :: 4 :: 5 :: []) (by kernel_rfl) ?_
                              refine go_q (d := 185) (op := .move (.tmp 7)) (ty := 86) (g := none) (by kernel_rfl) trivial rfl (qv_move rfl) ?_
                              refine go_q (d := 186) (op := .move (.tmp 7)) (ty := 86) (g := none) (by kernel_rfl) trivial rfl (qv_move rfl) ?_
                              refine go_q (d := 187) (op := .call { callee := .builtin .len, args := #[.tmp 186], argTypes := #[86] }) (ty := 3) (g := none) (by kernel_rfl) trivial rfl (qv_lenS un86 rfl) ?_
                              refine go_q (d := 188) (op := .binOp .sub 3 (.tmp 187) (.const (.int .i64 1)) 3) (ty := 3) (g := none) (by kernel_rfl) trivial rfl (qv_sub rfl rfl (by first | exact IntWalk.i64_in _ (by omega) | exact IntWalk.i64_in _ (by dsimp only; omega) | rfl)) ?_
                              refine go_q (d := 189) (op := .slice 86 (.tmp 185) none (some (.tmp 188)) none) (ty := 86) (g := none) (by kernel_rfl) trivial rfl (qv_cutO (h := (swapOut ks zn).length) h7n un86 sz27 rfl rfl (by rw [swapOut_len hzl]; omega) (by rw [swapOut_len hzl]; omega)) ?_
                              refine go_q (d := 7) (op := .assign (.tmp 189)) (ty := 86) (g := none) (by kernel_rfl) trivial rfl (qv_assign rfl) ?_
                              refine go_nil ?_
                              change G _ _ _ _
                              refine p_weaken [0, 1, 5, 7, 8, 9] rfl ?_
                              refine p_plain (by kernel_rfl) (0 :: 1 :: 2 :: 3 :: 4 :: 5 :: []) (by kernel_rfl) ?_
                              refine go_q (d := 190) (op := .move (.tmp 8)) (ty := 29) (g := none) (by kernel_rfl) trivial rfl (qv_move rfl) ?_
                              refine go_q (d := 191) (op := .move (.tmp 8)) (ty := 29) (g := none) (by kernel_rfl) trivial rfl (qv_move rfl) ?_
                              refine go_q (d := 192) (op := .call { callee := .builtin .len, args := #[.tmp 191], argTypes := #[29] }) (ty := 3) (g := none) (by kernel_rfl) trivial rfl (qv_lenS un29 rfl) ?_
                              refine go_q (d := 193) (op := .binOp .sub 3 (.tmp 192) (.const (.int .i64 1)) 3) (ty := 3) (g := none) (by kernel_rfl) trivial rfl (qv_sub rfl rfl (by first | exact IntWalk.i64_in _ (by omega) | exact IntWalk.i64_in _ (by dsimp only; omega) | rfl)) ?_
                              refine go_q (d := 194) (op := .slice 29 (.tmp 190) none (some (.tmp 193)) none) (ty := 29) (g := none) (by kernel_rfl) trivial rfl (qv_cutO (h := (swapOut ns zn).length) h8n un29 sz30 rfl rfl (by rw [swapOut_len hzl8]; omega) (by rw [swapOut_len hzl8]; omega)) ?_
                              refine go_q (d := 8) (op := .assign (.tmp 194)) (ty := 29) (g := none) (by kernel_rfl) trivial rfl (qv_assign rfl) ?_
                              refine go_nil ?_
                              exact ⟨_, _, _, _, _, _, _, _, _, hKn, h7n, h8n, ⟨rfl, ⟨[0, 1, 5, 7, 8, 9], rfl⟩, (by first | ((repeat first | exact .refl | exact Sb.app | apply Sb.keep | apply Sb.app_keep | apply Sb.skip | apply Sb.app_skip); done) | exact Sb.of_cnt fun x => by (simp only [List.count_append, List.count_cons, List.count_nil]; omega))⟩⟩
                            · try first | replace h166 := t_nd h166 | replace h166 := f_nd h166 | replace h166 := t_nbb h166 | replace h166 := f_nbb h166 | replace h166 := t_not h166 | replace h166 := f_not h166 | replace h166 := t_eq h166 | replace h166 := f_eq h166 | replace h166 := t_ne h166 | replace h166 := f_ne h166 | replace h166 := t_bb h166 | replace h166 := f_bb h166 | replace h166 := of_decide_eq_true h166 | replace h166 := of_decide_eq_false h166
                              obtain ⟨hKn, rfl⟩ := hdel.none_ hK h166
                              have h7n := h7
                              have h8n := h8
                              refine p_skip (by kernel_rfl) ?_
                              exact ⟨_, _, _, _, _, _, _, _, _, hKn, h7n, h8n, ⟨rfl, ⟨[0, 1, 5, 7, 8, 9], rfl⟩, (by first | ((repeat first | exact .refl | exact Sb.app | apply Sb.keep | apply Sb.app_keep | apply Sb.skip | apply Sb.app_skip); done) | exact Sb.of_cnt fun x => by (simp only [List.count_append, List.count_cons, List.count_nil]; omega))⟩⟩
                      · try first | replace h135 := t_nd h135 | replace h135 := f_nd h135 | replace h135 := t_nbb h135 | replace h135 := f_nbb h135 | replace h135 := t_not h135 | replace h135 := f_not h135 | replace h135 := t_eq h135 | replace h135 := f_eq h135 | replace h135 := t_ne h135 | replace h135 := f_ne h135 | replace h135 := t_bb h135 | replace h135 := f_bb h135 | replace h135 := of_decide_eq_true h135 | replace h135 := of_decide_eq_false h135
                        have hKn := hK
                        have h7n := h7
                        have h8n := h8
                        refine p_skip (by kernel_rfl) ?_
                        exact ⟨_, _, _, _, _, _, _, _, _, hKn, h7n, h8n, ⟨rfl, ⟨[0, 1, 5, 7, 8, 9], rfl⟩, (by first | ((repeat first | exact .refl | exact Sb.app | apply Sb.keep | apply Sb.app_keep | apply Sb.skip | apply Sb.app_skip); done) | exact Sb.of_cnt fun x => by (simp only [List.count_append, List.count_cons, List.count_nil]; omega))⟩⟩
                  · rintro s ⟨L2, ks2, ns2, q7, d7, B7, q8, d8, B8, hK2, g7, g8, hs⟩
                    refine ge_ok hs ?_
                    refine p_seq (by kernel_rfl) ?_
                    refine p_seq (by kernel_rfl) ?_
                    refine p_plain (by kernel_rfl) (0 :: 1 :: 2 :: 3 :: 4 :: []) (by kernel_rfl) ?_
                    refine go_q (d := 195) (op := .move (.tmp 5)) (ty := 83) (g := none) (by kernel_rfl) trivial rfl (qv_move rfl) ?_
                    refine go_s (d := some 196) (op := .call { callee := .value (.func 45), args := #[.tmp 195], argTypes := #[83] }) (ty := 3) (g := none) (by kernel_rfl) trivial ?_
                    refine os_pv rfl (pv_callR en45 rfl (by first | ((repeat constructor); done) | (repeat first | exact Sel.nil | exact Sel.all | exact Sel.app | (apply Sel.cons; focus (repeat first | exact Tk.here | apply Tk.next | apply Tk.app)) | apply Sel.skip | apply Sel.skipA)) (ct_Len bt bs n ks2.length)) ?_
                    refine go_q (d := 197) (op := .move (.tmp 7)) (ty := 86) (g := none) (by kernel_rfl) trivial rfl (qv_move rfl) ?_
                    refine go_q (d := 198) (op := .call { callee := .builtin .len, args := #[.tmp 197], argTypes := #[86] }) (ty := 3) (g := none) (by kernel_rfl) trivial rfl (qv_lenS un86 rfl) ?_
                    refine go_q (d := 199) (op := .binOp .neq 3 (.tmp 196) (.tmp 198) 3) (ty := 4) (g := none) (by kernel_rfl) trivial rfl (qv_neq (b := false) rfl rfl (bne_eq_false_iff_eq.2 (by omega))) ?_
                    refine go_nil ?_
                    change G _ _ _ _
                    refine p_weaken [0, 1, 5, 7, 8, 9, 199] rfl ?_
                    refine p_condF (.tmp 199) (by kernel_rfl) rfl ?_
                    refine p_skip (by kernel_rfl) ?_
                    change G _ _ _ _
                    refine p_weaken [0, 1, 5, 7, 8, 9] rfl ?_
                    refine p_seq (by kernel_rfl) ?_
                    refine p_seq (by kernel_rfl) ?_
                    refine p_plain (by kernel_rfl) (0 :: []) (by kernel_rfl) ?_
                    refine go_q (d := 19) (op := .assign (.const (.int .i64 0))) (ty := 3) (g := none) (by kernel_rfl) trivial rfl (qv_assign rfl) ?_
                    refine go_nil ?_
                    change G _ _ _ _
                    refine p_block 8 (by kernel_rfl) ?_
                    refine p_loopE (by kernel_rfl) (fun s m => ∃ (j : Nat), (j ≤ ks2.length) ∧ Ge s ⟨[], [(0, .int .i64 n), (1, .slice (some ⟨ba, oa, none⟩) acts.length cl), (5, .pointer (some ⟨bt, 0, none⟩)), (7, .slice q7 ks2.length d7), (8, .slice q8 ns2.length d8), (9, .int .i64 i), (19, .int .i64 j)], tabO bt bs n ks2.length :: slotO bs L2 :: (B7 ++ (B8 ++ R))⟩ ∧ m = ks2.length + 1 - j) ?_ ?_
                    · exact ⟨_, ⟨0, by omega, ⟨rfl, ⟨[0, 1, 5, 7, 8, 9, 19], rfl⟩, (by first | ((repeat first | exact .refl | exact Sb.app | apply Sb.keep | apply Sb.app_keep | apply Sb.skip | apply Sb.app_skip); done) | exact Sb.of_cnt fun x => by (simp only [List.count_append, List.count_cons, List.count_nil]; omega))⟩, rfl⟩⟩
                    · rintro s m ⟨j, hj, hs, rfl⟩
                      refine ge_ok hs ?_
                      refine p_seq (by kernel_rfl) ?_
                      refine p_seq (by kernel_rfl) ?_
                      refine p_plain (by kernel_rfl) (0 :: 1 :: 2 :: 3 :: []) (by kernel_rfl) ?_
                      refine go_q (d := 200) (op := .move (.tmp 19)) (ty := 3) (g := none) (by kernel_rfl) trivial rfl (qv_move rfl) ?_
                      refine go_q (d := 201) (op := .move (.tmp 7)) (ty := 86) (g := none) (by kernel_rfl) trivial rfl (qv_move rfl) ?_
                      refine go_q (d := 202) (op := .call { callee := .builtin .len, args := #[.tmp 201], argTypes := #[86] }) (ty := 3) (g := none) (by kernel_rfl) trivial rfl (qv_lenS un86 rfl) ?_
                      refine go_q (d := 203) (op := .binOp .lss 3 (.tmp 200) (.tmp 202) 3) (ty := 4) (g := none) (by kernel_rfl) trivial rfl (qv_lss rfl rfl rfl) ?_
                      refine go_nil ?_
                      change G _ _ _ _
                      refine p_weaken [0, 1, 5, 7, 8, 9, 19, 203] rfl ?_
                      refine p_cond (.tmp 203) (by kernel_rfl) rfl (fun h203 => ?_) (fun h203 => ?_)
                      · try first | replace h203 := t_nd h203 | replace h203 := f_nd h203 | replace h203 := t_nbb h203 | replace h203 := f_nbb h203 | replace h203 := t_not h203 | replace h203 := f_not h203 | replace h203 := t_eq h203 | replace h203 := f_eq h203 | replace h203 := t_ne h203 | replace h203 := f_ne h203 | replace h203 := t_bb h203 | replace h203 := f_bb h203 | replace h203 := of_decide_eq_true h203 | replace h203 := of_decide_eq_false h203
                        refine p_skip (by kernel_rfl) ?_
                        change G _ _ _ _
                        refine p_weaken [0, 1, 5, 7, 8, 9, 19] rfl ?_
                        refine p_seq (by kernel_rfl) ?_
                        refine p_block 9 (by kernel_rfl) ?_
                        refine p_seq (by kernel_rfl) ?_
                        obtain ⟨b7, o7, cur7, e7, f7, rfl, m7, H7⟩ := g7.lst.at_ (i := j) (by omega)
                        obtain ⟨b8, o8, cur8, e8, f8, rfl, m8, H8⟩ := g8.lst.at_ (i := j) (by have := hK2.len; omega)
                        obtain ⟨x, hk⟩ : ∃ x, ks2[j]? = some x := ⟨_, List.getElem?_eq_getElem (by omega)⟩
                        obtain ⟨y, hy⟩ : ∃ y, ns2[j]? = some y := ⟨_, List.getElem?_eq_getElem (by have := hK2.len; omega)⟩
                        have hnl2 := hK2.len
                        have hle2 := hK2.le
                        refine p_plain (by kernel_rfl) (0 :: 1 :: 2 :: 3 :: 4 :: 5 :: 6 :: 7 :: 8 :: 9 :: 10 :: []) (by kernel_rfl) ?_
                        refine go_q (d := 207) (op := .move (.tmp 5)) (ty := 83) (g := none) (by kernel_rfl) trivial rfl (qv_move rfl) ?_
                        refine go_q (d := 208) (op := .move (.tmp 7)) (ty := 86) (g := none) (by kernel_rfl) trivial rfl (qv_move rfl) ?_
                        refine go_q (d := 209) (op := .move (.tmp 19)) (ty := 3) (g := none) (by kernel_rfl) trivial rfl (qv_move rfl) ?_
                        refine go_q (d := 210) (op := .indexAddr 86 (.tmp 208) (.tmp 209)) (ty := 0) (g := none) (by kernel_rfl) trivial rfl (qv_index un86 sz27 rfl rfl rfl (by omega)) ?_
                        refine go_q (d := 211) (op := .load 27 (.tmp 210)) (ty := 27) (g := none) (by kernel_rfl) trivial rfl (qv_load rfl (At.of_mem (by repeat first | exact m7 | exact List.mem_append_left _ m7 | apply List.mem_cons_of_mem | apply List.mem_append_right)) (ldv_els H7 hk (by decide) agg27 rfl)) ?_
                        refine go_s (d := some 212) (op := .call { callee := .value (.func 46), args := #[.tmp 207, .tmp 211], argTypes := #[83, 27] }) (ty := 95) (g := none) (by kernel_rfl) trivial ?_
                        refine os_pv rfl (pv_callR en46 rfl (by first | ((repeat constructor); done) | (repeat first | exact Sel.nil | exact Sel.all | exact Sel.app | (apply Sel.cons; focus (repeat first | exact Tk.here | apply Tk.next | apply Tk.app)) | apply Sel.skip | apply Sel.skipA)) (ct_GetK (many := ks2.length) (bs := bs) hn hK2 hk hy)) ?_
                        refine go_q (d := 206) (op := .move (.tmp 212)) (ty := 95) (g := none) (by kernel_rfl) trivial rfl (qv_move rfl) ?_
                        refine go_q (d := 213) (op := .extract (.tmp 206) 0) (ty := 30) (g := none) (by kernel_rfl) trivial rfl (qv_extract rfl rfl) ?_
                        refine go_q (d := 214) (op := .extract (.tmp 206) 1) (ty := 4) (g := none) (by kernel_rfl) trivial rfl (qv_extract rfl rfl) ?_
                        refine go_q (d := 20) (op := .assign (.tmp 213)) (ty := 30) (g := none) (by kernel_rfl) trivial rfl (qv_assign rfl) ?_
                        refine go_q (d := 21) (op := .assign (.tmp 214)) (ty := 4) (g := none) (by kernel_rfl) trivial rfl (qv_assign rfl) ?_
                        refine go_nil ?_
                        change G _ _ _ _
                        refine p_weaken [0, 1, 5, 7, 8, 9, 19, 20, 21] rfl ?_
                        refine p_seq (by kernel_rfl) ?_
                        refine p_plain (by kernel_rfl) (0 :: 1 :: 2 :: 3 :: 4 :: 5 :: 6 :: 7 :: 8 :: 9 :: []) (by kernel_rfl) ?_
                        refine go_q (d := 215) (op := .move (.tmp 21)) (ty := 4) (g := none) (by kernel_rfl) trivial rfl (qv_move rfl) ?_
                        refine go_q (d := 216) (op := .unOp .not 4 (.tmp 215)) (ty := 4) (g := none) (by kernel_rfl) trivial rfl (qv_not rfl) ?_
                        refine go_q (d := 217) (op := .move (.tmp 216)) (ty := 4) (g := none) (by kernel_rfl) trivial rfl (qv_move rfl) ?_
                        refine go_q (d := 218) (op := .move (.tmp 20)) (ty := 30) (g := some (2, false)) (by kernel_rfl) ⟨217, by kernel_rfl, rfl⟩ rfl (qv_move rfl) ?_
                        refine go_q (d := 219) (op := .move (.tmp 8)) (ty := 29) (g := some (2, false)) (by kernel_rfl) ⟨217, by kernel_rfl, rfl⟩ rfl (qv_move rfl) ?_
                        refine go_q (d := 220) (op := .move (.tmp 19)) (ty := 3) (g := some (2, false)) (by kernel_rfl) ⟨217, by kernel_rfl, rfl⟩ rfl (qv_move rfl) ?_
                        refine go_q (d := 221) (op := .indexAddr 29 (.tmp 219) (.tmp 220)) (ty := 0) (g := some (2, false)) (by kernel_rfl) ⟨217, by kernel_rfl, rfl⟩ rfl (qv_index un29 sz30 rfl rfl rfl (by omega)) ?_
                        refine go_q (d := 222) (op := .load 30 (.tmp 221)) (ty := 30) (g := some (2, false)) (by kernel_rfl) ⟨217, by kernel_rfl, rfl⟩ rfl (qv_load rfl (At.of_mem (by repeat first | exact m8 | exact List.mem_append_left _ m8 | apply List.mem_cons_of_mem | apply List.mem_append_right)) (ldv_el H8 hy sc30 (k := 0) rfl rfl)) ?_
                        refine go_q (d := 223) (op := .binOp .neq 30 (.tmp 218) (.tmp 222) 30) (ty := 4) (g := some (2, false)) (by kernel_rfl) ⟨217, by kernel_rfl, rfl⟩ rfl (qv_neq (b := false) rfl rfl (bne_eq_false_iff_eq.2 (by omega))) ?_
                        refine go_q (d := 224) (op := .pick (.tmp 217) (.const (.bool true)) (.tmp 223)) (ty := 4) (g := none) (by kernel_rfl) trivial rfl (qv_pick_f rfl rfl) ?_
                        refine go_nil ?_
                        change G _ _ _ _
                        refine p_weaken [0, 1, 5, 7, 8, 9, 19, 224] rfl ?_
                        refine p_condF (.tmp 224) (by kernel_rfl) rfl ?_
                        refine p_skip (by kernel_rfl) ?_
                        change G _ _ _ _
                        refine p_weaken [0, 1, 5, 7, 8, 9, 19] rfl ?_
                        refine p_plain (by kernel_rfl) (0 :: 1 :: 2 :: []) (by kernel_rfl) ?_
                        refine go_q (d := 204) (op := .move (.tmp 19)) (ty := 3) (g := none) (by kernel_rfl) trivial rfl (qv_move rfl) ?_
                        refine go_q (d := 205) (op := .binOp .add 3 (.tmp 204) (.const (.int .i64 1)) 3) (ty := 3) (g := none) (by kernel_rfl) trivial rfl (qv_add rfl rfl (by first | exact IntWalk.i64_in _ (by omega) | exact IntWalk.i64_in _ (by dsimp only; omega) | rfl)) ?_
                        refine go_q (d := 19) (op := .assign (.tmp 205)) (ty := 3) (g := none) (by kernel_rfl) trivial rfl (qv_assign rfl) ?_
                        refine go_nil ?_
                        exact ⟨_, ⟨j + 1, by omega, ⟨rfl, ⟨[0, 1, 5, 7, 8, 9, 19], rfl⟩, (by first | ((repeat first | exact .refl | exact Sb.app | apply Sb.keep | apply Sb.app_keep | apply Sb.skip | apply Sb.app_skip); done) | exact Sb.of_cnt fun x => by (simp only [List.count_append, List.count_cons, List.count_nil]; omega))⟩, rfl⟩, by omega⟩
                      · try first | replace h203 := t_nd h203 | replace h203 := f_nd h203 | replace h203 := t_nbb h203 | replace h203 := f_nbb h203 | replace h203 := t_not h203 | replace h203 := f_not h203 | replace h203 := t_eq h203 | replace h203 := f_eq h203 | replace h203 := t_ne h203 | replace h203 := f_ne h203 | replace h203 := t_bb h203 | replace h203 := f_bb h203 | replace h203 := of_decide_eq_true h203 | replace h203 := of_decide_eq_false h203
                        refine p_exit 8 (by kernel_rfl) ?_
                        change G _ _ _ _
                        refine p_weaken [0, 1, 5, 7, 8, 9] rfl ?_
                        refine p_seq (by kernel_rfl) ?_
                        refine p_plain (by kernel_rfl) (0 :: 1 :: 2 :: []) (by kernel_rfl) ?_
                        refine go_q (d := 225) (op := .move (.tmp 5)) (ty := 83) (g := none) (by kernel_rfl) trivial rfl (qv_move rfl) ?_
                        refine go_s (d := some 226) (op := .call { callee := .value (.func 47), args := #[.tmp 225], argTypes := #[83] }) (ty := 4) (g := none) (by kernel_rfl) trivial ?_
                        refine os_pv rfl (pv_callR en47 rfl (by first | ((repeat constructor); done) | (repeat first | exact Sel.nil | exact Sel.all | exact Sel.app | (apply Sel.cons; focus (repeat first | exact Tk.here | apply Tk.next | apply Tk.app)) | apply Sel.skip | apply Sel.skipA)) (ct_reached (many := ks2.length) (bs := bs) (bt := bt) hn hK2)) ?_
                        refine go_q (d := 227) (op := .unOp .not 4 (.tmp 226)) (ty := 4) (g := none) (by kernel_rfl) trivial rfl (qv_not rfl) ?_
                        refine go_nil ?_
                        change G _ _ _ _
                        refine p_weaken [0, 1, 5, 7, 8, 9, 227] rfl ?_
                        refine p_condF (.tmp 227) (by kernel_rfl) rfl ?_
                        refine p_skip (by kernel_rfl) ?_
                        change G _ _ _ _
                        refine p_weaken [0, 1, 5, 7, 8, 9] rfl ?_
                        refine p_plain (by kernel_rfl) (0 :: 1 :: 2 :: []) (by kernel_rfl) ?_
                        refine go_q (d := 46) (op := .move (.tmp 9)) (ty := 3) (g := none) (by kernel_rfl) trivial rfl (qv_move rfl) ?_
                        refine go_q (d := 47) (op := .binOp .add 3 (.tmp 46) (.const (.int .i64 1)) 3) (ty := 3) (g := none) (by kernel_rfl) trivial rfl (qv_add rfl rfl (by first | exact IntWalk.i64_in _ (by omega) | exact IntWalk.i64_in _ (by dsimp only; omega) | rfl)) ?_
                        refine go_q (d := 9) (op := .assign (.tmp 47)) (ty := 3) (g := none) (by kernel_rfl) trivial rfl (qv_assign rfl) ?_
                        refine go_nil ?_
                        exact ⟨_, ⟨i + 1, L2, ks2, ns2, q7, d7, B7, q8, d8, B8, by omega, hK2, g7, g8, ⟨rfl, ⟨[0, 1, 5, 7, 8, 9], rfl⟩, (by first | ((repeat first | exact .refl | exact Sb.app | apply Sb.keep | apply Sb.app_keep | apply Sb.skip | apply Sb.app_skip); done) | exact Sb.of_cnt fun x => by (simp only [List.count_append, List.count_cons, List.count_nil]; omega))⟩, rfl⟩, by omega⟩
        · try first | replace h45 := t_nd h45 | replace h45 := f_nd h45 | replace h45 := t_nbb h45 | replace h45 := f_nbb h45 | replace h45 := t_not h45 | replace h45 := f_not h45 | replace h45 := t_eq h45 | replace h45 := f_eq h45 | replace h45 := t_ne h45 | replace h45 := f_ne h45 | replace h45 := t_bb h45 | replace h45 := f_bb h45 | replace h45 := of_decide_eq_true h45 | replace h45 := of_decide_eq_false h45
          refine p_exit 0 (by kernel_rfl) ?_
          change G _ _ _ _
          refine p_weaken [] rfl ?_
          refine p_seq (by kernel_rfl) ?_
          refine p_plain (by kernel_rfl) (0 :: 1 :: []) (by kernel_rfl) ?_
          refine go_s (d := some 228) (op := .call { callee := .value (.func 38), args := #[], argTypes := #[] }) (ty := 4) (g := none) (by kernel_rfl) trivial ?_
          refine os_callP rfl en38 rfl (pu_works23) ?_
          refine go_q (d := 4) (op := .assign (.tmp 228)) (ty := 4) (g := none) (by kernel_rfl) trivial rfl (qv_assign rfl) ?_
          refine go_nil ?_
          change G _ _ _ _
          refine p_weaken [4] rfl ?_
          refine p_ret (by kernel_rfl) ?_
          try dsimp only [thenQ, inBlockQ]
          try rw [if_pos rfl]
          refine ret_left (R) (.inr rfl) (.cons (res_tmp rfl) .nil) (by first | ((repeat first | exact .refl | exact Sb.app | apply Sb.keep | apply Sb.app_keep | apply Sb.skip | apply Sb.app_skip); done) | exact Sb.of_cnt fun x => by (simp only [List.count_append, List.count_cons, List.count_nil]; omega)) ?_
          exact ⟨rfl, rfl⟩
theorem ct_TableKeepsAll (s : Int) (acts : List Act23) (R : Mem) (pl : Option Addr) (cl : Nat) (hl : Lst eAct23 pl acts R) (hwf : ∀ a ∈ acts, a.Wf) :
    Ct Try.prog 6 [.int .i64 s, .slice pl acts.length cl].toArray R (fun v M' => v = .bool true ∧ M' = R) := by
  cases h : okSize s with
  | false => exact ct_TableKeepsBad s acts R pl cl h
  | true =>
    obtain ⟨n, rfl⟩ : ∃ n : Nat, s = n := ⟨s.toNat, by have := (okSize_pos h).1; omega⟩
    exact ct_TableKeeps n acts R pl cl h hl fun a ha => (hwf a ha).k_
end Go.Proofs.Ytobmcpoejhhemaa
