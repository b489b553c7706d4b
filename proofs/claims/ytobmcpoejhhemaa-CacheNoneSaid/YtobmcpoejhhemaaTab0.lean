/- Contracts: a table that is not there; a table that is made. -/
import Derived.Test.YtobmcpoejhhemaaTab2
namespace Go.Proofs.Ytobmcpoejhhemaa
open Go.E

theorem pu_find0 (k : Key) : Pu Try.prog 93 [.pointer none, .agg k.c] (.tuple #[.int .i64 (-1), .int .i64 0]) := by
  refine ct_body (rv := [.cell 4 3, .cell 5 3]) [(0, _), (1, _)] Try.func93 (by kernel_rfl) Try.ntmps93 Try.results93 rfl rfl (fun w0 => ?_)
  refine p_seq0 ?_
  refine p_plain0 (0 :: 1 :: 2 :: 3 :: []) ?_
  refine go_s0 (some 2) (.box 83 (.tmp 0)) 0 ?_
  refine os_box1 rfl rfl rfl (fun b2 => ?_)
  refine go_s0 (some 3) (.box 27 (.tmp 1)) 0 ?_
  refine os_boxA rfl rfl (fun b3 => ?_)
  refine go_s0 (some 4) (.alloc 3) 0 ?_
  refine os_alloc1 rfl ze3 rfl (fun b4 => ?_)
  refine go_s0 (some 5) (.alloc 3) 0 ?_
  refine os_alloc1 rfl ze3 rfl (fun b5 => ?_)
  refine go_nil ?_
  change G _ _ _ _
  refine p_weaken [2, 3, 4, 5] rfl ?_
  refine p_seq0 ?_
  refine p_seq0 ?_
  refine p_plain0 (0 :: 1 :: []) ?_
  refine go_q0 7 (.load 83 (.tmp 2)) 83 (qv_load rfl .auto (ldv_sca sc83 (get_one _))) ?_
  refine go_q0 8 (.binOp .eql 83 (.tmp 7) (.const (.pointer none)) 83) 4 (qv_eqlP un83 rfl) ?_
  refine go_nil ?_
  change G _ _ _ _
  refine p_weaken [2, 3, 4, 5, 8] rfl ?_
  refine p_condT (.tmp 8) (by kernel_rfl) rfl ?_
  refine p_seq0 ?_
  refine p_plain0 (0 :: 1 :: []) ?_
  refine go_s0 none (.store 3 (.tmp 4) (.const (.int .i64 (-1)))) 0 ?_
  refine os_store1 rfl rfl sz3 rfl rfl .auto (Nat.le_of_ble_eq_true rfl) (set_one _ _) ?_
  refine go_s0 none (.store 3 (.tmp 5) (.const (.int .i64 0))) 0 ?_
  refine os_store1 rfl rfl sz3 rfl rfl .auto (Nat.le_of_ble_eq_true rfl) (set_one _ _) ?_
  refine go_nil ?_
  change G _ _ _ _
  refine p_weaken [2, 3, 4, 5] rfl ?_
  refine p_ret0 ?_
  try dsimp only [thenQ, inBlockQ]
  try rw [if_pos rfl]
  refine ret_now (.inr rfl) (.cons (res_cell rfl (At.mem .auto) (ldv_sca sc3 (get_one _))) (.cons (res_cell rfl (At.mem .auto) (ldv_sca sc3 (get_one _))) .nil)) (by repeat constructor) ?_
  exact ⟨rfl, rfl⟩
theorem pu_has0 (k : Key) : Pu Try.prog 97 [.pointer none, .agg k.c] (.int .i64 (-1)) := by
  refine ct_body (rv := [.tmp 4]) [(0, _), (1, _)] Try.func97 (by kernel_rfl) Try.ntmps97 Try.results97 rfl rfl (fun w0 => ?_)
  refine p_seq0 ?_
  refine p_plain0 (0 :: 1 :: []) ?_
  refine go_s0 (some 3) (.box 27 (.tmp 1)) 0 ?_
  refine os_boxA rfl rfl (fun b3 => ?_)
  refine go_q0 4 (.assign (.const (.int .i64 0))) 3 (qv_assign rfl) ?_
  refine go_nil ?_
  change G _ _ _ _
  refine p_weaken [0, 3, 4] rfl ?_
  refine p_seq0 ?_
  refine p_plain0 (0 :: 1 :: 2 :: 3 :: 4 :: 5 :: 6 :: 7 :: []) ?_
  refine go_q0 8 (.move (.tmp 0)) 83 (qv_move rfl) ?_
  refine go_q0 9 (.load 27 (.tmp 3)) 27 (qv_load rfl .auto (ldv_agg agg27 (extw_Key _) (Nat.le_of_ble_eq_true rfl))) ?_
  refine go_s0 (some 10) (.call { callee := .value (.func 93), args := #[.tmp 8, .tmp 9], argTypes := #[83, 27] }) 119 ?_
  refine os_callP rfl en93 rfl (pu_find0 k) ?_
  refine go_q0 7 (.move (.tmp 10)) 119 (qv_move rfl) ?_
  refine go_q0 11 (.extract (.tmp 7) 0) 3 (qv_extract rfl rfl) ?_
  refine go_q0 12 (.extract (.tmp 7) 1) 3 (qv_extract rfl rfl) ?_
  refine go_q0 5 (.assign (.tmp 11)) 3 (qv_assign rfl) ?_
  refine go_q0 6 (.assign (.tmp 12)) 3 (qv_assign rfl) ?_
  refine go_nil ?_
  change G _ _ _ _
  refine p_weaken [0, 4, 5] rfl ?_
  refine p_seq0 ?_
  refine p_seq0 ?_
  refine p_plain0 (0 :: 1 :: 2 :: 3 :: 4 :: 5 :: 6 :: 7 :: 8 :: 9 :: 10 :: 11 :: 12 :: []) ?_
  refine go_q0 13 (.move (.tmp 5)) 3 (qv_move rfl) ?_
  refine go_q0 14 (.binOp .geq 3 (.tmp 13) (.const (.int .i64 0)) 3) 4 (qv_geq (b := false) rfl rfl (decide_eq_false (by omega))) ?_
  refine go_q0 15 (.move (.tmp 14)) 4 (qv_move rfl) ?_
  refine go_n (d := 16) (op := .move (.tmp 0)) (ty := 83) (g := some (2, true)) (by kernel_rfl) ⟨15, _, by kernel_rfl, rfl, rfl⟩ rfl ?_
  refine go_n (d := 17) (op := .nilCheck (.tmp 16)) (ty := 0) (g := some (2, true)) (by kernel_rfl) ⟨15, _, by kernel_rfl, rfl, rfl⟩ rfl ?_
  refine go_n (d := 18) (op := .fieldAddr 172 (.tmp 17) 0) (ty := 0) (g := some (2, true)) (by kernel_rfl) ⟨15, _, by kernel_rfl, rfl, rfl⟩ rfl ?_
  refine go_n (d := 19) (op := .load 124 (.tmp 18)) (ty := 124) (g := some (2, true)) (by kernel_rfl) ⟨15, _, by kernel_rfl, rfl, rfl⟩ rfl ?_
  refine go_n (d := 20) (op := .move (.tmp 5)) (ty := 3) (g := some (2, true)) (by kernel_rfl) ⟨15, _, by kernel_rfl, rfl, rfl⟩ rfl ?_
  refine go_n (d := 21) (op := .indexAddr 124 (.tmp 19) (.tmp 20)) (ty := 0) (g := some (2, true)) (by kernel_rfl) ⟨15, _, by kernel_rfl, rfl, rfl⟩ rfl ?_
  refine go_n (d := 22) (op := .fieldAddr 175 (.tmp 21) 0) (ty := 0) (g := some (2, true)) (by kernel_rfl) ⟨15, _, by kernel_rfl, rfl, rfl⟩ rfl ?_
  refine go_n (d := 23) (op := .load 4 (.tmp 22)) (ty := 4) (g := some (2, true)) (by kernel_rfl) ⟨15, _, by kernel_rfl, rfl, rfl⟩ rfl ?_
  refine go_n (d := 24) (op := .unOp .not 4 (.tmp 23)) (ty := 4) (g := some (2, true)) (by kernel_rfl) ⟨15, _, by kernel_rfl, rfl, rfl⟩ rfl ?_
  refine go_q0 25 (.pick (.tmp 15) (.tmp 24) (.const (.bool false))) 4 (qv_pick_f rfl rfl) ?_
  refine go_nil ?_
  change G _ _ _ _
  refine p_weaken [4, 5, 25] rfl ?_
  refine p_condF (.tmp 25) (by kernel_rfl) rfl ?_
  refine p_skip0 ?_
  change G _ _ _ _
  refine p_weaken [4, 5] rfl ?_
  refine p_seq0 ?_
  refine p_plain0 (0 :: 1 :: []) ?_
  refine go_q0 26 (.move (.tmp 5)) 3 (qv_move rfl) ?_
  refine go_q0 4 (.assign (.tmp 26)) 3 (qv_assign rfl) ?_
  refine go_nil ?_
  change G _ _ _ _
  refine p_weaken [4] rfl ?_
  refine p_ret0 ?_
  try dsimp only [thenQ, inBlockQ]
  try rw [if_pos rfl]
  refine ret_now (.inr rfl) (.cons (res_tmp rfl) .nil) (by repeat constructor) ?_
  exact ⟨rfl, rfl⟩
theorem pu_Probes0 (k : Key) : Pu Try.prog 40 [.pointer none, .agg k.c] (.int .i64 0) := by
  refine ct_body (rv := [.tmp 4]) [(0, _), (1, _)] Try.func40 (by kernel_rfl) Try.ntmps40 Try.results40 rfl rfl (fun w0 => ?_)
  refine p_seq0 ?_
  refine p_plain0 (0 :: 1 :: []) ?_
  refine go_s0 (some 3) (.box 27 (.tmp 1)) 0 ?_
  refine os_boxA rfl rfl (fun b3 => ?_)
  refine go_q0 4 (.assign (.const (.int .i64 0))) 3 (qv_assign rfl) ?_
  refine go_nil ?_
  change G _ _ _ _
  refine p_weaken [0, 3, 4] rfl ?_
  refine p_seq0 ?_
  refine p_plain0 (0 :: 1 :: 2 :: 3 :: 4 :: 5 :: 6 :: 7 :: []) ?_
  refine go_q0 8 (.move (.tmp 0)) 83 (qv_move rfl) ?_
  refine go_q0 9 (.load 27 (.tmp 3)) 27 (qv_load rfl .auto (ldv_agg agg27 (extw_Key _) (Nat.le_of_ble_eq_true rfl))) ?_
  refine go_s0 (some 10) (.call { callee := .value (.func 93), args := #[.tmp 8, .tmp 9], argTypes := #[83, 27] }) 119 ?_
  refine os_callP rfl en93 rfl (pu_find0 k) ?_
  refine go_q0 7 (.move (.tmp 10)) 119 (qv_move rfl) ?_
  refine go_q0 11 (.extract (.tmp 7) 0) 3 (qv_extract rfl rfl) ?_
  refine go_q0 12 (.extract (.tmp 7) 1) 3 (qv_extract rfl rfl) ?_
  refine go_q0 5 (.assign (.tmp 11)) 3 (qv_assign rfl) ?_
  refine go_q0 6 (.assign (.tmp 12)) 3 (qv_assign rfl) ?_
  refine go_nil ?_
  change G _ _ _ _
  refine p_weaken [4, 6] rfl ?_
  refine p_seq0 ?_
  refine p_plain0 (0 :: 1 :: []) ?_
  refine go_q0 13 (.move (.tmp 6)) 3 (qv_move rfl) ?_
  refine go_q0 4 (.assign (.tmp 13)) 3 (qv_assign rfl) ?_
  refine go_nil ?_
  change G _ _ _ _
  refine p_weaken [4] rfl ?_
  refine p_ret0 ?_
  try dsimp only [thenQ, inBlockQ]
  try rw [if_pos rfl]
  refine ret_now (.inr rfl) (.cons (res_tmp rfl) .nil) (by repeat constructor) ?_
  exact ⟨rfl, rfl⟩
theorem pu_Get0 (k : Key) : Pu Try.prog 46 [.pointer none, .agg k.c] (.tuple #[.int .u64 0, .bool false]) := by
  refine ct_body (rv := [.tmp 4, .tmp 5]) [(0, _), (1, _)] Try.func46 (by kernel_rfl) Try.ntmps46 Try.results46 rfl rfl (fun w0 => ?_)
  refine p_seq0 ?_
  refine p_plain0 (0 :: 1 :: 2 :: []) ?_
  refine go_s0 (some 3) (.box 27 (.tmp 1)) 0 ?_
  refine os_boxA rfl rfl (fun b3 => ?_)
  refine go_q0 4 (.assign (.const (.int .u64 0))) 30 (qv_assign rfl) ?_
  refine go_q0 5 (.assign (.const (.bool false))) 4 (qv_assign rfl) ?_
  refine go_nil ?_
  change G _ _ _ _
  refine p_weaken [0, 3, 4, 5] rfl ?_
  refine p_seq0 ?_
  refine p_plain0 (0 :: 1 :: 2 :: 3 :: []) ?_
  refine go_q0 7 (.move (.tmp 0)) 83 (qv_move rfl) ?_
  refine go_q0 8 (.load 27 (.tmp 3)) 27 (qv_load rfl .auto (ldv_agg agg27 (extw_Key _) (Nat.le_of_ble_eq_true rfl))) ?_
  refine go_s0 (some 9) (.call { callee := .value (.func 97), args := #[.tmp 7, .tmp 8], argTypes := #[83, 27] }) 3 ?_
  refine os_callP rfl en97 rfl (pu_has0 k) ?_
  refine go_q0 6 (.assign (.tmp 9)) 3 (qv_assign rfl) ?_
  refine go_nil ?_
  change G _ _ _ _
  refine p_weaken [0, 4, 5, 6] rfl ?_
  refine p_seq0 ?_
  refine p_seq0 ?_
  refine p_plain0 (0 :: 1 :: []) ?_
  refine go_q0 10 (.move (.tmp 6)) 3 (qv_move rfl) ?_
  refine go_q0 11 (.binOp .lss 3 (.tmp 10) (.const (.int .i64 0)) 3) 4 (qv_lss (b := true) rfl rfl (decide_eq_true (by omega))) ?_
  refine go_nil ?_
  change G _ _ _ _
  refine p_weaken [0, 4, 5, 6, 11] rfl ?_
  refine p_condT (.tmp 11) (by kernel_rfl) rfl ?_
  refine p_seq0 ?_
  refine p_plain0 (0 :: 1 :: []) ?_
  refine go_q0 4 (.assign (.const (.int .u64 0))) 30 (qv_assign rfl) ?_
  refine go_q0 5 (.assign (.const (.bool false))) 4 (qv_assign rfl) ?_
  refine go_nil ?_
  change G _ _ _ _
  refine p_weaken [0, 4, 5, 6] rfl ?_
  refine p_ret0 ?_
  try dsimp only [thenQ, inBlockQ]
  try rw [if_pos rfl]
  refine ret_now (.inr rfl) (.cons (res_tmp rfl) (.cons (res_tmp rfl) .nil)) (by repeat constructor) ?_
  exact ⟨rfl, rfl⟩
theorem pu_Put0 (k : Key) (n : Int) : Pu Try.prog 42 [.pointer none, .agg k.c, .int .u64 n] (.int .i64 1) := by
  refine ct_body (rv := [.tmp 6]) [(0, _), (1, _), (2, _)] Try.func42 (by kernel_rfl) Try.ntmps42 Try.results42 rfl rfl (fun w0 => ?_)
  refine p_seq0 ?_
  refine p_plain0 (0 :: 1 :: []) ?_
  refine go_s0 (some 4) (.box 27 (.tmp 1)) 0 ?_
  refine os_boxA rfl rfl (fun b4 => ?_)
  refine go_q0 6 (.assign (.const (.int .i64 0))) 61 (qv_assign rfl) ?_
  refine go_nil ?_
  change G _ _ _ _
  refine p_weaken [0, 2, 4, 6] rfl ?_
  refine p_seq0 ?_
  refine p_plain0 (0 :: 1 :: 2 :: 3 :: 4 :: 5 :: 6 :: 7 :: []) ?_
  refine go_q0 10 (.move (.tmp 0)) 83 (qv_move rfl) ?_
  refine go_q0 11 (.load 27 (.tmp 4)) 27 (qv_load rfl .auto (ldv_agg agg27 (extw_Key _) (Nat.le_of_ble_eq_true rfl))) ?_
  refine go_s0 (some 12) (.call { callee := .value (.func 93), args := #[.tmp 10, .tmp 11], argTypes := #[83, 27] }) 119 ?_
  refine os_callP rfl en93 rfl (pu_find0 k) ?_
  refine go_q0 9 (.move (.tmp 12)) 119 (qv_move rfl) ?_
  refine go_q0 13 (.extract (.tmp 9) 0) 3 (qv_extract rfl rfl) ?_
  refine go_q0 14 (.extract (.tmp 9) 1) 3 (qv_extract rfl rfl) ?_
  refine go_q0 7 (.assign (.tmp 13)) 3 (qv_assign rfl) ?_
  refine go_q0 8 (.assign (.tmp 14)) 3 (qv_assign rfl) ?_
  refine go_nil ?_
  change G _ _ _ _
  refine p_weaken [0, 2, 4, 6, 7] rfl ?_
  refine p_seq0 ?_
  refine p_block 0 (by kernel_rfl) ?_
  refine p_seq0 ?_
  refine p_plain0 (0 :: 1 :: 2 :: []) ?_
  refine go_q0 16 (.move (.tmp 0)) 83 (qv_move rfl) ?_
  refine go_q0 17 (.binOp .eql 83 (.tmp 16) (.const (.pointer none)) 83) 4 (qv_eqlP un83 rfl) ?_
  refine go_q0 15 (.assign (.tmp 17)) 4 (qv_assign rfl) ?_
  refine go_nil ?_
  change G _ _ _ _
  refine p_weaken [0, 2, 4, 6, 7, 15] rfl ?_
  refine p_condT (.tmp 15) (by kernel_rfl) rfl ?_
  refine p_seq0 ?_
  refine p_plain0 (0 :: []) ?_
  refine go_q0 6 (.assign (.const (.int .i64 1))) 61 (qv_assign rfl) ?_
  refine go_nil ?_
  change G _ _ _ _
  refine p_weaken [0, 2, 4, 6, 7] rfl ?_
  refine p_ret0 ?_
  try dsimp only [thenQ, inBlockQ]
  try rw [if_pos rfl]
  refine ret_now (.inr rfl) (.cons (res_tmp rfl) .nil) (by repeat constructor) ?_
  exact ⟨rfl, rfl⟩
theorem pu_Delete0 (k : Key) : Pu Try.prog 44 [.pointer none, .agg k.c] (.bool false) := by
  refine ct_body (rv := [.tmp 4]) [(0, _), (1, _)] Try.func44 (by kernel_rfl) Try.ntmps44 Try.results44 rfl rfl (fun w0 => ?_)
  refine p_seq0 ?_
  refine p_plain0 (0 :: 1 :: []) ?_
  refine go_s0 (some 3) (.box 27 (.tmp 1)) 0 ?_
  refine os_boxA rfl rfl (fun b3 => ?_)
  refine go_q0 4 (.assign (.const (.bool false))) 4 (qv_assign rfl) ?_
  refine go_nil ?_
  change G _ _ _ _
  refine p_weaken [0, 3, 4] rfl ?_
  refine p_seq0 ?_
  refine p_plain0 (0 :: 1 :: 2 :: 3 :: []) ?_
  refine go_q0 12 (.move (.tmp 0)) 83 (qv_move rfl) ?_
  refine go_q0 13 (.load 27 (.tmp 3)) 27 (qv_load rfl .auto (ldv_agg agg27 (extw_Key _) (Nat.le_of_ble_eq_true rfl))) ?_
  refine go_s0 (some 14) (.call { callee := .value (.func 97), args := #[.tmp 12, .tmp 13], argTypes := #[83, 27] }) 3 ?_
  refine os_callP rfl en97 rfl (pu_has0 k) ?_
  refine go_q0 5 (.assign (.tmp 14)) 3 (qv_assign rfl) ?_
  refine go_nil ?_
  change G _ _ _ _
  refine p_weaken [0, 4, 5] rfl ?_
  refine p_seq0 ?_
  refine p_seq0 ?_
  refine p_plain0 (0 :: 1 :: []) ?_
  refine go_q0 15 (.move (.tmp 5)) 3 (qv_move rfl) ?_
  refine go_q0 16 (.binOp .lss 3 (.tmp 15) (.const (.int .i64 0)) 3) 4 (qv_lss (b := true) rfl rfl (decide_eq_true (by omega))) ?_
  refine go_nil ?_
  change G _ _ _ _
  refine p_weaken [0, 4, 5, 16] rfl ?_
  refine p_condT (.tmp 16) (by kernel_rfl) rfl ?_
  refine p_seq0 ?_
  refine p_plain0 (0 :: []) ?_
  refine go_q0 4 (.assign (.const (.bool false))) 4 (qv_assign rfl) ?_
  refine go_nil ?_
  change G _ _ _ _
  refine p_weaken [0, 4, 5] rfl ?_
  refine p_ret0 ?_
  try dsimp only [thenQ, inBlockQ]
  try rw [if_pos rfl]
  refine ret_now (.inr rfl) (.cons (res_tmp rfl) .nil) (by repeat constructor) ?_
  exact ⟨rfl, rfl⟩
theorem pu_Len0 : Pu Try.prog 45 [.pointer none] (.int .i64 0) := by
  refine ct_body (rv := [.tmp 2]) [(0, _)] Try.func45 (by kernel_rfl) Try.ntmps45 Try.results45 rfl rfl (fun w0 => ?_)
  refine p_seq0 ?_
  refine p_plain0 (0 :: []) ?_
  refine go_q0 2 (.assign (.const (.int .i64 0))) 3 (qv_assign rfl) ?_
  refine go_nil ?_
  change G _ _ _ _
  refine p_seq0 ?_
  refine p_seq0 ?_
  refine p_plain0 (0 :: 1 :: []) ?_
  refine go_q0 3 (.move (.tmp 0)) 83 (qv_move rfl) ?_
  refine go_q0 4 (.binOp .eql 83 (.tmp 3) (.const (.pointer none)) 83) 4 (qv_eqlP un83 rfl) ?_
  refine go_nil ?_
  change G _ _ _ _
  refine p_weaken [0, 2, 4] rfl ?_
  refine p_condT (.tmp 4) (by kernel_rfl) rfl ?_
  refine p_seq0 ?_
  refine p_plain0 (0 :: []) ?_
  refine go_q0 2 (.assign (.const (.int .i64 0))) 3 (qv_assign rfl) ?_
  refine go_nil ?_
  change G _ _ _ _
  refine p_weaken [0, 2] rfl ?_
  refine p_ret0 ?_
  try dsimp only [thenQ, inBlockQ]
  try rw [if_pos rfl]
  refine ret_now (.inr rfl) (.cons (res_tmp rfl) .nil) (by repeat constructor) ?_
  exact ⟨rfl, rfl⟩
theorem pu_Size0 : Pu Try.prog 66 [.pointer none] (.int .i64 0) := by
  refine ct_body (rv := [.tmp 2]) [(0, _)] Try.func66 (by kernel_rfl) Try.ntmps66 Try.results66 rfl rfl (fun w0 => ?_)
  refine p_seq0 ?_
  refine p_plain0 (0 :: []) ?_
  refine go_q0 2 (.assign (.const (.int .i64 0))) 3 (qv_assign rfl) ?_
  refine go_nil ?_
  change G _ _ _ _
  refine p_seq0 ?_
  refine p_seq0 ?_
  refine p_plain0 (0 :: 1 :: []) ?_
  refine go_q0 3 (.move (.tmp 0)) 83 (qv_move rfl) ?_
  refine go_q0 4 (.binOp .eql 83 (.tmp 3) (.const (.pointer none)) 83) 4 (qv_eqlP un83 rfl) ?_
  refine go_nil ?_
  change G _ _ _ _
  refine p_weaken [0, 2, 4] rfl ?_
  refine p_condT (.tmp 4) (by kernel_rfl) rfl ?_
  refine p_seq0 ?_
  refine p_plain0 (0 :: []) ?_
  refine go_q0 2 (.assign (.const (.int .i64 0))) 3 (qv_assign rfl) ?_
  refine go_nil ?_
  change G _ _ _ _
  refine p_weaken [0, 2] rfl ?_
  refine p_ret0 ?_
  try dsimp only [thenQ, inBlockQ]
  try rw [if_pos rfl]
  refine ret_now (.inr rfl) (.cons (res_tmp rfl) .nil) (by repeat constructor) ?_
  exact ⟨rfl, rfl⟩
theorem pu_Slots0 : Pu Try.prog 67 [.pointer none] (.slice none 0 0) := by
  refine ct_body (rv := [.tmp 2]) [(0, _)] Try.func67 (by kernel_rfl) Try.ntmps67 Try.results67 rfl rfl (fun w0 => ?_)
  refine p_seq0 ?_
  refine p_plain0 (0 :: []) ?_
  refine go_q0 2 (.assign (.const (.slice none 0 0))) 124 (qv_assign rfl) ?_
  refine go_nil ?_
  change G _ _ _ _
  refine p_seq0 ?_
  refine p_seq0 ?_
  refine p_plain0 (0 :: 1 :: []) ?_
  refine go_q0 3 (.move (.tmp 0)) 83 (qv_move rfl) ?_
  refine go_q0 4 (.binOp .eql 83 (.tmp 3) (.const (.pointer none)) 83) 4 (qv_eqlP un83 rfl) ?_
  refine go_nil ?_
  change G _ _ _ _
  refine p_weaken [0, 2, 4] rfl ?_
  refine p_condT (.tmp 4) (by kernel_rfl) rfl ?_
  refine p_seq0 ?_
  refine p_plain0 (0 :: []) ?_
  refine go_q0 2 (.assign (.const (.slice none 0 0))) 124 (qv_assign rfl) ?_
  refine go_nil ?_
  change G _ _ _ _
  refine p_weaken [0, 2] rfl ?_
  refine p_ret0 ?_
  try dsimp only [thenQ, inBlockQ]
  try rw [if_pos rfl]
  refine ret_now (.inr rfl) (.cons (res_tmp rfl) .nil) (by repeat constructor) ?_
  exact ⟨rfl, rfl⟩
theorem pu_Clear0 : Pu Try.prog 59 [.pointer none] (.tuple #[]) := by
  refine ct_body (rv := []) [(0, _)] Try.func59 (by kernel_rfl) Try.ntmps59 Try.results59 rfl rfl (fun w0 => ?_)
  refine p_seq0 ?_
  refine p_plain0 (0 :: 1 :: []) ?_
  refine go_q0 2 (.move (.tmp 0)) 83 (qv_move rfl) ?_
  refine go_q0 3 (.binOp .neq 83 (.tmp 2) (.const (.pointer none)) 83) 4 (qv_neqP un83 rfl) ?_
  refine go_nil ?_
  change G _ _ _ _
  refine p_weaken [0, 3] rfl ?_
  refine p_condF (.tmp 3) (by kernel_rfl) rfl ?_
  refine p_skip0 ?_
  try dsimp only [thenQ, inBlockQ]
  try rw [if_pos rfl]
  refine ret_now (.inl rfl) .nil (by repeat constructor) ?_
  exact ⟨rfl, rfl⟩

def zeroS : Slot := ⟨false, { src := { six := false, b := { x0 := 0, x1 := 0, x2 := 0, x3 := 0, x4 := 0, x5 := 0, x6 := 0, x7 := 0, x8 := 0, x9 := 0, x10 := 0, x11 := 0, x12 := 0, x13 := 0, x14 := 0, x15 := 0 } }, dst := { six := false, b := { x0 := 0, x1 := 0, x2 := 0, x3 := 0, x4 := 0, x5 := 0, x6 := 0, x7 := 0, x8 := 0, x9 := 0, x10 := 0, x11 := 0, x12 := 0, x13 := 0, x14 := 0, x15 := 0 } }, proto := 0, srcPort := 0, dstPort := 0 }, 0⟩
theorem zeL_slot : ZeL Try.prog 175 eSlot zeroS 56 := ⟨(Try.prog.info? 175).get (by kernel_rfl), (((Try.prog.info? 175).get (by kernel_rfl)).zero).get (by kernel_rfl), by kernel_rfl, by kernel_rfl, by kernel_rfl, by kernel_rfl, by kernel_rfl⟩
theorem ct_New (n : Nat) (h1 : 1 ≤ n) (h2 : n ≤ 65536) (h3 : bits .and .i64 n ((n : Int) - 1) = 0) : Ct Try.prog 39 [.int .i64 n].toArray [] (fun v M' => ∃ bt bs, v = .tuple #[.pointer (some ⟨bt, 0, none⟩), .int .i64 0] ∧ M' = [tabO bt bs n 0, slotO bs (List.replicate n zeroS)]) := by
  refine ct_body (rv := [.tmp 2, .tmp 3]) [(0, _)] Try.func39 (by kernel_rfl) Try.ntmps39 Try.results39 rfl rfl (fun w0 => ?_)
  refine p_seq0 ?_
  refine p_plain0 (0 :: 1 :: []) ?_
  refine go_q0 2 (.assign (.const (.pointer none))) 83 (qv_assign rfl) ?_
  refine go_q0 3 (.assign (.const (.int .i64 0))) 61 (qv_assign rfl) ?_
  refine go_nil ?_
  change G _ _ _ _
  refine p_seq0 ?_
  refine p_seq0 ?_
  refine p_plain0 (0 :: 1 :: 2 :: 3 :: 4 :: 5 :: 6 :: 7 :: 8 :: 9 :: 10 :: 11 :: 12 :: []) ?_
  refine go_q0 4 (.move (.tmp 0)) 3 (qv_move rfl) ?_
  refine go_q0 5 (.binOp .lss 3 (.tmp 4) (.const (.int .i64 1)) 3) 4 (qv_lss (b := false) rfl rfl (decide_eq_false (by omega))) ?_
  refine go_q0 6 (.move (.tmp 5)) 4 (qv_move rfl) ?_
  refine go_q (d := 7) (op := .move (.tmp 0)) (ty := 3) (g := some (2, false)) (by kernel_rfl) ⟨6, by kernel_rfl, rfl⟩ rfl (qv_move rfl) ?_
  refine go_q (d := 8) (op := .binOp .gtr 3 (.tmp 7) (.const (.int .i64 65536)) 3) (ty := 4) (g := some (2, false)) (by kernel_rfl) ⟨6, by kernel_rfl, rfl⟩ rfl (qv_gtr (b := false) rfl rfl (decide_eq_false (by omega))) ?_
  refine go_q0 9 (.pick (.tmp 6) (.const (.bool true)) (.tmp 8)) 4 (qv_pick_f rfl rfl) ?_
  refine go_q0 10 (.move (.tmp 9)) 4 (qv_move rfl) ?_
  refine go_q (d := 11) (op := .move (.tmp 0)) (ty := 3) (g := some (6, false)) (by kernel_rfl) ⟨10, by kernel_rfl, rfl⟩ rfl (qv_move rfl) ?_
  refine go_q (d := 12) (op := .move (.tmp 0)) (ty := 3) (g := some (6, false)) (by kernel_rfl) ⟨10, by kernel_rfl, rfl⟩ rfl (qv_move rfl) ?_
  refine go_q (d := 13) (op := .binOp .sub 3 (.tmp 12) (.const (.int .i64 1)) 3) (ty := 3) (g := some (6, false)) (by kernel_rfl) ⟨10, by kernel_rfl, rfl⟩ rfl (qv_sub rfl rfl (rfl)) ?_
  refine go_q (d := 14) (op := .binOp .and 3 (.tmp 11) (.tmp 13) 3) (ty := 3) (g := some (6, false)) (by kernel_rfl) ⟨10, by kernel_rfl, rfl⟩ rfl (qv_and rfl rfl (rfl)) ?_
  refine go_q (d := 15) (op := .binOp .neq 3 (.tmp 14) (.const (.int .i64 0)) 3) (ty := 4) (g := some (6, false)) (by kernel_rfl) ⟨10, by kernel_rfl, rfl⟩ rfl (qv_neq (b := false) rfl rfl (bne_eq_false_iff_eq.2 (by rw [show IntKind.i64.wrap ((n : Int) - 1) = (n : Int) - 1 from IntWalk.i64_in _ (by omega)]; exact h3))) ?_
  refine go_q0 16 (.pick (.tmp 10) (.const (.bool true)) (.tmp 15)) 4 (qv_pick_f rfl rfl) ?_
  refine go_nil ?_
  change G _ _ _ _
  refine p_weaken [0, 2, 3, 16] rfl ?_
  refine p_condF (.tmp 16) (by kernel_rfl) rfl ?_
  refine p_skip0 ?_
  change G _ _ _ _
  refine p_weaken [0, 2, 3] rfl ?_
  refine p_seq0 ?_
  refine p_plain0 (0 :: 1 :: 2 :: 3 :: 4 :: 5 :: []) ?_
  refine go_q0 17 (.move (.tmp 0)) 3 (qv_move rfl) ?_
  refine go_s0 (some 18) (.makeSlice 124 (.tmp 17) (.tmp 17)) 124 ?_
  refine os_makeL rfl un124 zeL_slot (by decide) rfl rfl rfl rfl (by simp [eSlot]; omega) (by omega) (by omega) (fun b18 => ?_)
  refine go_q0 19 (.build 172 #[(0, .tmp 18)]) 172 (qv_build rfl (bld172_0 _ _ _)) ?_
  refine go_s0 (some 20) (.box 172 (.tmp 19)) 83 ?_
  refine os_boxA rfl rfl (fun b20 => ?_)
  refine go_q0 2 (.assign (.tmp 20)) 83 (qv_assign rfl) ?_
  refine go_q0 3 (.assign (.const (.int .i64 0))) 61 (qv_assign rfl) ?_
  refine go_nil ?_
  change G _ _ _ _
  refine p_weaken [2, 3] rfl ?_
  refine p_ret0 ?_
  try dsimp only [thenQ, inBlockQ]
  try rw [if_pos rfl]
  refine ret_left ([tabO b20 b18 n 0, slotO b18 (List.replicate n zeroS)]) (.inr rfl) (.cons (res_tmp rfl) (.cons (res_tmp rfl) .nil)) .auto ?_
  exact ⟨b20, b18, rfl, rfl⟩
def okSize (s : Int) : Bool := decide (1 ≤ s) && decide (s ≤ 65536) && decide (bits .and .i64 s (s - 1) = 0)
theorem pu_NewBad (s : Int) (h : okSize s = false) : Pu Try.prog 39 [.int .i64 s] (.tuple #[.pointer none, .int .i64 2]) := by
  refine ct_body (rv := [.tmp 2, .tmp 3]) [(0, _)] Try.func39 (by kernel_rfl) Try.ntmps39 Try.results39 rfl rfl (fun w0 => ?_)
  refine p_seq0 ?_
  refine p_plain0 (0 :: 1 :: []) ?_
  refine go_q0 2 (.assign (.const (.pointer none))) 83 (qv_assign rfl) ?_
  refine go_q0 3 (.assign (.const (.int .i64 0))) 61 (qv_assign rfl) ?_
  refine go_nil ?_
  change G _ _ _ _
  refine p_seq0 ?_
  refine p_seq0 ?_
  refine p_plain0 (0 :: 1 :: 2 :: 3 :: 4 :: 5 :: 6 :: 7 :: 8 :: 9 :: 10 :: 11 :: 12 :: []) ?_
  refine go_q0 4 (.move (.tmp 0)) 3 (qv_move rfl) ?_
  refine go_q0 5 (.binOp .lss 3 (.tmp 4) (.const (.int .i64 1)) 3) 4 (qv_lss rfl rfl rfl) ?_
  refine go_q0 6 (.move (.tmp 5)) 4 (qv_move rfl) ?_
  refine go_case (d := 6) rfl (fun g6 => ?_) (fun g6 => ?_)
  · replace g6 := kn g6
    refine go_n (d := 7) (op := .move (.tmp 0)) (ty := 3) (g := some (2, false)) (by kernel_rfl) ⟨6, _, by kernel_rfl, rfl, rfl⟩ rfl ?_
    refine go_n (d := 8) (op := .binOp .gtr 3 (.tmp 7) (.const (.int .i64 65536)) 3) (ty := 4) (g := some (2, false)) (by kernel_rfl) ⟨6, _, by kernel_rfl, rfl, rfl⟩ rfl ?_
    refine go_q0 9 (.pick (.tmp 6) (.const (.bool true)) (.tmp 8)) 4 (qv_pick_t rfl rfl) ?_
    refine go_q0 10 (.move (.tmp 9)) 4 (qv_move rfl) ?_
    refine go_n (d := 11) (op := .move (.tmp 0)) (ty := 3) (g := some (6, false)) (by kernel_rfl) ⟨10, _, by kernel_rfl, rfl, rfl⟩ rfl ?_
    refine go_n (d := 12) (op := .move (.tmp 0)) (ty := 3) (g := some (6, false)) (by kernel_rfl) ⟨10, _, by kernel_rfl, rfl, rfl⟩ rfl ?_
    refine go_n (d := 13) (op := .binOp .sub 3 (.tmp 12) (.const (.int .i64 1)) 3) (ty := 3) (g := some (6, false)) (by kernel_rfl) ⟨10, _, by kernel_rfl, rfl, rfl⟩ rfl ?_
    refine go_n (d := 14) (op := .binOp .and 3 (.tmp 11) (.tmp 13) 3) (ty := 3) (g := some (6, false)) (by kernel_rfl) ⟨10, _, by kernel_rfl, rfl, rfl⟩ rfl ?_
    refine go_n (d := 15) (op := .binOp .neq 3 (.tmp 14) (.const (.int .i64 0)) 3) (ty := 4) (g := some (6, false)) (by kernel_rfl) ⟨10, _, by kernel_rfl, rfl, rfl⟩ rfl ?_
    refine go_q0 16 (.pick (.tmp 10) (.const (.bool true)) (.tmp 15)) 4 (qv_pick_t rfl rfl) ?_
    refine go_nil ?_
    change G _ _ _ _
    refine p_weaken [0, 2, 3, 16] rfl ?_
    refine p_condT (.tmp 16) (by kernel_rfl) rfl ?_
    refine p_seq0 ?_
    refine p_plain0 (0 :: 1 :: []) ?_
    refine go_q0 2 (.assign (.const (.pointer none))) 83 (qv_assign rfl) ?_
    refine go_q0 3 (.assign (.const (.int .i64 2))) 61 (qv_assign rfl) ?_
    refine go_nil ?_
    change G _ _ _ _
    refine p_weaken [0, 2, 3] rfl ?_
    refine p_ret0 ?_
    try dsimp only [thenQ, inBlockQ]
    try rw [if_pos rfl]
    refine ret_now (.inr rfl) (.cons (res_tmp rfl) (.cons (res_tmp rfl) .nil)) (by repeat constructor) ?_
    exact ⟨rfl, rfl⟩
  replace g6 := kn g6
  refine go_q (d := 7) (op := .move (.tmp 0)) (ty := 3) (g := some (2, false)) (by kernel_rfl) ⟨6, by kernel_rfl, rfl⟩ rfl (qv_move rfl) ?_
  refine go_q (d := 8) (op := .binOp .gtr 3 (.tmp 7) (.const (.int .i64 65536)) 3) (ty := 4) (g := some (2, false)) (by kernel_rfl) ⟨6, by kernel_rfl, rfl⟩ rfl (qv_gtr rfl rfl rfl) ?_
  refine go_q0 9 (.pick (.tmp 6) (.const (.bool true)) (.tmp 8)) 4 (qv_pick_f rfl rfl) ?_
  refine go_q0 10 (.move (.tmp 9)) 4 (qv_move rfl) ?_
  refine go_case (d := 10) rfl (fun g10 => ?_) (fun g10 => ?_)
  · replace g10 := kn g10
    refine go_n (d := 11) (op := .move (.tmp 0)) (ty := 3) (g := some (6, false)) (by kernel_rfl) ⟨10, _, by kernel_rfl, rfl, rfl⟩ rfl ?_
    refine go_n (d := 12) (op := .move (.tmp 0)) (ty := 3) (g := some (6, false)) (by kernel_rfl) ⟨10, _, by kernel_rfl, rfl, rfl⟩ rfl ?_
    refine go_n (d := 13) (op := .binOp .sub 3 (.tmp 12) (.const (.int .i64 1)) 3) (ty := 3) (g := some (6, false)) (by kernel_rfl) ⟨10, _, by kernel_rfl, rfl, rfl⟩ rfl ?_
    refine go_n (d := 14) (op := .binOp .and 3 (.tmp 11) (.tmp 13) 3) (ty := 3) (g := some (6, false)) (by kernel_rfl) ⟨10, _, by kernel_rfl, rfl, rfl⟩ rfl ?_
    refine go_n (d := 15) (op := .binOp .neq 3 (.tmp 14) (.const (.int .i64 0)) 3) (ty := 4) (g := some (6, false)) (by kernel_rfl) ⟨10, _, by kernel_rfl, rfl, rfl⟩ rfl ?_
    refine go_q0 16 (.pick (.tmp 10) (.const (.bool true)) (.tmp 15)) 4 (qv_pick_t rfl rfl) ?_
    refine go_nil ?_
    change G _ _ _ _
    refine p_weaken [0, 2, 3, 16] rfl ?_
    refine p_condT (.tmp 16) (by kernel_rfl) rfl ?_
    refine p_seq0 ?_
    refine p_plain0 (0 :: 1 :: []) ?_
    refine go_q0 2 (.assign (.const (.pointer none))) 83 (qv_assign rfl) ?_
    refine go_q0 3 (.assign (.const (.int .i64 2))) 61 (qv_assign rfl) ?_
    refine go_nil ?_
    change G _ _ _ _
    refine p_weaken [0, 2, 3] rfl ?_
    refine p_ret0 ?_
    try dsimp only [thenQ, inBlockQ]
    try rw [if_pos rfl]
    refine ret_now (.inr rfl) (.cons (res_tmp rfl) (.cons (res_tmp rfl) .nil)) (by repeat constructor) ?_
    exact ⟨rfl, rfl⟩
  replace g10 := kn g10
  refine go_q (d := 11) (op := .move (.tmp 0)) (ty := 3) (g := some (6, false)) (by kernel_rfl) ⟨10, by kernel_rfl, rfl⟩ rfl (qv_move rfl) ?_
  refine go_q (d := 12) (op := .move (.tmp 0)) (ty := 3) (g := some (6, false)) (by kernel_rfl) ⟨10, by kernel_rfl, rfl⟩ rfl (qv_move rfl) ?_
  refine go_q (d := 13) (op := .binOp .sub 3 (.tmp 12) (.const (.int .i64 1)) 3) (ty := 3) (g := some (6, false)) (by kernel_rfl) ⟨10, by kernel_rfl, rfl⟩ rfl (qv_sub rfl rfl (rfl)) ?_
  refine go_q (d := 14) (op := .binOp .and 3 (.tmp 11) (.tmp 13) 3) (ty := 3) (g := some (6, false)) (by kernel_rfl) ⟨10, by kernel_rfl, rfl⟩ rfl (qv_and rfl rfl (rfl)) ?_
  refine go_q (d := 15) (op := .binOp .neq 3 (.tmp 14) (.const (.int .i64 0)) 3) (ty := 4) (g := some (6, false)) (by kernel_rfl) ⟨10, by kernel_rfl, rfl⟩ rfl (qv_neq rfl rfl rfl) ?_
  refine go_q0 16 (.pick (.tmp 10) (.const (.bool true)) (.tmp 15)) 4 (qv_pick_f rfl rfl) ?_
  refine go_nil ?_
  change G _ _ _ _
  refine p_weaken [0, 2, 3, 16] rfl ?_
  refine p_cond (.tmp 16) (by kernel_rfl) rfl (fun h16 => ?_) (fun h16 => ?_)
  rotate_left
  · replace h16 := kn h16
    exfalso
    rw [show IntKind.i64.wrap (s - 1) = s - 1 from IntWalk.i64_in _ (by omega)] at h16
    unfold okSize at h
    rw [decide_eq_true (show (1 : Int) ≤ s by omega), decide_eq_true (show s ≤ 65536 by omega), decide_eq_true h16] at h
    cases h
  replace h16 := kn h16
  refine p_seq0 ?_
  refine p_plain0 (0 :: 1 :: []) ?_
  refine go_q0 2 (.assign (.const (.pointer none))) 83 (qv_assign rfl) ?_
  refine go_q0 3 (.assign (.const (.int .i64 2))) 61 (qv_assign rfl) ?_
  refine go_nil ?_
  change G _ _ _ _
  refine p_weaken [0, 2, 3] rfl ?_
  refine p_ret0 ?_
  try dsimp only [thenQ, inBlockQ]
  try rw [if_pos rfl]
  refine ret_now (.inr rfl) (.cons (res_tmp rfl) (.cons (res_tmp rfl) .nil)) (by repeat constructor) ?_
  exact ⟨rfl, rfl⟩
end Go.Proofs.Ytobmcpoejhhemaa
