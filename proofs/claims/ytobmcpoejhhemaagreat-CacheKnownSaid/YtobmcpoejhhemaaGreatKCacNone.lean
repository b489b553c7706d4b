import Derived.Test.YtobmcpoejhhemaaGreatKCacO
namespace Go.Proofs.YtobmcpoejhhemaaGreat
open Go.E

theorem pu_CacheNone (a : Act24) : Pu Tryz.prog 8 [.agg a.c] (.bool true) := by
  refine ct_body (rv := [.tmp 2]) [(0, _)] Tryz.func8 (by kernel_rfl) Tryz.ntmps8 Tryz.results8 rfl rfl (fun w0 => ?_)
  refine p_seq0 ?_
  refine p_plain0 (0 :: 1 :: []) ?_
  refine go_s0 (some 1) (.box 33 (.tmp 0)) 0 ?_
  refine os_boxA rfl rfl (fun b1 => ?_)
  refine go_q0 2 (.assign (.const (.bool false))) 4 (qv_assign rfl) ?_
  refine go_nil ?_
  change G _ _ _ _
  refine p_weaken [1, 2] rfl ?_
  refine p_seq0 ?_
  refine p_plain0 (0 :: []) ?_
  refine go_q0 3 (.assign (.const (.pointer none))) 43 (qv_assign rfl) ?_
  refine go_nil ?_
  change G _ _ _ _
  refine p_seq0 ?_
  refine p_plain0 (0 :: 1 :: 2 :: 3 :: 4 :: 5 :: 6 :: 7 :: 8 :: 9 :: 10 :: 11 :: 12 :: []) ?_
  refine go_q0 11 (.move (.tmp 3)) 43 (qv_move rfl) ?_
  refine go_q0 12 (.fieldAddr 33 (.tmp 1) 1) 0 (qv_field rfl fd33_1) ?_
  refine go_q0 13 (.load 31 (.tmp 12)) 31 (qv_load rfl .auto (ldv_agg agg31 (ext_Act24_1_40 _) (Nat.le_of_ble_eq_true rfl))) ?_
  refine go_q0 14 (.fieldAddr 33 (.tmp 1) 2) 0 (qv_field rfl fd33_2) ?_
  refine go_q0 15 (.load 5 (.tmp 14)) 5 (qv_load rfl .auto (ldv_sca sc5 (get_Act24_41 _))) ?_
  refine go_q0 16 (.fieldAddr 33 (.tmp 1) 3) 0 (qv_field rfl fd33_3) ?_
  refine go_q0 17 (.load 23 (.tmp 16)) 23 (qv_load rfl .auto (ldv_sca sc23 (get_Act24_42 _))) ?_
  refine go_s0 (some 18) (.call { callee := .value (.func 21), args := #[.tmp 11, .tmp 13, .tmp 15, .tmp 17], argTypes := #[43, 31, 5, 23] }) 61 ?_
  refine os_callP rfl en21 rfl (pu_Account0 a.packet a.cls a.tick) ?_
  refine go_q0 10 (.move (.tmp 18)) 61 (qv_move rfl) ?_
  refine go_q0 19 (.extract (.tmp 10) 0) 55 (qv_extract rfl rfl) ?_
  refine go_q0 20 (.extract (.tmp 10) 1) 44 (qv_extract rfl rfl) ?_
  refine go_q0 4 (.assign (.tmp 19)) 55 (qv_assign rfl) ?_
  refine go_q0 5 (.assign (.tmp 20)) 44 (qv_assign rfl) ?_
  refine go_nil ?_
  change G _ _ _ _
  refine p_weaken [1, 2, 3, 4, 5] rfl ?_
  refine p_seq0 ?_
  refine p_plain0 (0 :: 1 :: 2 :: 3 :: 4 :: 5 :: 6 :: []) ?_
  refine go_q0 22 (.move (.tmp 3)) 43 (qv_move rfl) ?_
  refine go_s0 (some 23) (.call { callee := .value (.func 27), args := #[.tmp 22], argTypes := #[43] }) 72 ?_
  refine os_callP rfl en27 rfl (pu_Next0) ?_
  refine go_q0 21 (.move (.tmp 23)) 72 (qv_move rfl) ?_
  refine go_q0 24 (.extract (.tmp 21) 0) 23 (qv_extract rfl rfl) ?_
  refine go_q0 25 (.extract (.tmp 21) 1) 4 (qv_extract rfl rfl) ?_
  refine go_q0 6 (.assign (.tmp 24)) 23 (qv_assign rfl) ?_
  refine go_q0 7 (.assign (.tmp 25)) 4 (qv_assign rfl) ?_
  refine go_nil ?_
  change G _ _ _ _
  refine p_weaken [1, 2, 3, 4, 5, 6, 7] rfl ?_
  refine p_seq0 ?_
  refine p_plain0 (0 :: 1 :: 2 :: 3 :: 4 :: 5 :: 6 :: 7 :: 8 :: 9 :: 10 :: []) ?_
  refine go_q0 27 (.move (.tmp 3)) 43 (qv_move rfl) ?_
  refine go_q0 28 (.fieldAddr 33 (.tmp 1) 1) 0 (qv_field rfl fd33_1) ?_
  refine go_q0 29 (.fieldAddr 31 (.tmp 28) 0) 0 (qv_field rfl fd31_0) ?_
  refine go_q0 30 (.load 29 (.tmp 29)) 29 (qv_load rfl .auto (ldv_agg agg29 (ext_Act24_1_37 _) (Nat.le_of_ble_eq_true rfl))) ?_
  refine go_s0 (some 31) (.call { callee := .value (.func 28), args := #[.tmp 27, .tmp 30], argTypes := #[43, 29] }) 74 ?_
  refine os_callP rfl en28 rfl (pu_CGet0 a.packet.key) ?_
  refine go_q0 26 (.move (.tmp 31)) 74 (qv_move rfl) ?_
  refine go_q0 32 (.extract (.tmp 26) 0) 69 (qv_extract rfl rfl) ?_
  refine go_q0 33 (.extract (.tmp 26) 1) 4 (qv_extract rfl rfl) ?_
  refine go_s0 (some 8) (.alloc 69) 0 ?_
  refine os_allocA rfl ze69 (fun b8 => ?_)
  refine go_s0 none (.store 69 (.tmp 8) (.tmp 32)) 0 ?_
  refine os_store rfl rfl sz69 rfl (one_Rec _) .auto (Nat.le_of_ble_eq_true rfl) (splw_Rec _ _ (siz_Rec _)) ?_
  refine go_q0 9 (.assign (.tmp 33)) 4 (qv_assign rfl) ?_
  refine go_nil ?_
  change G _ _ _ _
  refine p_weaken [1, 2, 3, 4, 5, 6, 7, 8, 9] rfl ?_
  refine p_seq0 ?_
  refine p_plain0 (0 :: 1 :: 2 :: 3 :: 4 :: 5 :: 6 :: 7 :: 8 :: 9 :: 10 :: 11 :: 12 :: 13 :: 14 :: 15 :: 16 :: 17 :: 18 :: 19 :: 20 :: 21 :: 22 :: 23 :: 24 :: 25 :: 26 :: 27 :: 28 :: 29 :: 30 :: 31 :: 32 :: 33 :: 34 :: 35 :: 36 :: 37 :: 38 :: 39 :: 40 :: 41 :: 42 :: 43 :: 44 :: 45 :: 46 :: 47 :: 48 :: 49 :: 50 :: 51 :: 52 :: 53 :: 54 :: 55 :: 56 :: 57 :: []) ?_
  refine go_q0 34 (.move (.tmp 4)) 55 (qv_move rfl) ?_
  refine go_q0 35 (.call { callee := .builtin .len, args := #[.tmp 34], argTypes := #[55] }) 3 (qv_lenS un55 rfl) ?_
  refine go_q0 36 (.binOp .eql 3 (.tmp 35) (.const (.int .i64 0)) 3) 4 (qv_eql (b := true) rfl rfl (by decide)) ?_
  refine go_q0 37 (.move (.tmp 36)) 4 (qv_move rfl) ?_
  refine go_q (d := 38) (op := .move (.tmp 5)) (ty := 44) (g := some (3, true)) (by kernel_rfl) ⟨37, by kernel_rfl, rfl⟩ rfl (qv_move rfl) ?_
  refine go_q (d := 39) (op := .binOp .eql 44 (.tmp 38) (.const (.int .i64 1)) 44) (ty := 4) (g := some (3, true)) (by kernel_rfl) ⟨37, by kernel_rfl, rfl⟩ rfl (qv_eql (b := true) rfl rfl (by decide)) ?_
  refine go_q0 40 (.pick (.tmp 37) (.tmp 39) (.const (.bool false))) 4 (qv_pick_t rfl rfl) ?_
  refine go_q0 41 (.move (.tmp 40)) 4 (qv_move rfl) ?_
  refine go_q (d := 42) (op := .move (.tmp 3)) (ty := 43) (g := some (7, true)) (by kernel_rfl) ⟨41, by kernel_rfl, rfl⟩ rfl (qv_move rfl) ?_
  refine go_q (d := 43) (op := .fieldAddr 33 (.tmp 1) 3) (ty := 0) (g := some (7, true)) (by kernel_rfl) ⟨41, by kernel_rfl, rfl⟩ rfl (qv_field rfl fd33_3) ?_
  refine go_q (d := 44) (op := .load 23 (.tmp 43)) (ty := 23) (g := some (7, true)) (by kernel_rfl) ⟨41, by kernel_rfl, rfl⟩ rfl (qv_load rfl .auto (ldv_sca sc23 (get_Act24_42 _))) ?_
  refine go_s (d := some 45) (op := .call { callee := .value (.func 18), args := #[.tmp 42, .tmp 44], argTypes := #[43, 23] }) (ty := 55) (g := some (7, true)) (by kernel_rfl) ⟨41, by kernel_rfl, rfl⟩ ?_
  refine os_callP rfl en18 rfl (pu_Advance0 a.tick) ?_
  refine go_q (d := 46) (op := .call { callee := .builtin .len, args := #[.tmp 45], argTypes := #[55] }) (ty := 3) (g := some (7, true)) (by kernel_rfl) ⟨41, by kernel_rfl, rfl⟩ rfl (qv_lenS un55 rfl) ?_
  refine go_q (d := 47) (op := .binOp .eql 3 (.tmp 46) (.const (.int .i64 0)) 3) (ty := 4) (g := some (7, true)) (by kernel_rfl) ⟨41, by kernel_rfl, rfl⟩ rfl (qv_eql (b := true) rfl rfl (by decide)) ?_
  refine go_q0 48 (.pick (.tmp 41) (.tmp 47) (.const (.bool false))) 4 (qv_pick_t rfl rfl) ?_
  refine go_q0 49 (.move (.tmp 48)) 4 (qv_move rfl) ?_
  refine go_q (d := 50) (op := .move (.tmp 3)) (ty := 43) (g := some (15, true)) (by kernel_rfl) ⟨49, by kernel_rfl, rfl⟩ rfl (qv_move rfl) ?_
  refine go_s (d := some 51) (op := .call { callee := .value (.func 16), args := #[.tmp 50], argTypes := #[43] }) (ty := 55) (g := some (15, true)) (by kernel_rfl) ⟨49, by kernel_rfl, rfl⟩ ?_
  refine os_callP rfl en16 rfl (pu_Flush0) ?_
  refine go_q (d := 52) (op := .call { callee := .builtin .len, args := #[.tmp 51], argTypes := #[55] }) (ty := 3) (g := some (15, true)) (by kernel_rfl) ⟨49, by kernel_rfl, rfl⟩ rfl (qv_lenS un55 rfl) ?_
  refine go_q (d := 53) (op := .binOp .eql 3 (.tmp 52) (.const (.int .i64 0)) 3) (ty := 4) (g := some (15, true)) (by kernel_rfl) ⟨49, by kernel_rfl, rfl⟩ rfl (qv_eql (b := true) rfl rfl (by decide)) ?_
  refine go_q0 54 (.pick (.tmp 49) (.tmp 53) (.const (.bool false))) 4 (qv_pick_t rfl rfl) ?_
  refine go_q0 55 (.move (.tmp 54)) 4 (qv_move rfl) ?_
  refine go_q (d := 56) (op := .move (.tmp 6)) (ty := 23) (g := some (21, true)) (by kernel_rfl) ⟨55, by kernel_rfl, rfl⟩ rfl (qv_move rfl) ?_
  refine go_q (d := 57) (op := .binOp .eql 23 (.tmp 56) (.const (.int .u64 0)) 23) (ty := 4) (g := some (21, true)) (by kernel_rfl) ⟨55, by kernel_rfl, rfl⟩ rfl (qv_eql (b := true) rfl rfl (by decide)) ?_
  refine go_q0 58 (.pick (.tmp 55) (.tmp 57) (.const (.bool false))) 4 (qv_pick_t rfl rfl) ?_
  refine go_q0 59 (.move (.tmp 58)) 4 (qv_move rfl) ?_
  refine go_q (d := 60) (op := .move (.tmp 7)) (ty := 4) (g := some (25, true)) (by kernel_rfl) ⟨59, by kernel_rfl, rfl⟩ rfl (qv_move rfl) ?_
  refine go_q (d := 61) (op := .unOp .not 4 (.tmp 60)) (ty := 4) (g := some (25, true)) (by kernel_rfl) ⟨59, by kernel_rfl, rfl⟩ rfl (qv_not rfl) ?_
  refine go_q0 62 (.pick (.tmp 59) (.tmp 61) (.const (.bool false))) 4 (qv_pick_t rfl rfl) ?_
  refine go_q0 63 (.move (.tmp 62)) 4 (qv_move rfl) ?_
  refine go_q (d := 64) (op := .move (.tmp 3)) (ty := 43) (g := some (29, true)) (by kernel_rfl) ⟨63, by kernel_rfl, rfl⟩ rfl (qv_move rfl) ?_
  refine go_s (d := some 65) (op := .call { callee := .value (.func 24), args := #[.tmp 64], argTypes := #[43] }) (ty := 55) (g := some (29, true)) (by kernel_rfl) ⟨63, by kernel_rfl, rfl⟩ ?_
  refine os_callP rfl en24 rfl (pu_All0) ?_
  refine go_q (d := 66) (op := .call { callee := .builtin .len, args := #[.tmp 65], argTypes := #[55] }) (ty := 3) (g := some (29, true)) (by kernel_rfl) ⟨63, by kernel_rfl, rfl⟩ rfl (qv_lenS un55 rfl) ?_
  refine go_q (d := 67) (op := .binOp .eql 3 (.tmp 66) (.const (.int .i64 0)) 3) (ty := 4) (g := some (29, true)) (by kernel_rfl) ⟨63, by kernel_rfl, rfl⟩ rfl (qv_eql (b := true) rfl rfl (by decide)) ?_
  refine go_q0 68 (.pick (.tmp 63) (.tmp 67) (.const (.bool false))) 4 (qv_pick_t rfl rfl) ?_
  refine go_q0 69 (.move (.tmp 68)) 4 (qv_move rfl) ?_
  refine go_q (d := 70) (op := .load 69 (.tmp 8)) (ty := 69) (g := some (35, true)) (by kernel_rfl) ⟨69, by kernel_rfl, rfl⟩ rfl (qv_load rfl .auto (ldv_agg agg69 (extw_Rec _) (Nat.le_of_ble_eq_true rfl))) ?_
  refine go_q (d := 71) (op := .build 69 #[]) (ty := 69) (g := some (35, true)) (by kernel_rfl) ⟨69, by kernel_rfl, rfl⟩ rfl (qv_build (v := .agg zeroR.c) rfl (fun w => by kernel_rfl)) ?_
  refine go_q (d := 72) (op := .binOp .eql 69 (.tmp 70) (.tmp 71) 69) (ty := 4) (g := some (35, true)) (by kernel_rfl) ⟨69, by kernel_rfl, rfl⟩ rfl (qv_eql_69 (s := zeroR) (t := zeroR) (b := true) rfl rfl (by decide)) ?_
  refine go_q0 73 (.pick (.tmp 69) (.tmp 72) (.const (.bool false))) 4 (qv_pick_t rfl rfl) ?_
  refine go_q0 74 (.move (.tmp 73)) 4 (qv_move rfl) ?_
  refine go_q (d := 75) (op := .move (.tmp 9)) (ty := 4) (g := some (40, true)) (by kernel_rfl) ⟨74, by kernel_rfl, rfl⟩ rfl (qv_move rfl) ?_
  refine go_q (d := 76) (op := .unOp .not 4 (.tmp 75)) (ty := 4) (g := some (40, true)) (by kernel_rfl) ⟨74, by kernel_rfl, rfl⟩ rfl (qv_not rfl) ?_
  refine go_q0 77 (.pick (.tmp 74) (.tmp 76) (.const (.bool false))) 4 (qv_pick_t rfl rfl) ?_
  refine go_q0 78 (.move (.tmp 77)) 4 (qv_move rfl) ?_
  refine go_q (d := 79) (op := .move (.tmp 3)) (ty := 43) (g := some (44, true)) (by kernel_rfl) ⟨78, by kernel_rfl, rfl⟩ rfl (qv_move rfl) ?_
  refine go_s (d := some 80) (op := .call { callee := .value (.func 17), args := #[.tmp 79], argTypes := #[43] }) (ty := 23) (g := some (44, true)) (by kernel_rfl) ⟨78, by kernel_rfl, rfl⟩ ?_
  refine os_callP rfl en17 rfl (pu_Tick0) ?_
  refine go_q (d := 81) (op := .binOp .eql 23 (.tmp 80) (.const (.int .u64 0)) 23) (ty := 4) (g := some (44, true)) (by kernel_rfl) ⟨78, by kernel_rfl, rfl⟩ rfl (qv_eql (b := true) rfl rfl (by decide)) ?_
  refine go_q0 82 (.pick (.tmp 78) (.tmp 81) (.const (.bool false))) 4 (qv_pick_t rfl rfl) ?_
  refine go_q0 83 (.move (.tmp 82)) 4 (qv_move rfl) ?_
  refine go_q (d := 84) (op := .move (.tmp 3)) (ty := 43) (g := some (49, true)) (by kernel_rfl) ⟨83, by kernel_rfl, rfl⟩ rfl (qv_move rfl) ?_
  refine go_s (d := some 85) (op := .call { callee := .value (.func 29), args := #[.tmp 84], argTypes := #[43] }) (ty := 3) (g := some (49, true)) (by kernel_rfl) ⟨83, by kernel_rfl, rfl⟩ ?_
  refine os_callP rfl en29 rfl (pu_CClear0) ?_
  refine go_q (d := 86) (op := .binOp .eql 3 (.tmp 85) (.const (.int .i64 0)) 3) (ty := 4) (g := some (49, true)) (by kernel_rfl) ⟨83, by kernel_rfl, rfl⟩ rfl (qv_eql (b := true) rfl rfl (by decide)) ?_
  refine go_q0 87 (.pick (.tmp 83) (.tmp 86) (.const (.bool false))) 4 (qv_pick_t rfl rfl) ?_
  refine go_q0 88 (.move (.tmp 87)) 4 (qv_move rfl) ?_
  refine go_s (d := some 89) (op := .call { callee := .value (.func 9), args := #[], argTypes := #[] }) (ty := 4) (g := some (54, true)) (by kernel_rfl) ⟨88, by kernel_rfl, rfl⟩ ?_
  refine os_callP rfl en9 rfl (pu_works24) ?_
  refine go_q0 90 (.pick (.tmp 88) (.tmp 89) (.const (.bool false))) 4 (qv_pick_t rfl rfl) ?_
  refine go_q0 2 (.assign (.tmp 90)) 4 (qv_assign rfl) ?_
  refine go_nil ?_
  change G _ _ _ _
  refine p_weaken [2] rfl ?_
  refine p_ret0 ?_
  try dsimp only [thenQ, inBlockQ]
  try rw [if_pos rfl]
  refine ret_now (.inr rfl) (.cons (res_tmp rfl) .nil) (by repeat constructor) ?_
  exact ⟨rfl, rfl⟩
end Go.Proofs.YtobmcpoejhhemaaGreat
