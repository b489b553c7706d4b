import Derived.Test.YtobmcpoejhhemaaOMpO
namespace Go.Proofs.Ytobmcpoejhhemaa
open Go.E

theorem pt_wf : (pt ⟨0, 0⟩ ⟨0, 0⟩ ⟨1, 100⟩).Wf := ⟨tot1_wf, tot0_wf, tot0_wf, tot0_wf, tot0_wf, tot1_wf⟩
def pt9 : Parts := ⟨⟨0, 1⟩, ⟨0, 0⟩, ⟨0, 0⟩, ⟨0, 0⟩, ⟨0, 0⟩, ⟨0, 0⟩⟩
theorem pt9_wf : pt9.Wf := ⟨⟨⟨by decide, by decide⟩, ⟨by decide, by decide⟩⟩, tot0_wf, tot0_wf, tot0_wf, tot0_wf, tot0_wf⟩
theorem whole5 : Pu Try.prog 124 [.agg (pt ⟨0, 0⟩ ⟨0, 0⟩ ⟨1, 100⟩).c] (.bool true) := pu_Whole pt_wf
theorem whole9 : Pu Try.prog 124 [.agg pt9.c] (.bool false) := pu_Whole pt9_wf
theorem pu_works30 : Pu Try.prog 71 [] (.bool true) := by
  refine ct_body (rv := [.tmp 0]) [] Try.func71 (by kernel_rfl) Try.ntmps71 Try.results71 rfl rfl (fun w0 => ?_)
  refine p_seq0 ?_
  refine p_plain0 (0 :: []) ?_
  refine go_q0 0 (.assign (.const (.bool false))) 4 (qv_assign rfl) ?_
  refine go_nil ?_
  change G _ _ _ _
  refine p_seq0 ?_
  refine p_plain0 (0 :: 1 :: []) ?_
  refine go_s0 (some 14) (.call { callee := .value (.func 72), args := #[], argTypes := #[] }) 131 ?_
  refine os_call (Nat.le_of_ble_eq_true rfl) en72 rfl .auto (ct_MNew) ?_
  rintro v14 A14 ⟨bm, rfl, hM⟩
  try dsimp only [List.nil_append, List.cons_append]
  refine go_q0 1 (.assign (.tmp 14)) 131 (qv_assign rfl) ?_
  refine go_nil ?_
  change G _ _ _ _
  refine p_weaken [0, 1] rfl ?_
  refine p_seq0 ?_
  refine p_plain0 (0 :: 1 :: 2 :: []) ?_
  refine go_s0 (some 15) (.call { callee := .value (.func 122), args := #[.const (.int .i64 1)], argTypes := #[3] }) 27 ?_
  refine os_callP rfl en122 rfl (pu_keyM 1) ?_
  refine go_s0 (some 2) (.alloc 27) 0 ?_
  refine os_allocA rfl ze27 (fun b2 => ?_)
  refine go_s0 none (.store 27 (.tmp 2) (.tmp 15)) 0 ?_
  refine os_store rfl rfl sz27 rfl (one_Key _) .auto (Nat.le_of_ble_eq_true rfl) (splw_Key _ _ (siz_Key _)) ?_
  refine go_nil ?_
  change G _ _ _ _
  refine p_weaken [0, 1, 2] rfl ?_
  refine p_seq0 ?_
  refine p_plain0 (0 :: 1 :: 2 :: 3 :: []) ?_
  refine go_q0 16 (.move (.tmp 1)) 131 (qv_move rfl) ?_
  refine go_q0 17 (.build 135 #[(0, .const (.int .i64 7)), (4, .const (.int .u32 1))]) 135 (qv_build rfl (bld135_0_4 _ _)) ?_
  refine go_s0 (some 18) (.call { callee := .value (.func 73), args := #[.tmp 16, .tmp 17], argTypes := #[131, 135] }) 61 ?_
  refine os_call (Nat.le_of_ble_eq_true rfl) en73 rfl (.auto) (w1 hM) ?_
  rintro v18 A18 ⟨rfl, hM1⟩
  try dsimp only [List.nil_append, List.cons_append]
  refine go_q0 3 (.assign (.tmp 18)) 61 (qv_assign rfl) ?_
  refine go_nil ?_
  change G _ _ _ _
  refine p_weaken [0, 1, 2, 3] rfl ?_
  refine p_seq0 ?_
  refine p_plain0 (0 :: 1 :: 2 :: 3 :: 4 :: 5 :: []) ?_
  refine go_q0 19 (.move (.tmp 1)) 131 (qv_move rfl) ?_
  refine go_q0 20 (.load 27 (.tmp 2)) 27 (qv_load rfl .auto (ldv_agg agg27 (extw_Key _) (Nat.le_of_ble_eq_true rfl))) ?_
  refine go_q0 21 (.build 32 #[(0, .const (.int .u64 1)), (1, .const (.int .u64 100))]) 32 (qv_build rfl (bld32_0_1 _ _)) ?_
  refine go_q0 22 (.build 135 #[(0, .const (.int .i64 1)), (1, .tmp 20), (2, .tmp 21)]) 135 (qv_build rfl (bld135_0_1_2 _ _ _)) ?_
  refine go_s0 (some 23) (.call { callee := .value (.func 73), args := #[.tmp 19, .tmp 22], argTypes := #[131, 135] }) 61 ?_
  refine os_call (Nat.le_of_ble_eq_true rfl) en73 rfl (.auto) (w2 hM1) ?_
  rintro v23 A23 ⟨rfl, hM2⟩
  try dsimp only [List.nil_append, List.cons_append]
  refine go_q0 4 (.assign (.tmp 23)) 61 (qv_assign rfl) ?_
  refine go_nil ?_
  change G _ _ _ _
  refine p_weaken [0, 1, 2, 3, 4] rfl ?_
  refine p_seq0 ?_
  refine p_plain0 (0 :: 1 :: 2 :: 3 :: 4 :: []) ?_
  refine go_q0 24 (.move (.tmp 1)) 131 (qv_move rfl) ?_
  refine go_q0 25 (.load 27 (.tmp 2)) 27 (qv_load rfl .auto (ldv_agg agg27 (extw_Key _) (Nat.le_of_ble_eq_true rfl))) ?_
  refine go_s0 (some 26) (.call { callee := .value (.func 77), args := #[.tmp 24, .tmp 25], argTypes := #[131, 27] }) 142 ?_
  refine os_call (Nat.le_of_ble_eq_true rfl) en77 rfl (.auto) (ct_MOf (k := keyM 1) hM2) ?_
  rintro v26 A26 ⟨rfl, hm'⟩
  try dsimp only [List.nil_append, List.cons_append]
  replace hm' := hm'.symm
  subst hm'
  rw [of2]
  refine go_s0 (some 5) (.alloc 142) 0 ?_
  refine os_allocA rfl ze142 (fun b5 => ?_)
  refine go_s0 none (.store 142 (.tmp 5) (.tmp 26)) 0 ?_
  refine os_store rfl rfl sz142 rfl (one_Parts _) .auto (Nat.le_of_ble_eq_true rfl) (splw_Parts _ _ (siz_Parts _)) ?_
  refine go_nil ?_
  change G _ _ _ _
  refine p_weaken [0, 1, 2, 3, 4, 5] rfl ?_
  refine p_seq0 ?_
  refine p_plain0 (0 :: 1 :: 2 :: 3 :: 4 :: 5 :: 6 :: []) ?_
  refine go_q0 27 (.move (.tmp 1)) 131 (qv_move rfl) ?_
  refine go_q0 28 (.load 27 (.tmp 2)) 27 (qv_load rfl .auto (ldv_agg agg27 (extw_Key _) (Nat.le_of_ble_eq_true rfl))) ?_
  refine go_s0 (some 29) (.call { callee := .value (.func 123), args := #[.tmp 28, .const (.int .u64 1), .const (.int .u64 100)], argTypes := #[27, 30, 30] }) 35 ?_
  refine os_callP rfl en123 rfl (pu_recM (keyM 1) 1 100) ?_
  refine go_s0 (some 30) (.buildSlice 102 1 #[(0, .tmp 29)]) 102 ?_
  refine os_buildSlice (Nat.le_of_ble_eq_true rfl) rfl (bls102_1 _) (fun b30 => ?_)
  refine go_q0 31 (.build 135 #[(0, .const (.int .i64 2)), (4, .const (.int .u32 1)), (3, .tmp 30)]) 135 (qv_build rfl (bld135_0_4_3 _ _ _ _ _)) ?_
  refine go_s0 (some 32) (.call { callee := .value (.func 73), args := #[.tmp 27, .tmp 31], argTypes := #[131, 135] }) 61 ?_
  refine os_call (Nat.le_of_ble_eq_true rfl) en73 rfl (Sel.append (Sel.skip (Sel.skip Sel.app)) (Sel.cons .here .nil)) (w3 (b := b30) hM2 (.inr ⟨b30, 0, _, _, _, rfl, List.mem_singleton.2 rfl, Go.E.holds_one (E := eRec) _⟩)) ?_
  rintro v32 A32 ⟨rfl, p3, c3, N3, rfl, hM3⟩
  try dsimp only [List.nil_append, List.cons_append]
  simp only [List.append_assoc, List.cons_append, List.nil_append]
  refine go_q0 6 (.assign (.tmp 32)) 61 (qv_assign rfl) ?_
  refine go_nil ?_
  change G _ _ _ _
  refine p_weaken [0, 1, 2, 3, 4, 5, 6] rfl ?_
  refine p_seq0 ?_
  refine p_plain0 (0 :: 1 :: 2 :: 3 :: 4 :: []) ?_
  refine go_q0 33 (.move (.tmp 1)) 131 (qv_move rfl) ?_
  refine go_q0 34 (.load 27 (.tmp 2)) 27 (qv_load rfl .auto (ldv_agg agg27 (extw_Key _) (Nat.le_of_ble_eq_true rfl))) ?_
  refine go_s0 (some 35) (.call { callee := .value (.func 77), args := #[.tmp 33, .tmp 34], argTypes := #[131, 27] }) 142 ?_
  refine os_call (Nat.le_of_ble_eq_true rfl) en77 rfl (.auto) (ct_MOf (k := keyM 1) hM3) ?_
  rintro v35 A35 ⟨rfl, hm'⟩
  try dsimp only [List.nil_append, List.cons_append]
  replace hm' := hm'.symm
  subst hm'
  rw [of3]
  refine go_s0 (some 7) (.alloc 142) 0 ?_
  refine os_allocA rfl ze142 (fun b7 => ?_)
  refine go_s0 none (.store 142 (.tmp 7) (.tmp 35)) 0 ?_
  refine os_store rfl rfl sz142 rfl (one_Parts _) .auto (Nat.le_of_ble_eq_true rfl) (splw_Parts _ _ (siz_Parts _)) ?_
  refine go_nil ?_
  change G _ _ _ _
  refine p_weaken [0, 1, 2, 3, 4, 5, 6, 7] rfl ?_
  refine p_seq0 ?_
  refine p_plain0 (0 :: 1 :: 2 :: 3 :: []) ?_
  refine go_q0 36 (.move (.tmp 1)) 131 (qv_move rfl) ?_
  refine go_q0 37 (.build 135 #[(0, .const (.int .i64 4))]) 135 (qv_build rfl (bld135_0 _)) ?_
  refine go_s0 (some 38) (.call { callee := .value (.func 73), args := #[.tmp 36, .tmp 37], argTypes := #[131, 135] }) 61 ?_
  refine os_call (Nat.le_of_ble_eq_true rfl) en73 rfl (.auto) (w4 hM3) ?_
  rintro v38 A38 ⟨rfl, hM4⟩
  try dsimp only [List.nil_append, List.cons_append]
  refine go_q0 8 (.assign (.tmp 38)) 61 (qv_assign rfl) ?_
  refine go_nil ?_
  change G _ _ _ _
  refine p_weaken [0, 1, 2, 3, 4, 5, 6, 7, 8] rfl ?_
  refine p_seq0 ?_
  refine p_plain0 (0 :: 1 :: 2 :: 3 :: 4 :: []) ?_
  refine go_q0 39 (.move (.tmp 1)) 131 (qv_move rfl) ?_
  refine go_q0 40 (.load 27 (.tmp 2)) 27 (qv_load rfl .auto (ldv_agg agg27 (extw_Key _) (Nat.le_of_ble_eq_true rfl))) ?_
  refine go_s0 (some 41) (.call { callee := .value (.func 77), args := #[.tmp 39, .tmp 40], argTypes := #[131, 27] }) 142 ?_
  refine os_call (Nat.le_of_ble_eq_true rfl) en77 rfl (.auto) (ct_MOf (k := keyM 1) hM4) ?_
  rintro v41 A41 ⟨rfl, hm'⟩
  try dsimp only [List.nil_append, List.cons_append]
  replace hm' := hm'.symm
  subst hm'
  rw [of4]
  refine go_s0 (some 9) (.alloc 142) 0 ?_
  refine os_allocA rfl ze142 (fun b9 => ?_)
  refine go_s0 none (.store 142 (.tmp 9) (.tmp 41)) 0 ?_
  refine os_store rfl rfl sz142 rfl (one_Parts _) .auto (Nat.le_of_ble_eq_true rfl) (splw_Parts _ _ (siz_Parts _)) ?_
  refine go_nil ?_
  change G _ _ _ _
  refine p_weaken [0, 1, 2, 3, 4, 5, 6, 7, 8, 9] rfl ?_
  refine p_seq0 ?_
  refine p_plain0 (0 :: 1 :: 2 :: []) ?_
  refine go_q0 42 (.move (.tmp 1)) 131 (qv_move rfl) ?_
  refine go_s0 (some 43) (.call { callee := .value (.func 79), args := #[.tmp 42], argTypes := #[131] }) 131 ?_
  refine os_call (Nat.le_of_ble_eq_true rfl) en79 rfl (.auto) (ct_MCopy hM4) ?_
  rintro v43 A43 ⟨bm2, es2, N2, rfl, hmv, hMc, rfl⟩
  try dsimp only [List.nil_append, List.cons_append]
  simp only [List.append_assoc, List.cons_append, List.nil_append]
  refine go_q0 10 (.assign (.tmp 43)) 131 (qv_assign rfl) ?_
  refine go_nil ?_
  change G _ _ _ _
  refine p_weaken [0, 1, 2, 3, 4, 5, 6, 7, 8, 9, 10] rfl ?_
  refine p_seq0 ?_
  refine p_plain0 (0 :: 1 :: 2 :: 3 :: []) ?_
  refine go_q0 44 (.move (.tmp 10)) 131 (qv_move rfl) ?_
  refine go_q0 45 (.build 135 #[(0, .const (.int .i64 7)), (4, .const (.int .u32 2))]) 135 (qv_build rfl (bld135_0_4 _ _)) ?_
  refine go_s0 (some 46) (.call { callee := .value (.func 73), args := #[.tmp 44, .tmp 45], argTypes := #[131, 135] }) 61 ?_
  refine os_call (Nat.le_of_ble_eq_true rfl) en73 rfl (.auto) (w5 hmv hMc) ?_
  rintro v46 A46 ⟨rfl, hm'⟩
  try dsimp only [List.nil_append, List.cons_append]
  replace hm' := hm'.symm
  subst hm'
  refine go_q0 11 (.assign (.tmp 46)) 61 (qv_assign rfl) ?_
  refine go_nil ?_
  change G _ _ _ _
  refine p_weaken [0, 1, 2, 3, 4, 5, 6, 7, 8, 9, 11] rfl ?_
  refine p_seq0 ?_
  refine p_plain0 (0 :: 1 :: 2 :: 3 :: []) ?_
  refine go_q0 47 (.move (.tmp 1)) 131 (qv_move rfl) ?_
  refine go_q0 48 (.build 135 #[(0, .const (.int .i64 6)), (4, .const (.int .u32 1))]) 135 (qv_build rfl (bld135_0_4 _ _)) ?_
  refine go_s0 (some 49) (.call { callee := .value (.func 73), args := #[.tmp 47, .tmp 48], argTypes := #[131, 135] }) 61 ?_
  refine os_call (Nat.le_of_ble_eq_true rfl) en73 rfl (.auto) (w6 hM4) ?_
  rintro v49 A49 ⟨rfl, hM5⟩
  try dsimp only [List.nil_append, List.cons_append]
  refine go_q0 12 (.assign (.tmp 49)) 61 (qv_assign rfl) ?_
  refine go_nil ?_
  change G _ _ _ _
  refine p_weaken [0, 1, 2, 3, 4, 5, 6, 7, 8, 9, 11, 12] rfl ?_
  refine p_seq0 ?_
  refine p_plain0 (0 :: 1 :: 2 :: 3 :: 4 :: []) ?_
  refine go_q0 50 (.move (.tmp 1)) 131 (qv_move rfl) ?_
  refine go_q0 51 (.load 27 (.tmp 2)) 27 (qv_load rfl .auto (ldv_agg agg27 (extw_Key _) (Nat.le_of_ble_eq_true rfl))) ?_
  refine go_s0 (some 52) (.call { callee := .value (.func 77), args := #[.tmp 50, .tmp 51], argTypes := #[131, 27] }) 142 ?_
  refine os_call (Nat.le_of_ble_eq_true rfl) en77 rfl (.auto) (ct_MOf (k := keyM 1) hM5) ?_
  rintro v52 A52 ⟨rfl, hm'⟩
  try dsimp only [List.nil_append, List.cons_append]
  replace hm' := hm'.symm
  subst hm'
  rw [of5]
  refine go_s0 (some 13) (.alloc 142) 0 ?_
  refine os_allocA rfl ze142 (fun b13 => ?_)
  refine go_s0 none (.store 142 (.tmp 13) (.tmp 52)) 0 ?_
  refine os_store rfl rfl sz142 rfl (one_Parts _) .auto (Nat.le_of_ble_eq_true rfl) (splw_Parts _ _ (siz_Parts _)) ?_
  refine go_nil ?_
  change G _ _ _ _
  refine p_weaken [0, 3, 4, 5, 6, 7, 8, 9, 11, 12, 13] rfl ?_
  refine p_seq0 ?_
  refine p_seq0 ?_
  refine p_plain0 (0 :: 1 :: 2 :: 3 :: 4 :: 5 :: 6 :: 7 :: 8 :: 9 :: 10 :: 11 :: 12 :: 13 :: 14 :: 15 :: 16 :: 17 :: 18 :: 19 :: 20 :: 21 :: []) ?_
  refine go_q0 53 (.move (.tmp 3)) 61 (qv_move rfl) ?_
  refine go_q0 54 (.binOp .neq 61 (.tmp 53) (.const (.int .i64 0)) 61) 4 (qv_neq (b := false) rfl rfl (by decide)) ?_
  refine go_q0 55 (.move (.tmp 54)) 4 (qv_move rfl) ?_
  refine go_q (d := 56) (op := .move (.tmp 4)) (ty := 61) (g := some (2, false)) (by kernel_rfl) ⟨55, by kernel_rfl, rfl⟩ rfl (qv_move rfl) ?_
  refine go_q (d := 57) (op := .binOp .neq 61 (.tmp 56) (.const (.int .i64 0)) 61) (ty := 4) (g := some (2, false)) (by kernel_rfl) ⟨55, by kernel_rfl, rfl⟩ rfl (qv_neq (b := false) rfl rfl (by decide)) ?_
  refine go_q0 58 (.pick (.tmp 55) (.const (.bool true)) (.tmp 57)) 4 (qv_pick_f rfl rfl) ?_
  refine go_q0 59 (.move (.tmp 58)) 4 (qv_move rfl) ?_
  refine go_q (d := 60) (op := .move (.tmp 6)) (ty := 61) (g := some (6, false)) (by kernel_rfl) ⟨59, by kernel_rfl, rfl⟩ rfl (qv_move rfl) ?_
  refine go_q (d := 61) (op := .binOp .neq 61 (.tmp 60) (.const (.int .i64 0)) 61) (ty := 4) (g := some (6, false)) (by kernel_rfl) ⟨59, by kernel_rfl, rfl⟩ rfl (qv_neq (b := false) rfl rfl (by decide)) ?_
  refine go_q0 62 (.pick (.tmp 59) (.const (.bool true)) (.tmp 61)) 4 (qv_pick_f rfl rfl) ?_
  refine go_q0 63 (.move (.tmp 62)) 4 (qv_move rfl) ?_
  refine go_q (d := 64) (op := .move (.tmp 8)) (ty := 61) (g := some (10, false)) (by kernel_rfl) ⟨63, by kernel_rfl, rfl⟩ rfl (qv_move rfl) ?_
  refine go_q (d := 65) (op := .binOp .neq 61 (.tmp 64) (.const (.int .i64 0)) 61) (ty := 4) (g := some (10, false)) (by kernel_rfl) ⟨63, by kernel_rfl, rfl⟩ rfl (qv_neq (b := false) rfl rfl (by decide)) ?_
  refine go_q0 66 (.pick (.tmp 63) (.const (.bool true)) (.tmp 65)) 4 (qv_pick_f rfl rfl) ?_
  refine go_q0 67 (.move (.tmp 66)) 4 (qv_move rfl) ?_
  refine go_q (d := 68) (op := .move (.tmp 11)) (ty := 61) (g := some (14, false)) (by kernel_rfl) ⟨67, by kernel_rfl, rfl⟩ rfl (qv_move rfl) ?_
  refine go_q (d := 69) (op := .binOp .neq 61 (.tmp 68) (.const (.int .i64 2)) 61) (ty := 4) (g := some (14, false)) (by kernel_rfl) ⟨67, by kernel_rfl, rfl⟩ rfl (qv_neq (b := false) rfl rfl (by decide)) ?_
  refine go_q0 70 (.pick (.tmp 67) (.const (.bool true)) (.tmp 69)) 4 (qv_pick_f rfl rfl) ?_
  refine go_q0 71 (.move (.tmp 70)) 4 (qv_move rfl) ?_
  refine go_q (d := 72) (op := .move (.tmp 12)) (ty := 61) (g := some (18, false)) (by kernel_rfl) ⟨71, by kernel_rfl, rfl⟩ rfl (qv_move rfl) ?_
  refine go_q (d := 73) (op := .binOp .neq 61 (.tmp 72) (.const (.int .i64 0)) 61) (ty := 4) (g := some (18, false)) (by kernel_rfl) ⟨71, by kernel_rfl, rfl⟩ rfl (qv_neq (b := false) rfl rfl (by decide)) ?_
  refine go_q0 74 (.pick (.tmp 71) (.const (.bool true)) (.tmp 73)) 4 (qv_pick_f rfl rfl) ?_
  refine go_nil ?_
  change G _ _ _ _
  refine p_weaken [0, 5, 7, 9, 13, 74] rfl ?_
  refine p_condF (.tmp 74) (by kernel_rfl) rfl ?_
  refine p_skip0 ?_
  change G _ _ _ _
  refine p_weaken [0, 5, 7, 9, 13] rfl ?_
  refine p_seq0 ?_
  refine p_plain0 (0 :: 1 :: 2 :: 3 :: 4 :: 5 :: 6 :: 7 :: 8 :: 9 :: 10 :: 11 :: 12 :: 13 :: 14 :: 15 :: 16 :: 17 :: 18 :: 19 :: 20 :: 21 :: 22 :: 23 :: 24 :: 25 :: 26 :: 27 :: 28 :: 29 :: 30 :: 31 :: 32 :: 33 :: 34 :: 35 :: 36 :: 37 :: 38 :: []) ?_
  refine go_q0 75 (.fieldAddr 142 (.tmp 5) 0) 0 (qv_field rfl fd142_0) ?_
  refine go_q0 76 (.fieldAddr 32 (.tmp 75) 1) 0 (qv_field rfl fd32_1) ?_
  refine go_q0 77 (.load 30 (.tmp 76)) 30 (qv_load rfl .auto (ldv_sca sc30 (get_Parts_1 _))) ?_
  refine go_q0 78 (.binOp .eql 30 (.tmp 77) (.const (.int .u64 100)) 30) 4 (qv_eql (b := true) rfl rfl (by decide)) ?_
  refine go_q0 79 (.move (.tmp 78)) 4 (qv_move rfl) ?_
  refine go_q (d := 80) (op := .fieldAddr 142 (.tmp 5) 1) (ty := 0) (g := some (4, true)) (by kernel_rfl) ⟨79, by kernel_rfl, rfl⟩ rfl (qv_field rfl fd142_1) ?_
  refine go_q (d := 81) (op := .fieldAddr 32 (.tmp 80) 1) (ty := 0) (g := some (4, true)) (by kernel_rfl) ⟨79, by kernel_rfl, rfl⟩ rfl (qv_field rfl fd32_1) ?_
  refine go_q (d := 82) (op := .load 30 (.tmp 81)) (ty := 30) (g := some (4, true)) (by kernel_rfl) ⟨79, by kernel_rfl, rfl⟩ rfl (qv_load rfl .auto (ldv_sca sc30 (get_Parts_3 _))) ?_
  refine go_q (d := 83) (op := .binOp .eql 30 (.tmp 82) (.const (.int .u64 100)) 30) (ty := 4) (g := some (4, true)) (by kernel_rfl) ⟨79, by kernel_rfl, rfl⟩ rfl (qv_eql (b := true) rfl rfl (by decide)) ?_
  refine go_q0 84 (.pick (.tmp 79) (.tmp 83) (.const (.bool false))) 4 (qv_pick_t rfl rfl) ?_
  refine go_q0 85 (.move (.tmp 84)) 4 (qv_move rfl) ?_
  refine go_q (d := 86) (op := .fieldAddr 142 (.tmp 7) 2) (ty := 0) (g := some (10, true)) (by kernel_rfl) ⟨85, by kernel_rfl, rfl⟩ rfl (qv_field rfl fd142_2) ?_
  refine go_q (d := 87) (op := .fieldAddr 32 (.tmp 86) 1) (ty := 0) (g := some (10, true)) (by kernel_rfl) ⟨85, by kernel_rfl, rfl⟩ rfl (qv_field rfl fd32_1) ?_
  refine go_q (d := 88) (op := .load 30 (.tmp 87)) (ty := 30) (g := some (10, true)) (by kernel_rfl) ⟨85, by kernel_rfl, rfl⟩ rfl (qv_load rfl .auto (ldv_sca sc30 (get_Parts_5 _))) ?_
  refine go_q (d := 89) (op := .binOp .eql 30 (.tmp 88) (.const (.int .u64 100)) 30) (ty := 4) (g := some (10, true)) (by kernel_rfl) ⟨85, by kernel_rfl, rfl⟩ rfl (qv_eql (b := true) rfl rfl (by decide)) ?_
  refine go_q0 90 (.pick (.tmp 85) (.tmp 89) (.const (.bool false))) 4 (qv_pick_t rfl rfl) ?_
  refine go_q0 91 (.move (.tmp 90)) 4 (qv_move rfl) ?_
  refine go_q (d := 92) (op := .fieldAddr 142 (.tmp 9) 3) (ty := 0) (g := some (16, true)) (by kernel_rfl) ⟨91, by kernel_rfl, rfl⟩ rfl (qv_field rfl fd142_3) ?_
  refine go_q (d := 93) (op := .fieldAddr 32 (.tmp 92) 1) (ty := 0) (g := some (16, true)) (by kernel_rfl) ⟨91, by kernel_rfl, rfl⟩ rfl (qv_field rfl fd32_1) ?_
  refine go_q (d := 94) (op := .load 30 (.tmp 93)) (ty := 30) (g := some (16, true)) (by kernel_rfl) ⟨91, by kernel_rfl, rfl⟩ rfl (qv_load rfl .auto (ldv_sca sc30 (get_Parts_7 _))) ?_
  refine go_q (d := 95) (op := .binOp .eql 30 (.tmp 94) (.const (.int .u64 100)) 30) (ty := 4) (g := some (16, true)) (by kernel_rfl) ⟨91, by kernel_rfl, rfl⟩ rfl (qv_eql (b := true) rfl rfl (by decide)) ?_
  refine go_q0 96 (.pick (.tmp 91) (.tmp 95) (.const (.bool false))) 4 (qv_pick_t rfl rfl) ?_
  refine go_q0 97 (.move (.tmp 96)) 4 (qv_move rfl) ?_
  refine go_q (d := 98) (op := .fieldAddr 142 (.tmp 13) 5) (ty := 0) (g := some (22, true)) (by kernel_rfl) ⟨97, by kernel_rfl, rfl⟩ rfl (qv_field rfl fd142_5) ?_
  refine go_q (d := 99) (op := .fieldAddr 32 (.tmp 98) 1) (ty := 0) (g := some (22, true)) (by kernel_rfl) ⟨97, by kernel_rfl, rfl⟩ rfl (qv_field rfl fd32_1) ?_
  refine go_q (d := 100) (op := .load 30 (.tmp 99)) (ty := 30) (g := some (22, true)) (by kernel_rfl) ⟨97, by kernel_rfl, rfl⟩ rfl (qv_load rfl .auto (ldv_sca sc30 (get_Parts_11 _))) ?_
  refine go_q (d := 101) (op := .binOp .eql 30 (.tmp 100) (.const (.int .u64 100)) 30) (ty := 4) (g := some (22, true)) (by kernel_rfl) ⟨97, by kernel_rfl, rfl⟩ rfl (qv_eql (b := true) rfl rfl (by decide)) ?_
  refine go_q0 102 (.pick (.tmp 97) (.tmp 101) (.const (.bool false))) 4 (qv_pick_t rfl rfl) ?_
  refine go_q0 103 (.move (.tmp 102)) 4 (qv_move rfl) ?_
  refine go_q (d := 104) (op := .load 142 (.tmp 13)) (ty := 142) (g := some (28, true)) (by kernel_rfl) ⟨103, by kernel_rfl, rfl⟩ rfl (qv_load rfl .auto (ldv_agg agg142 (extw_Parts _) (Nat.le_of_ble_eq_true rfl))) ?_
  refine go_s (d := some 105) (op := .call { callee := .value (.func 124), args := #[.tmp 104], argTypes := #[142] }) (ty := 4) (g := some (28, true)) (by kernel_rfl) ⟨103, by kernel_rfl, rfl⟩ ?_
  refine os_callP rfl en124 rfl (whole5) ?_
  refine go_q0 106 (.pick (.tmp 103) (.tmp 105) (.const (.bool false))) 4 (qv_pick_t rfl rfl) ?_
  refine go_q0 107 (.move (.tmp 106)) 4 (qv_move rfl) ?_
  refine go_q (d := 108) (op := .build 32 #[(1, .const (.int .u64 1))]) (ty := 32) (g := some (32, true)) (by kernel_rfl) ⟨107, by kernel_rfl, rfl⟩ rfl (qv_build rfl (bld32_1 _)) ?_
  refine go_q (d := 109) (op := .build 142 #[(0, .tmp 108)]) (ty := 142) (g := some (32, true)) (by kernel_rfl) ⟨107, by kernel_rfl, rfl⟩ rfl (qv_build rfl (bld142_0 _)) ?_
  refine go_s (d := some 110) (op := .call { callee := .value (.func 124), args := #[.tmp 109], argTypes := #[142] }) (ty := 4) (g := some (32, true)) (by kernel_rfl) ⟨107, by kernel_rfl, rfl⟩ ?_
  refine os_callP rfl en124 rfl (whole9) ?_
  refine go_q (d := 111) (op := .unOp .not 4 (.tmp 110)) (ty := 4) (g := some (32, true)) (by kernel_rfl) ⟨107, by kernel_rfl, rfl⟩ rfl (qv_not rfl) ?_
  refine go_q0 112 (.pick (.tmp 107) (.tmp 111) (.const (.bool false))) 4 (qv_pick_t rfl rfl) ?_
  refine go_q0 0 (.assign (.tmp 112)) 4 (qv_assign rfl) ?_
  refine go_nil ?_
  change G _ _ _ _
  refine p_weaken [0] rfl ?_
  refine p_ret0 ?_
  try dsimp only [thenQ, inBlockQ]
  try rw [if_pos rfl]
  refine ret_left ([]) (.inr rfl) (.cons (res_tmp rfl) .nil) .auto ?_
  exact ⟨rfl, rfl⟩
end Go.Proofs.Ytobmcpoejhhemaa
