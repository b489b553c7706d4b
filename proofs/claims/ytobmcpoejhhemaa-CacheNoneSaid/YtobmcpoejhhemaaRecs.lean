/- The law FlowRecords: the walk. -/
import Derived.Test.YtobmcpoejhhemaaKeys
namespace Go.Proofs.Ytobmcpoejhhemaa
open Go.E
theorem sat_comm (a b : Int) : sat a b = sat b a := by unfold sat; rw [Int.add_comm]
theorem Tot.plus_comm (t u : Tot) : t.plus u = u.plus t := by simp only [Tot.plus, Tot.mk.injEq]; exact ⟨sat_comm _ _, sat_comm _ _⟩
theorem pu_FlowRecords (r : Rec) (p : Pkt) (tick : Int) (t u : Tot) (h1 : U64 r.packets) (h2 : U64 r.bytes) (hp : p.Ok) (ht : t.Ok) (hu : u.Ok) : Pu Try.prog 4 [.agg r.c, .agg p.c, .int .u64 tick, .agg t.c, .agg u.c] (.bool true) := by
  refine ct_body (rv := [.tmp 10]) [(0, _), (1, _), (2, _), (3, _), (4, _)] Try.func4 (by kernel_rfl) Try.ntmps4 Try.results4 rfl rfl (fun w0 => ?_)
  refine p_seq0 ?_
  refine p_plain0 (0 :: 1 :: 2 :: 3 :: 4 :: []) ?_
  refine go_s0 (some 5) (.box 35 (.tmp 0)) 0 ?_
  refine os_boxA rfl rfl (fun b5 => ?_)
  refine go_s0 (some 6) (.box 39 (.tmp 1)) 0 ?_
  refine os_boxA rfl rfl (fun b6 => ?_)
  refine go_s0 (some 8) (.box 32 (.tmp 3)) 0 ?_
  refine os_boxA rfl rfl (fun b8 => ?_)
  refine go_s0 (some 9) (.box 32 (.tmp 4)) 0 ?_
  refine os_boxA rfl rfl (fun b9 => ?_)
  refine go_q0 10 (.assign (.const (.bool false))) 4 (qv_assign rfl) ?_
  refine go_nil ?_
  change G _ _ _ _
  refine p_weaken [2, 5, 6, 8, 9, 10] rfl ?_
  refine p_seq0 ?_
  refine p_plain0 (0 :: 1 :: 2 :: 3 :: []) ?_
  refine go_q0 14 (.load 35 (.tmp 5)) 35 (qv_load rfl .auto (ldv_agg agg35 (extw_Rec _) (Nat.le_of_ble_eq_true rfl))) ?_
  refine go_s0 (some 15) (.call { callee := .value (.func 20), args := #[.tmp 14], argTypes := #[35] }) 47 ?_
  refine os_callP rfl en20 rfl (pu_docRecord r) ?_
  refine go_s0 (some 11) (.alloc 47) 0 ?_
  refine os_allocA rfl ze47 (fun b11 => ?_)
  refine go_s0 none (.store 47 (.tmp 11) (.tmp 15)) 0 ?_
  refine os_store rfl rfl sz47 rfl (one_Rec _) .auto (Nat.le_of_ble_eq_true rfl) (splw_Rec _ _ (siz_Rec _)) ?_
  refine go_nil ?_
  change G _ _ _ _
  refine p_weaken [2, 5, 6, 8, 9, 10, 11] rfl ?_
  refine p_seq0 ?_
  refine p_plain0 (0 :: 1 :: 2 :: 3 :: 4 :: 5 :: 6 :: 7 :: 8 :: []) ?_
  refine go_q0 16 (.fieldAddr 39 (.tmp 6) 0) 0 (qv_field rfl fd39_0) ?_
  refine go_q0 17 (.load 27 (.tmp 16)) 27 (qv_load rfl .auto (ldv_agg agg27 (ext_Pkt_0_37 _) (Nat.le_of_ble_eq_true rfl))) ?_
  refine go_q0 18 (.fieldAddr 35 (.tmp 5) 7) 0 (qv_field rfl fd35_7) ?_
  refine go_q0 19 (.load 5 (.tmp 18)) 5 (qv_load rfl .auto (ldv_sca sc5 (get_Rec_43 _))) ?_
  refine go_q0 20 (.move (.tmp 2)) 30 (qv_move rfl) ?_
  refine go_s0 (some 21) (.call { callee := .value (.func 16), args := #[.tmp 17, .tmp 19, .tmp 20], argTypes := #[27, 5, 30] }) 35 ?_
  refine os_callP rfl en16 rfl (pu_Start p.key r.cls tick) ?_
  refine go_s0 (some 22) (.call { callee := .value (.func 20), args := #[.tmp 21], argTypes := #[35] }) 47 ?_
  refine os_callP rfl en20 rfl (pu_docRecord _) ?_
  refine go_s0 (some 12) (.alloc 47) 0 ?_
  refine os_allocA rfl ze47 (fun b12 => ?_)
  refine go_s0 none (.store 47 (.tmp 12) (.tmp 22)) 0 ?_
  refine os_store rfl rfl sz47 rfl (one_Rec _) .auto (Nat.le_of_ble_eq_true rfl) (splw_Rec _ _ (siz_Rec _)) ?_
  refine go_nil ?_
  change G _ _ _ _
  refine p_weaken [2, 5, 6, 8, 9, 10, 11, 12] rfl ?_
  refine p_seq0 ?_
  refine p_plain0 (0 :: 1 :: 2 :: 3 :: 4 :: 5 :: 6 :: []) ?_
  refine go_q0 23 (.load 35 (.tmp 5)) 35 (qv_load rfl .auto (ldv_agg agg35 (extw_Rec _) (Nat.le_of_ble_eq_true rfl))) ?_
  refine go_q0 24 (.load 39 (.tmp 6)) 39 (qv_load rfl .auto (ldv_agg agg39 (extw_Pkt _) (Nat.le_of_ble_eq_true rfl))) ?_
  refine go_q0 25 (.move (.tmp 2)) 30 (qv_move rfl) ?_
  refine go_s0 (some 26) (.call { callee := .value (.func 17), args := #[.tmp 23, .tmp 24, .tmp 25], argTypes := #[35, 39, 30] }) 35 ?_
  refine os_callP rfl en17 rfl (pu_With h1 h2 hp) ?_
  refine go_s0 (some 27) (.call { callee := .value (.func 20), args := #[.tmp 26], argTypes := #[35] }) 47 ?_
  refine os_callP rfl en20 rfl (pu_docRecord _) ?_
  refine go_s0 (some 13) (.alloc 47) 0 ?_
  refine os_allocA rfl ze47 (fun b13 => ?_)
  refine go_s0 none (.store 47 (.tmp 13) (.tmp 27)) 0 ?_
  refine os_store rfl rfl sz47 rfl (one_Rec _) .auto (Nat.le_of_ble_eq_true rfl) (splw_Rec _ _ (siz_Rec _)) ?_
  refine go_nil ?_
  change G _ _ _ _
  refine p_weaken [2, 5, 6, 8, 9, 10, 11, 12, 13] rfl ?_
  refine p_seq0 ?_
  refine p_draw (by kernel_rfl) mixed 59 60 _ (fun _ h => h) (by kernel_rfl) ?_
  refine gd_all (0 :: 1 :: 2 :: 3 :: 4 :: 5 :: 6 :: 7 :: 8 :: 9 :: 10 :: 11 :: 12 :: 13 :: 14 :: 15 :: 16 :: 17 :: 18 :: 19 :: 20 :: 21 :: 22 :: 23 :: 24 :: 25 :: 26 :: 27 :: 28 :: 29 :: 30 :: 31 :: 32 :: 33 :: 34 :: 35 :: 36 :: 37 :: 38 :: 39 :: 40 :: 41 :: 42 :: 43 :: 44 :: 45 :: 46 :: 47 :: 48 :: 49 :: 50 :: 51 :: 52 :: 53 :: 54 :: 55 :: 56 :: 57 :: 58 :: []) _ rfl (by kernel_rfl) (by decide) (fun _ h => h) rfl ?_
  refine sq_q0 28 (.load 35 (.tmp 5)) 35 (qv_load rfl .auto (ldv_agg agg35 (extw_Rec _) (Nat.le_of_ble_eq_true rfl))) ?_
  refine sq_p (d := 29) (op := .call { callee := .value (.func 21), args := #[.tmp 28], argTypes := #[35] }) (ty := 4) (g := none) (by kernel_rfl) trivial (pv_call en21 rfl (pu_RecRight r)) ?_
  refine sq_q0 30 (.load 47 (.tmp 11)) 47 (qv_load rfl .auto (ldv_agg agg47 (extw_Rec _) (Nat.le_of_ble_eq_true rfl))) ?_
  refine sq_p (d := 31) (op := .call { callee := .value (.func 22), args := #[.tmp 30], argTypes := #[47] }) (ty := 4) (g := none) (by kernel_rfl) trivial (pv_call en22 rfl (pu_refRecRight r)) ?_
  refine sq_q0 32 (.binOp .eql 4 (.tmp 29) (.tmp 31) 4) 4 (qv_eqlBb (b := true) un4 rfl rfl (by simp)) ?_
  refine sq_q0 33 (.move (.tmp 32)) 4 (qv_move rfl) ?_
  refine sq_q (d := 34) (op := .load 47 (.tmp 12)) (ty := 47) (g := some (5, true)) (by kernel_rfl) ⟨33, by kernel_rfl, rfl⟩ (fun _ h => nomatch h) (qv_load rfl .auto (ldv_agg agg47 (extw_Rec _) (Nat.le_of_ble_eq_true rfl))) ?_
  refine sq_q (d := 35) (op := .fieldAddr 39 (.tmp 6) 0) (ty := 0) (g := some (5, true)) (by kernel_rfl) ⟨33, by kernel_rfl, rfl⟩ (fun _ h => nomatch h) (qv_field rfl fd39_0) ?_
  refine sq_q (d := 36) (op := .load 27 (.tmp 35)) (ty := 27) (g := some (5, true)) (by kernel_rfl) ⟨33, by kernel_rfl, rfl⟩ (fun _ h => nomatch h) (qv_load rfl .auto (ldv_agg agg27 (ext_Pkt_0_37 _) (Nat.le_of_ble_eq_true rfl))) ?_
  refine sq_p (d := 37) (op := .call { callee := .value (.func 24), args := #[.tmp 36], argTypes := #[27] }) (ty := 45) (g := some (5, true)) (by kernel_rfl) ⟨33, by kernel_rfl, rfl⟩ (pv_call en24 rfl (pu_docKey p.key)) ?_
  refine sq_q (d := 38) (op := .fieldAddr 35 (.tmp 5) 7) (ty := 0) (g := some (5, true)) (by kernel_rfl) ⟨33, by kernel_rfl, rfl⟩ (fun _ h => nomatch h) (qv_field rfl fd35_7) ?_
  refine sq_q (d := 39) (op := .load 5 (.tmp 38)) (ty := 5) (g := some (5, true)) (by kernel_rfl) ⟨33, by kernel_rfl, rfl⟩ (fun _ h => nomatch h) (qv_load rfl .auto (ldv_sca sc5 (get_Rec_43 _))) ?_
  refine sq_q (d := 40) (op := .move (.tmp 2)) (ty := 30) (g := some (5, true)) (by kernel_rfl) ⟨33, by kernel_rfl, rfl⟩ (fun _ h => nomatch h) (qv_move rfl) ?_
  refine sq_p (d := 41) (op := .call { callee := .value (.func 23), args := #[.tmp 37, .tmp 39, .tmp 40], argTypes := #[45, 5, 30] }) (ty := 47) (g := some (5, true)) (by kernel_rfl) ⟨33, by kernel_rfl, rfl⟩ (pv_call en23 rfl (pu_refStart p.key r.cls tick)) ?_
  refine sq_q (d := 42) (op := .binOp .eql 47 (.tmp 34) (.tmp 41) 47) (ty := 4) (g := some (5, true)) (by kernel_rfl) ⟨33, by kernel_rfl, rfl⟩ (fun _ h => nomatch h) (qv_eql_47 (b := true) rfl rfl (by simp)) ?_
  refine sq_q0 43 (.pick (.tmp 33) (.tmp 42) (.const (.bool false))) 4 (qv_pick_t rfl rfl) ?_
  refine sq_q0 44 (.move (.tmp 43)) 4 (qv_move rfl) ?_
  refine sq_q (d := 45) (op := .load 47 (.tmp 13)) (ty := 47) (g := some (16, true)) (by kernel_rfl) ⟨44, by kernel_rfl, rfl⟩ (fun _ h => nomatch h) (qv_load rfl .auto (ldv_agg agg47 (extw_Rec _) (Nat.le_of_ble_eq_true rfl))) ?_
  refine sq_q (d := 46) (op := .load 47 (.tmp 11)) (ty := 47) (g := some (16, true)) (by kernel_rfl) ⟨44, by kernel_rfl, rfl⟩ (fun _ h => nomatch h) (qv_load rfl .auto (ldv_agg agg47 (extw_Rec _) (Nat.le_of_ble_eq_true rfl))) ?_
  refine sq_q (d := 47) (op := .load 39 (.tmp 6)) (ty := 39) (g := some (16, true)) (by kernel_rfl) ⟨44, by kernel_rfl, rfl⟩ (fun _ h => nomatch h) (qv_load rfl .auto (ldv_agg agg39 (extw_Pkt _) (Nat.le_of_ble_eq_true rfl))) ?_
  refine sq_p (d := 48) (op := .call { callee := .value (.func 26), args := #[.tmp 47], argTypes := #[39] }) (ty := 54) (g := some (16, true)) (by kernel_rfl) ⟨44, by kernel_rfl, rfl⟩ (pv_call en26 rfl (pu_docPacket p)) ?_
  refine sq_q (d := 49) (op := .move (.tmp 2)) (ty := 30) (g := some (16, true)) (by kernel_rfl) ⟨44, by kernel_rfl, rfl⟩ (fun _ h => nomatch h) (qv_move rfl) ?_
  refine sq_p (d := 50) (op := .call { callee := .value (.func 25), args := #[.tmp 46, .tmp 48, .tmp 49], argTypes := #[47, 54, 30] }) (ty := 47) (g := some (16, true)) (by kernel_rfl) ⟨44, by kernel_rfl, rfl⟩ (pv_call en25 rfl (pu_refWith h1 h2 hp)) ?_
  refine sq_q (d := 51) (op := .binOp .eql 47 (.tmp 45) (.tmp 50) 47) (ty := 4) (g := some (16, true)) (by kernel_rfl) ⟨44, by kernel_rfl, rfl⟩ (fun _ h => nomatch h) (qv_eql_47 (b := true) rfl rfl (by simp)) ?_
  refine sq_q0 52 (.pick (.tmp 44) (.tmp 51) (.const (.bool false))) 4 (qv_pick_t rfl rfl) ?_
  refine sq_q0 53 (.move (.tmp 52)) 4 (qv_move rfl) ?_
  refine sq_q (d := 54) (op := .load 35 (.tmp 5)) (ty := 35) (g := some (25, true)) (by kernel_rfl) ⟨53, by kernel_rfl, rfl⟩ (fun _ h => nomatch h) (qv_load rfl .auto (ldv_agg agg35 (extw_Rec _) (Nat.le_of_ble_eq_true rfl))) ?_
  refine sq_p (d := 55) (op := .call { callee := .value (.func 18), args := #[.tmp 54], argTypes := #[35] }) (ty := 32) (g := some (25, true)) (by kernel_rfl) ⟨53, by kernel_rfl, rfl⟩ (pv_call en18 rfl (pu_Total r)) ?_
  refine sq_q (d := 56) (op := .fieldAddr 35 (.tmp 5) 1) (ty := 0) (g := some (25, true)) (by kernel_rfl) ⟨53, by kernel_rfl, rfl⟩ (fun _ h => nomatch h) (qv_field rfl fd35_1) ?_
  refine sq_q (d := 57) (op := .load 30 (.tmp 56)) (ty := 30) (g := some (25, true)) (by kernel_rfl) ⟨53, by kernel_rfl, rfl⟩ (fun _ h => nomatch h) (qv_load rfl .auto (ldv_sca sc30 (get_Rec_37 _))) ?_
  refine sq_q (d := 58) (op := .fieldAddr 35 (.tmp 5) 2) (ty := 0) (g := some (25, true)) (by kernel_rfl) ⟨53, by kernel_rfl, rfl⟩ (fun _ h => nomatch h) (qv_field rfl fd35_2) ?_
  refine sq_q (d := 59) (op := .load 30 (.tmp 58)) (ty := 30) (g := some (25, true)) (by kernel_rfl) ⟨53, by kernel_rfl, rfl⟩ (fun _ h => nomatch h) (qv_load rfl .auto (ldv_sca sc30 (get_Rec_38 _))) ?_
  refine sq_q (d := 60) (op := .build 32 #[(0, .tmp 57), (1, .tmp 59)]) (ty := 32) (g := some (25, true)) (by kernel_rfl) ⟨53, by kernel_rfl, rfl⟩ (fun _ h => nomatch h) (qv_build rfl (bld32_0_1 _ _)) ?_
  refine sq_q (d := 61) (op := .binOp .eql 32 (.tmp 55) (.tmp 60) 32) (ty := 4) (g := some (25, true)) (by kernel_rfl) ⟨53, by kernel_rfl, rfl⟩ (fun _ h => nomatch h) (qv_eql_32 (b := true) rfl rfl (by simp)) ?_
  refine sq_q0 62 (.pick (.tmp 53) (.tmp 61) (.const (.bool false))) 4 (qv_pick_t rfl rfl) ?_
  refine sq_q0 63 (.move (.tmp 62)) 4 (qv_move rfl) ?_
  refine sq_q (d := 64) (op := .load 32 (.tmp 8)) (ty := 32) (g := some (35, true)) (by kernel_rfl) ⟨63, by kernel_rfl, rfl⟩ (fun _ h => nomatch h) (qv_load rfl .auto (ldv_agg agg32 (extw_Tot _) (Nat.le_of_ble_eq_true rfl))) ?_
  refine sq_q (d := 65) (op := .load 32 (.tmp 9)) (ty := 32) (g := some (35, true)) (by kernel_rfl) ⟨63, by kernel_rfl, rfl⟩ (fun _ h => nomatch h) (qv_load rfl .auto (ldv_agg agg32 (extw_Tot _) (Nat.le_of_ble_eq_true rfl))) ?_
  refine sq_p (d := 66) (op := .call { callee := .value (.func 19), args := #[.tmp 64, .tmp 65], argTypes := #[32, 32] }) (ty := 32) (g := some (35, true)) (by kernel_rfl) ⟨63, by kernel_rfl, rfl⟩ (pv_call en19 rfl (pu_Plus ht hu)) ?_
  refine sq_p (d := 67) (op := .call { callee := .value (.func 27), args := #[.tmp 66], argTypes := #[32] }) (ty := 56) (g := some (35, true)) (by kernel_rfl) ⟨63, by kernel_rfl, rfl⟩ (pv_call en27 rfl (pu_docTotal _)) ?_
  refine sq_q (d := 68) (op := .load 32 (.tmp 8)) (ty := 32) (g := some (35, true)) (by kernel_rfl) ⟨63, by kernel_rfl, rfl⟩ (fun _ h => nomatch h) (qv_load rfl .auto (ldv_agg agg32 (extw_Tot _) (Nat.le_of_ble_eq_true rfl))) ?_
  refine sq_p (d := 69) (op := .call { callee := .value (.func 27), args := #[.tmp 68], argTypes := #[32] }) (ty := 56) (g := some (35, true)) (by kernel_rfl) ⟨63, by kernel_rfl, rfl⟩ (pv_call en27 rfl (pu_docTotal t)) ?_
  refine sq_q (d := 70) (op := .load 32 (.tmp 9)) (ty := 32) (g := some (35, true)) (by kernel_rfl) ⟨63, by kernel_rfl, rfl⟩ (fun _ h => nomatch h) (qv_load rfl .auto (ldv_agg agg32 (extw_Tot _) (Nat.le_of_ble_eq_true rfl))) ?_
  refine sq_p (d := 71) (op := .call { callee := .value (.func 27), args := #[.tmp 70], argTypes := #[32] }) (ty := 56) (g := some (35, true)) (by kernel_rfl) ⟨63, by kernel_rfl, rfl⟩ (pv_call en27 rfl (pu_docTotal u)) ?_
  refine sq_p (d := 72) (op := .call { callee := .value (.func 28), args := #[.tmp 69, .tmp 71], argTypes := #[56, 56] }) (ty := 56) (g := some (35, true)) (by kernel_rfl) ⟨63, by kernel_rfl, rfl⟩ (pv_call en28 rfl (pu_refTotPlus ht hu)) ?_
  refine sq_q (d := 73) (op := .binOp .eql 56 (.tmp 67) (.tmp 72) 56) (ty := 4) (g := some (35, true)) (by kernel_rfl) ⟨63, by kernel_rfl, rfl⟩ (fun _ h => nomatch h) (qv_eql_56 (b := true) rfl rfl (by simp)) ?_
  refine sq_q0 74 (.pick (.tmp 63) (.tmp 73) (.const (.bool false))) 4 (qv_pick_t rfl rfl) ?_
  refine sq_q0 75 (.move (.tmp 74)) 4 (qv_move rfl) ?_
  refine sq_q (d := 76) (op := .load 32 (.tmp 8)) (ty := 32) (g := some (47, true)) (by kernel_rfl) ⟨75, by kernel_rfl, rfl⟩ (fun _ h => nomatch h) (qv_load rfl .auto (ldv_agg agg32 (extw_Tot _) (Nat.le_of_ble_eq_true rfl))) ?_
  refine sq_q (d := 77) (op := .load 32 (.tmp 9)) (ty := 32) (g := some (47, true)) (by kernel_rfl) ⟨75, by kernel_rfl, rfl⟩ (fun _ h => nomatch h) (qv_load rfl .auto (ldv_agg agg32 (extw_Tot _) (Nat.le_of_ble_eq_true rfl))) ?_
  refine sq_p (d := 78) (op := .call { callee := .value (.func 19), args := #[.tmp 76, .tmp 77], argTypes := #[32, 32] }) (ty := 32) (g := some (47, true)) (by kernel_rfl) ⟨75, by kernel_rfl, rfl⟩ (pv_call en19 rfl (pu_Plus ht hu)) ?_
  refine sq_q (d := 79) (op := .load 32 (.tmp 9)) (ty := 32) (g := some (47, true)) (by kernel_rfl) ⟨75, by kernel_rfl, rfl⟩ (fun _ h => nomatch h) (qv_load rfl .auto (ldv_agg agg32 (extw_Tot _) (Nat.le_of_ble_eq_true rfl))) ?_
  refine sq_q (d := 80) (op := .load 32 (.tmp 8)) (ty := 32) (g := some (47, true)) (by kernel_rfl) ⟨75, by kernel_rfl, rfl⟩ (fun _ h => nomatch h) (qv_load rfl .auto (ldv_agg agg32 (extw_Tot _) (Nat.le_of_ble_eq_true rfl))) ?_
  refine sq_p (d := 81) (op := .call { callee := .value (.func 19), args := #[.tmp 79, .tmp 80], argTypes := #[32, 32] }) (ty := 32) (g := some (47, true)) (by kernel_rfl) ⟨75, by kernel_rfl, rfl⟩ (pv_call en19 rfl (pu_Plus hu ht)) ?_
  refine sq_q (d := 82) (op := .binOp .eql 32 (.tmp 78) (.tmp 81) 32) (ty := 4) (g := some (47, true)) (by kernel_rfl) ⟨75, by kernel_rfl, rfl⟩ (fun _ h => nomatch h) (qv_eql_32 (b := true) rfl rfl (by rw [Tot.plus_comm]; simp)) ?_
  refine sq_q0 83 (.pick (.tmp 75) (.tmp 82) (.const (.bool false))) 4 (qv_pick_t rfl rfl) ?_
  refine sq_q0 84 (.move (.tmp 83)) 4 (qv_move rfl) ?_
  refine sq_p (d := 85) (op := .call { callee := .value (.func 15), args := #[], argTypes := #[] }) (ty := 4) (g := some (56, true)) (by kernel_rfl) ⟨84, by kernel_rfl, rfl⟩ (pv_call en15 rfl (pu_works22)) ?_
  refine sq_q0 86 (.pick (.tmp 84) (.tmp 85) (.const (.bool false))) 4 (qv_pick_t rfl rfl) ?_
  refine SeqK.nil (fun β => ?_)
  refine gd_tail [59] rfl (by kernel_rfl) (by kernel_rfl) ?_
  refine go_q0 10 (.assign (.tmp 86)) 4 (qv_assign rfl) ?_
  refine go_nil ?_
  change G _ _ _ _
  refine p_weaken [10] rfl ?_
  refine p_ret0 ?_
  try dsimp only [thenQ, inBlockQ]
  try rw [if_pos rfl]
  refine ret_now (.inr rfl) (.cons (res_tmp rfl) .nil) (by repeat constructor) ?_
  exact ⟨rfl, rfl⟩
end Go.Proofs.Ytobmcpoejhhemaa
