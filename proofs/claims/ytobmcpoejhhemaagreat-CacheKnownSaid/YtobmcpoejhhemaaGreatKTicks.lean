import Derived.Test.YtobmcpoejhhemaaGreatKCacZ
import Derived.Test.YtobmcpoejhhemaaGreatKCacY
namespace Go.Proofs.YtobmcpoejhhemaaGreat
open Go.E

theorem ct_CacheTicksBad (bd : Bnd) (acts : List Act24) (tks : Int) (R : Mem) (pl : Option Addr) (cl : Nat) (hb : okBnd bd = false) :
    Ct Tryz.prog 7 [.agg bd.c, .slice pl acts.length cl, .int .u8 tks].toArray R (fun v M' => v = .bool true ∧ M' = R) := by
  refine ct_body (rv := [.tmp 6]) [(0, _), (1, _), (2, _)] Tryz.func7 (by kernel_rfl) Tryz.ntmps7 Tryz.results7 rfl rfl (fun w0 => ?_)
  refine p_seq0 ?_
  refine p_plain0 (0 :: 1 :: []) ?_
  refine go_s0 (some 3) (.box 36 (.tmp 0)) 0 ?_
  refine os_boxA rfl rfl (fun b3 => ?_)
  refine go_q0 6 (.assign (.const (.bool false))) 4 (qv_assign rfl) ?_
  refine go_nil ?_
  change G _ _ _ _
  refine p_weaken [1, 2, 3, 6] rfl ?_
  refine p_seq0 ?_
  refine p_seq0 ?_
  refine p_plain0 (0 :: 1 :: 2 :: []) ?_
  refine go_q0 22 (.move (.tmp 1)) 22 (qv_move rfl) ?_
  refine go_q0 23 (.call { callee := .builtin .len, args := #[.tmp 22], argTypes := #[22] }) 3 (qv_lenS un22 rfl) ?_
  refine go_q0 24 (.binOp .gtr 3 (.tmp 23) (.const (.int .i64 20)) 3) 4 (qv_gtr rfl rfl rfl) ?_
  refine go_nil ?_
  change G _ _ _ _
  refine p_weaken [1, 2, 3, 6, 24] rfl ?_
  refine p_cond (.tmp 24) (by kernel_rfl) rfl (fun h24 => ?_) (fun h24 => ?_)
  · replace h24 := kn h24
    refine p_seq0 ?_
    refine p_plain0 (0 :: 1 :: []) ?_
    refine go_s0 (some 25) (.call { callee := .value (.func 9), args := #[], argTypes := #[] }) 4 ?_
    refine os_callP rfl en9 rfl (pu_works24) ?_
    refine go_q0 6 (.assign (.tmp 25)) 4 (qv_assign rfl) ?_
    refine go_nil ?_
    change G _ _ _ _
    refine p_weaken [1, 2, 3, 6] rfl ?_
    refine p_ret0 ?_
    try dsimp only [thenQ, inBlockQ]
    try rw [if_pos rfl]
    refine ret_left (R) (.inr rfl) (.cons (res_tmp rfl) .nil) .auto ?_
    exact ⟨rfl, rfl⟩
  replace h24 := kn h24
  refine p_skip0 ?_
  change G _ _ _ _
  refine p_weaken [1, 2, 3, 6] rfl ?_
  refine p_seq0 ?_
  refine p_plain0 (0 :: 1 :: 2 :: 3 :: 4 :: 5 :: 6 :: []) ?_
  refine go_q0 27 (.load 36 (.tmp 3)) 36 (qv_load rfl .auto (ldv_agg agg36 (extw_Bnd _) (Nat.le_of_ble_eq_true rfl))) ?_
  refine go_s0 (some 28) (.call { callee := .value (.func 10), args := #[.const (.int .u64 0), .tmp 27], argTypes := #[23, 36] }) 45 ?_
  refine os_callP rfl en10 rfl (pu_CNewBad 0 bd hb) ?_
  refine go_q0 26 (.move (.tmp 28)) 45 (qv_move rfl) ?_
  refine go_q0 29 (.extract (.tmp 26) 0) 43 (qv_extract rfl rfl) ?_
  refine go_q0 30 (.extract (.tmp 26) 1) 44 (qv_extract rfl rfl) ?_
  refine go_q0 7 (.assign (.tmp 29)) 43 (qv_assign rfl) ?_
  refine go_q0 8 (.assign (.tmp 30)) 44 (qv_assign rfl) ?_
  refine go_nil ?_
  change G _ _ _ _
  refine p_weaken [1, 2, 3, 6, 7, 8] rfl ?_
  refine p_seq0 ?_
  refine p_plain0 (0 :: 1 :: 2 :: 3 :: 4 :: 5 :: 6 :: []) ?_
  refine go_q0 32 (.load 36 (.tmp 3)) 36 (qv_load rfl .auto (ldv_agg agg36 (extw_Bnd _) (Nat.le_of_ble_eq_true rfl))) ?_
  refine go_s0 (some 33) (.call { callee := .value (.func 10), args := #[.const (.int .u64 0), .tmp 32], argTypes := #[23, 36] }) 45 ?_
  refine os_callP rfl en10 rfl (pu_CNewBad 0 bd hb) ?_
  refine go_q0 31 (.move (.tmp 33)) 45 (qv_move rfl) ?_
  refine go_q0 34 (.extract (.tmp 31) 0) 43 (qv_extract rfl rfl) ?_
  refine go_q0 35 (.extract (.tmp 31) 1) 44 (qv_extract rfl rfl) ?_
  refine go_q0 9 (.assign (.tmp 34)) 43 (qv_assign rfl) ?_
  refine go_q0 10 (.assign (.tmp 35)) 44 (qv_assign rfl) ?_
  refine go_nil ?_
  change G _ _ _ _
  refine p_weaken [1, 2, 6, 7, 8, 9, 10] rfl ?_
  refine p_seq0 ?_
  refine p_seq0 ?_
  refine p_plain0 (0 :: 1 :: 2 :: 3 :: 4 :: 5 :: []) ?_
  refine go_q0 36 (.move (.tmp 8)) 44 (qv_move rfl) ?_
  refine go_q0 37 (.binOp .neq 44 (.tmp 36) (.const (.int .i64 0)) 44) 4 (qv_neq (b := true) rfl rfl (by decide)) ?_
  refine go_q0 38 (.move (.tmp 37)) 4 (qv_move rfl) ?_
  refine go_n (d := 39) (op := .move (.tmp 10)) (ty := 44) (g := some (2, false)) (by kernel_rfl) ⟨38, _, by kernel_rfl, rfl, rfl⟩ rfl ?_
  refine go_n (d := 40) (op := .binOp .neq 44 (.tmp 39) (.const (.int .i64 0)) 44) (ty := 4) (g := some (2, false)) (by kernel_rfl) ⟨38, _, by kernel_rfl, rfl, rfl⟩ rfl ?_
  refine go_q0 41 (.pick (.tmp 38) (.const (.bool true)) (.tmp 40)) 4 (qv_pick_t rfl rfl) ?_
  refine go_nil ?_
  change G _ _ _ _
  refine p_weaken [1, 2, 6, 7, 8, 9, 10, 41] rfl ?_
  refine p_condT (.tmp 41) (by kernel_rfl) rfl ?_
  refine p_seq0 ?_
  refine p_plain0 (0 :: 1 :: 2 :: 3 :: 4 :: 5 :: 6 :: []) ?_
  refine go_q0 42 (.move (.tmp 8)) 44 (qv_move rfl) ?_
  refine go_q0 43 (.move (.tmp 10)) 44 (qv_move rfl) ?_
  refine go_q0 44 (.binOp .eql 44 (.tmp 42) (.tmp 43) 44) 4 (qv_eql (b := true) rfl rfl (by decide)) ?_
  refine go_q0 45 (.move (.tmp 44)) 4 (qv_move rfl) ?_
  refine go_s (d := some 46) (op := .call { callee := .value (.func 9), args := #[], argTypes := #[] }) (ty := 4) (g := some (3, true)) (by kernel_rfl) ⟨45, by kernel_rfl, rfl⟩ ?_
  refine os_callP rfl en9 rfl (pu_works24) ?_
  refine go_q0 47 (.pick (.tmp 45) (.tmp 46) (.const (.bool false))) 4 (qv_pick_t rfl rfl) ?_
  refine go_q0 6 (.assign (.tmp 47)) 4 (qv_assign rfl) ?_
  refine go_nil ?_
  change G _ _ _ _
  refine p_weaken [1, 2, 6, 7, 9] rfl ?_
  refine p_ret0 ?_
  try dsimp only [thenQ, inBlockQ]
  try rw [if_pos rfl]
  refine ret_left (R) (.inr rfl) (.cons (res_tmp rfl) .nil) .auto ?_
  exact ⟨rfl, rfl⟩
theorem u64r {x : Int} (h0 : 0 ≤ x) (h1 : x ≤ 1000000) : InK .u64 x := ⟨h0, show x ≤ 18446744073709551615 by omega⟩
theorem ct_CacheTicks (bd : Bnd) (acts : List Act24) (tks : Int) (R : Mem) (pl : Option Addr) (cl : Nat) (hok : okBnd bd = true) (hbw : bd.Wf) (htw : InK .u8 tks) (hl : Lst eAct24 pl acts R) (hwf : ∀ a ∈ acts, a.Wf) :
    Ct Tryz.prog 7 [.agg bd.c, .slice pl acts.length cl, .int .u8 tks].toArray R (fun v M' => v = .bool true ∧ M' = R) := by
  refine ct_body (rv := [.tmp 6]) [(0, _), (1, _), (2, _)] Tryz.func7 (by kernel_rfl) Tryz.ntmps7 Tryz.results7 rfl rfl (fun w0 => ?_)
  refine p_seq0 ?_
  refine p_plain0 (0 :: 1 :: []) ?_
  refine go_s0 (some 3) (.box 36 (.tmp 0)) 0 ?_
  refine os_boxA rfl rfl (fun b3 => ?_)
  refine go_q0 6 (.assign (.const (.bool false))) 4 (qv_assign rfl) ?_
  refine go_nil ?_
  change G _ _ _ _
  refine p_weaken [1, 2, 3, 6] rfl ?_
  refine p_seq0 ?_
  refine p_seq0 ?_
  refine p_plain0 (0 :: 1 :: 2 :: []) ?_
  refine go_q0 22 (.move (.tmp 1)) 22 (qv_move rfl) ?_
  refine go_q0 23 (.call { callee := .builtin .len, args := #[.tmp 22], argTypes := #[22] }) 3 (qv_lenS un22 rfl) ?_
  refine go_q0 24 (.binOp .gtr 3 (.tmp 23) (.const (.int .i64 20)) 3) 4 (qv_gtr rfl rfl rfl) ?_
  refine go_nil ?_
  change G _ _ _ _
  refine p_weaken [1, 2, 3, 6, 24] rfl ?_
  refine p_cond (.tmp 24) (by kernel_rfl) rfl (fun h24 => ?_) (fun h24 => ?_)
  · replace h24 := kn h24
    refine p_seq0 ?_
    refine p_plain0 (0 :: 1 :: []) ?_
    refine go_s0 (some 25) (.call { callee := .value (.func 9), args := #[], argTypes := #[] }) 4 ?_
    refine os_callP rfl en9 rfl (pu_works24) ?_
    refine go_q0 6 (.assign (.tmp 25)) 4 (qv_assign rfl) ?_
    refine go_nil ?_
    change G _ _ _ _
    refine p_weaken [1, 2, 3, 6] rfl ?_
    refine p_ret0 ?_
    try dsimp only [thenQ, inBlockQ]
    try rw [if_pos rfl]
    refine ret_left (R) (.inr rfl) (.cons (res_tmp rfl) .nil) .auto ?_
    exact ⟨rfl, rfl⟩
  replace h24 := kn h24
  refine p_skip0 ?_
  change G _ _ _ _
  refine p_weaken [1, 2, 3, 6] rfl ?_
  refine p_seq0 ?_
  refine p_plain0 (0 :: 1 :: 2 :: 3 :: 4 :: 5 :: 6 :: []) ?_
  refine go_q0 27 (.load 36 (.tmp 3)) 36 (qv_load rfl .auto (ldv_agg agg36 (extw_Bnd _) (Nat.le_of_ble_eq_true rfl))) ?_
  refine go_s0 (some 28) (.call { callee := .value (.func 10), args := #[.const (.int .u64 0), .tmp 27], argTypes := #[23, 36] }) 45 ?_
  refine os_call (Nat.le_of_ble_eq_true rfl) en10 rfl .auto (ct_CNew (tick := 0) (b := bd) hok hbw) ?_
  rintro v28 A28 ⟨bc, rfl, hM0⟩
  try dsimp only [List.nil_append, List.cons_append]
  refine go_q0 26 (.move (.tmp 28)) 45 (qv_move rfl) ?_
  refine go_q0 29 (.extract (.tmp 26) 0) 43 (qv_extract rfl rfl) ?_
  refine go_q0 30 (.extract (.tmp 26) 1) 44 (qv_extract rfl rfl) ?_
  refine go_q0 7 (.assign (.tmp 29)) 43 (qv_assign rfl) ?_
  refine go_q0 8 (.assign (.tmp 30)) 44 (qv_assign rfl) ?_
  refine go_nil ?_
  change G _ _ _ _
  refine p_weaken [1, 2, 3, 6, 7, 8] rfl ?_
  refine p_seq0 ?_
  refine p_plain0 (0 :: 1 :: 2 :: 3 :: 4 :: 5 :: 6 :: []) ?_
  refine go_q0 32 (.load 36 (.tmp 3)) 36 (qv_load rfl .auto (ldv_agg agg36 (extw_Bnd _) (Nat.le_of_ble_eq_true rfl))) ?_
  refine go_s0 (some 33) (.call { callee := .value (.func 10), args := #[.const (.int .u64 0), .tmp 32], argTypes := #[23, 36] }) 45 ?_
  refine os_call (Nat.le_of_ble_eq_true rfl) en10 rfl .auto (ct_CNew (tick := 0) (b := bd) hok hbw) ?_
  rintro v33 A33 ⟨be, rfl, hN0⟩
  try dsimp only [List.nil_append, List.cons_append]
  refine go_q0 31 (.move (.tmp 33)) 45 (qv_move rfl) ?_
  refine go_q0 34 (.extract (.tmp 31) 0) 43 (qv_extract rfl rfl) ?_
  refine go_q0 35 (.extract (.tmp 31) 1) 44 (qv_extract rfl rfl) ?_
  refine go_q0 9 (.assign (.tmp 34)) 43 (qv_assign rfl) ?_
  refine go_q0 10 (.assign (.tmp 35)) 44 (qv_assign rfl) ?_
  refine go_nil ?_
  change G _ _ _ _
  refine p_weaken [1, 2, 6, 7, 8, 9, 10] rfl ?_
  refine p_seq0 ?_
  refine p_seq0 ?_
  refine p_plain0 (0 :: 1 :: 2 :: 3 :: 4 :: 5 :: []) ?_
  refine go_q0 36 (.move (.tmp 8)) 44 (qv_move rfl) ?_
  refine go_q0 37 (.binOp .neq 44 (.tmp 36) (.const (.int .i64 0)) 44) 4 (qv_neq (b := false) rfl rfl (by decide)) ?_
  refine go_q0 38 (.move (.tmp 37)) 4 (qv_move rfl) ?_
  refine go_q (d := 39) (op := .move (.tmp 10)) (ty := 44) (g := some (2, false)) (by kernel_rfl) ⟨38, by kernel_rfl, rfl⟩ rfl (qv_move rfl) ?_
  refine go_q (d := 40) (op := .binOp .neq 44 (.tmp 39) (.const (.int .i64 0)) 44) (ty := 4) (g := some (2, false)) (by kernel_rfl) ⟨38, by kernel_rfl, rfl⟩ rfl (qv_neq (b := false) rfl rfl (by decide)) ?_
  refine go_q0 41 (.pick (.tmp 38) (.const (.bool true)) (.tmp 40)) 4 (qv_pick_f rfl rfl) ?_
  refine go_nil ?_
  change G _ _ _ _
  refine p_weaken [1, 2, 6, 7, 8, 9, 10, 41] rfl ?_
  refine p_condF (.tmp 41) (by kernel_rfl) rfl ?_
  refine p_skip0 ?_
  change G _ _ _ _
  refine p_weaken [1, 2, 6, 7, 9] rfl ?_
  refine p_seq0 ?_
  refine p_plain0 (0 :: []) ?_
  refine go_q0 11 (.assign (.const (.int .u64 0))) 23 (qv_assign rfl) ?_
  refine go_nil ?_
  change G _ _ _ _
  refine p_seq0 ?_
  refine p_seq0 ?_
  refine p_plain0 (0 :: []) ?_
  refine go_q0 12 (.assign (.const (.int .i64 0))) 3 (qv_assign rfl) ?_
  refine go_nil ?_
  change G _ _ _ _
  refine p_block 0 (by kernel_rfl) ?_
  refine p_loopE (by kernel_rfl) (fun s m => ∃ (i : Nat) (T : Int) (tk : Int) (fl : List Rec) (gl : List Rec) (M1 : Mem) (M2 : Mem), (i ≤ acts.length) ∧ (0 ≤ tk ∧ tk ≤ T ∧ T ≤ 7 * (i : Int)) ∧ (CacM bc tk bd fl M1) ∧ (CacM be tk bd gl M2) ∧ (fl.Perm gl) ∧ Ge s ⟨[], [(1, .slice pl acts.length cl), (2, .int .u8 tks), (6, .bool false), (7, .pointer (some ⟨bc, 0, none⟩)), (9, .pointer (some ⟨be, 0, none⟩)), (11, .int .u64 T), (12, .int .i64 i)], M1 ++ (M2 ++ R)⟩ ∧ m = acts.length + 1 - i) ?_ ?_
  · exact ⟨_, ⟨0, 0, 0, [], [], _, _, by omega, by omega, hM0, hN0, List.Perm.refl _, ⟨rfl, ⟨[1, 2, 6, 7, 9, 11, 12], rfl⟩, .auto⟩, rfl⟩⟩
  rintro s m ⟨i, T, tk, fl, gl, M1, M2, hi, hT, hM1, hM2, hp, hs, rfl⟩
  refine ge_ok hs ?_
  refine p_seq0 ?_
  refine p_seq0 ?_
  refine p_plain0 (0 :: 1 :: 2 :: 3 :: []) ?_
  refine go_q0 48 (.move (.tmp 12)) 3 (qv_move rfl) ?_
  refine go_q0 49 (.move (.tmp 1)) 22 (qv_move rfl) ?_
  refine go_q0 50 (.call { callee := .builtin .len, args := #[.tmp 49], argTypes := #[22] }) 3 (qv_lenS un22 rfl) ?_
  refine go_q0 51 (.binOp .lss 3 (.tmp 48) (.tmp 50) 3) 4 (qv_lss rfl rfl rfl) ?_
  refine go_nil ?_
  change G _ _ _ _
  refine p_weaken [1, 2, 6, 7, 9, 11, 12, 51] rfl ?_
  refine p_cond (.tmp 51) (by kernel_rfl) rfl (fun h51 => ?_) (fun h51 => ?_)
  · replace h51 := kn h51
    refine p_skip0 ?_
    change G _ _ _ _
    refine p_weaken [1, 2, 6, 7, 9, 11, 12] rfl ?_
    refine p_seq0 ?_
    refine p_block 1 (by kernel_rfl) ?_
    refine p_seq0 ?_
    obtain ⟨ba, oa, ca, ea, fa, rfl, ma, Ha⟩ := hl.at_ (i := i) (by omega)
    obtain ⟨a, hx⟩ : ∃ a, acts[i]? = some a := ⟨_, List.getElem?_eq_getElem (by omega)⟩
    have haw := hwf a (List.mem_of_getElem? hx)
    have hm1 : a.tick.tmod 8 < 8 := Int.tmod_lt_of_pos _ (by decide)
    have hm0 : 0 ≤ a.tick.tmod 8 := Int.tmod_nonneg 8 haw.tick_.1
    have hTw : InK .u64 tk := u64r hT.1 (by omega)
    have hTw2 : InK .u64 (T + a.tick.tmod 8) := u64r (by omega) (by omega)
    have hAc1 := ct_AccountA hM1 haw.packet_ hTw hTw2 haw.cls_
    have hAc2 := ct_AccountA hM2 haw.packet_ hTw hTw2 haw.cls_
    have hwr := hM1.wfr
    have hds := hM1.dist
    refine p_plain0 (0 :: 1 :: 2 :: 3 :: 4 :: 5 :: 6 :: 7 :: 8 :: []) ?_
    refine go_q0 54 (.move (.tmp 11)) 23 (qv_move rfl) ?_
    refine go_q0 55 (.move (.tmp 1)) 22 (qv_move rfl) ?_
    refine go_q0 56 (.move (.tmp 12)) 3 (qv_move rfl) ?_
    refine go_q0 57 (.indexAddr 22 (.tmp 55) (.tmp 56)) 0 (qv_index un22 sz33 rfl rfl rfl (by omega)) ?_
    refine go_q0 58 (.fieldAddr 33 (.tmp 57) 3) 0 (qv_field rfl fd33_3) ?_
    refine go_q0 59 (.load 23 (.tmp 58)) 23 (qv_load rfl (At.of_mem (by repeat first | exact ma | exact List.mem_append_left _ ma | apply List.mem_cons_of_mem | apply List.mem_append_right)) (ldv_el Ha hx sc23 (get_Act24_42 _) rfl)) ?_
    refine go_q0 60 (.binOp .rem 23 (.tmp 59) (.const (.int .u64 8)) 23) 23 (qv_rem rfl rfl (by omega) (rfl)) ?_
    refine go_q0 61 (.binOp .add 23 (.tmp 54) (.tmp 60) 23) 23 (qv_add rfl rfl (IntWalk.u64_in _ (by omega))) ?_
    refine go_q0 11 (.assign (.tmp 61)) 23 (qv_assign rfl) ?_
    refine go_nil ?_
    change G _ _ _ _
    refine p_weaken [1, 2, 6, 7, 9, 11, 12] rfl ?_
    refine p_seq0 ?_
    refine p_draw (by kernel_rfl) mixed 17 18 R (by first | (simp; done) | (intro q hq; simp [hq]; done)) (by kernel_rfl) ?_
    refine gd_q (i := 0) (d := 63) (op := .move (.tmp 7)) (ty := 43) (g := none) (by kernel_rfl) trivial rfl (by kernel_rfl) (by kernel_rfl) (by kernel_rfl) (by kernel_rfl) (qv_move rfl) ?_
    refine gd_q (i := 1) (d := 64) (op := .move (.tmp 1)) (ty := 22) (g := none) (by kernel_rfl) trivial rfl (by kernel_rfl) (by kernel_rfl) (by kernel_rfl) (by kernel_rfl) (qv_move rfl) ?_
    refine gd_q (i := 2) (d := 65) (op := .move (.tmp 12)) (ty := 3) (g := none) (by kernel_rfl) trivial rfl (by kernel_rfl) (by kernel_rfl) (by kernel_rfl) (by kernel_rfl) (qv_move rfl) ?_
    refine gd_q (i := 3) (d := 66) (op := .indexAddr 22 (.tmp 64) (.tmp 65)) (ty := 0) (g := none) (by kernel_rfl) trivial rfl (by kernel_rfl) (by kernel_rfl) (by kernel_rfl) (by kernel_rfl) (qv_index un22 sz33 rfl rfl rfl (by omega)) ?_
    refine gd_q (i := 4) (d := 67) (op := .fieldAddr 33 (.tmp 66) 1) (ty := 0) (g := none) (by kernel_rfl) trivial rfl (by kernel_rfl) (by kernel_rfl) (by kernel_rfl) (by kernel_rfl) (qv_field rfl fd33_1) ?_
    refine gd_q (i := 5) (d := 68) (op := .load 31 (.tmp 67)) (ty := 31) (g := none) (by kernel_rfl) trivial rfl (by kernel_rfl) (by kernel_rfl) (by kernel_rfl) (by kernel_rfl) (qv_load rfl (At.of_mem (by repeat first | exact ma | exact List.mem_append_left _ ma | apply List.mem_cons_of_mem | apply List.mem_append_right)) (ldv_elp Ha hx agg31 (ext_Act24_1_40 _) (by decide) (by decide) rfl)) ?_
    refine gd_q (i := 6) (d := 69) (op := .move (.tmp 1)) (ty := 22) (g := none) (by kernel_rfl) trivial rfl (by kernel_rfl) (by kernel_rfl) (by kernel_rfl) (by kernel_rfl) (qv_move rfl) ?_
    refine gd_q (i := 7) (d := 70) (op := .move (.tmp 12)) (ty := 3) (g := none) (by kernel_rfl) trivial rfl (by kernel_rfl) (by kernel_rfl) (by kernel_rfl) (by kernel_rfl) (qv_move rfl) ?_
    refine gd_q (i := 8) (d := 71) (op := .indexAddr 22 (.tmp 69) (.tmp 70)) (ty := 0) (g := none) (by kernel_rfl) trivial rfl (by kernel_rfl) (by kernel_rfl) (by kernel_rfl) (by kernel_rfl) (qv_index un22 sz33 rfl rfl rfl (by omega)) ?_
    refine gd_q (i := 9) (d := 72) (op := .fieldAddr 33 (.tmp 71) 2) (ty := 0) (g := none) (by kernel_rfl) trivial rfl (by kernel_rfl) (by kernel_rfl) (by kernel_rfl) (by kernel_rfl) (qv_field rfl fd33_2) ?_
    refine gd_q (i := 10) (d := 73) (op := .load 5 (.tmp 72)) (ty := 5) (g := none) (by kernel_rfl) trivial rfl (by kernel_rfl) (by kernel_rfl) (by kernel_rfl) (by kernel_rfl) (qv_load rfl (At.of_mem (by repeat first | exact ma | exact List.mem_append_left _ ma | apply List.mem_cons_of_mem | apply List.mem_append_right)) (ldv_el Ha hx sc5 (get_Act24_41 _) rfl)) ?_
    refine gd_q (i := 11) (d := 74) (op := .move (.tmp 11)) (ty := 23) (g := none) (by kernel_rfl) trivial rfl (by kernel_rfl) (by kernel_rfl) (by kernel_rfl) (by kernel_rfl) (qv_move rfl) ?_
    refine gd_one (i := 12) (d := some 75) (op := .call { callee := .value (.func 21), args := #[.tmp 63, .tmp 68, .tmp 73, .tmp 74], argTypes := #[43, 31, 5, 23] }) (ty := 61) (g := none) (by kernel_rfl) trivial rfl (by kernel_rfl) ?_
    refine os_call (Nat.le_of_ble_eq_true rfl) en21 rfl .auto (hAc1) ?_
    rintro v75 A75 ⟨fl', out1, q1, k1, B1, N1, tk1, e1, hA1, rfl, hO1, hN1, rfl⟩
    try dsimp only [List.nil_append, List.cons_append]
    refine ⟨fun _ h => by first | exact h | (cases h; done) | exact .tail _ h | exact .tail _ (.tail _ h) | exact List.mem_append_right _ (List.mem_append_right _ h) | exact List.mem_append_right _ h | (simp only [List.mem_cons, List.not_mem_nil, or_false] at h ⊢; first | exact .inl h | exact .inr (.inl h) | exact .inr (.inr (.inl h)) | exact .inr (.inr (.inr (.inl h))) | (subst h; simp; done) | grind), ?_⟩
    refine gd_q (i := 13) (d := 62) (op := .move (.tmp 75)) (ty := 61) (g := none) (by kernel_rfl) trivial rfl (by kernel_rfl) (by kernel_rfl) (by kernel_rfl) (by kernel_rfl) (qv_move rfl) ?_
    refine gd_q (i := 14) (d := 76) (op := .extract (.tmp 62) 0) (ty := 55) (g := none) (by kernel_rfl) trivial rfl (by kernel_rfl) (by kernel_rfl) (by kernel_rfl) (by kernel_rfl) (qv_extract rfl rfl) ?_
    refine gd_q (i := 15) (d := 77) (op := .extract (.tmp 62) 1) (ty := 44) (g := none) (by kernel_rfl) trivial rfl (by kernel_rfl) (by kernel_rfl) (by kernel_rfl) (by kernel_rfl) (qv_extract rfl rfl) ?_
    refine gd_q (i := 16) (d := 13) (op := .assign (.tmp 76)) (ty := 55) (g := none) (by kernel_rfl) trivial rfl (by kernel_rfl) (by kernel_rfl) (by kernel_rfl) (by kernel_rfl) (qv_assign rfl) ?_
    refine gd_tail [17] rfl (by kernel_rfl) (by kernel_rfl) ?_
    refine go_q0 14 (.assign (.tmp 77)) 44 (qv_assign rfl) ?_
    refine go_nil ?_
    change G _ _ _ _
    refine p_weaken [1, 2, 6, 7, 9, 11, 12, 13, 14] rfl ?_
    refine p_seq0 ?_
    refine p_draw (by kernel_rfl) mixed 17 18 R (by first | (simp; done) | (intro q hq; simp [hq]; done)) (by kernel_rfl) ?_
    refine gd_q (i := 0) (d := 79) (op := .move (.tmp 9)) (ty := 43) (g := none) (by kernel_rfl) trivial rfl (by kernel_rfl) (by kernel_rfl) (by kernel_rfl) (by kernel_rfl) (qv_move rfl) ?_
    refine gd_q (i := 1) (d := 80) (op := .move (.tmp 1)) (ty := 22) (g := none) (by kernel_rfl) trivial rfl (by kernel_rfl) (by kernel_rfl) (by kernel_rfl) (by kernel_rfl) (qv_move rfl) ?_
    refine gd_q (i := 2) (d := 81) (op := .move (.tmp 12)) (ty := 3) (g := none) (by kernel_rfl) trivial rfl (by kernel_rfl) (by kernel_rfl) (by kernel_rfl) (by kernel_rfl) (qv_move rfl) ?_
    refine gd_q (i := 3) (d := 82) (op := .indexAddr 22 (.tmp 80) (.tmp 81)) (ty := 0) (g := none) (by kernel_rfl) trivial rfl (by kernel_rfl) (by kernel_rfl) (by kernel_rfl) (by kernel_rfl) (qv_index un22 sz33 rfl rfl rfl (by omega)) ?_
    refine gd_q (i := 4) (d := 83) (op := .fieldAddr 33 (.tmp 82) 1) (ty := 0) (g := none) (by kernel_rfl) trivial rfl (by kernel_rfl) (by kernel_rfl) (by kernel_rfl) (by kernel_rfl) (qv_field rfl fd33_1) ?_
    refine gd_q (i := 5) (d := 84) (op := .load 31 (.tmp 83)) (ty := 31) (g := none) (by kernel_rfl) trivial rfl (by kernel_rfl) (by kernel_rfl) (by kernel_rfl) (by kernel_rfl) (qv_load rfl (At.of_mem (by repeat first | exact ma | exact List.mem_append_left _ ma | apply List.mem_cons_of_mem | apply List.mem_append_right)) (ldv_elp Ha hx agg31 (ext_Act24_1_40 _) (by decide) (by decide) rfl)) ?_
    refine gd_q (i := 6) (d := 85) (op := .move (.tmp 1)) (ty := 22) (g := none) (by kernel_rfl) trivial rfl (by kernel_rfl) (by kernel_rfl) (by kernel_rfl) (by kernel_rfl) (qv_move rfl) ?_
    refine gd_q (i := 7) (d := 86) (op := .move (.tmp 12)) (ty := 3) (g := none) (by kernel_rfl) trivial rfl (by kernel_rfl) (by kernel_rfl) (by kernel_rfl) (by kernel_rfl) (qv_move rfl) ?_
    refine gd_q (i := 8) (d := 87) (op := .indexAddr 22 (.tmp 85) (.tmp 86)) (ty := 0) (g := none) (by kernel_rfl) trivial rfl (by kernel_rfl) (by kernel_rfl) (by kernel_rfl) (by kernel_rfl) (qv_index un22 sz33 rfl rfl rfl (by omega)) ?_
    refine gd_q (i := 9) (d := 88) (op := .fieldAddr 33 (.tmp 87) 2) (ty := 0) (g := none) (by kernel_rfl) trivial rfl (by kernel_rfl) (by kernel_rfl) (by kernel_rfl) (by kernel_rfl) (qv_field rfl fd33_2) ?_
    refine gd_q (i := 10) (d := 89) (op := .load 5 (.tmp 88)) (ty := 5) (g := none) (by kernel_rfl) trivial rfl (by kernel_rfl) (by kernel_rfl) (by kernel_rfl) (by kernel_rfl) (qv_load rfl (At.of_mem (by repeat first | exact ma | exact List.mem_append_left _ ma | apply List.mem_cons_of_mem | apply List.mem_append_right)) (ldv_el Ha hx sc5 (get_Act24_41 _) rfl)) ?_
    refine gd_q (i := 11) (d := 90) (op := .move (.tmp 11)) (ty := 23) (g := none) (by kernel_rfl) trivial rfl (by kernel_rfl) (by kernel_rfl) (by kernel_rfl) (by kernel_rfl) (qv_move rfl) ?_
    refine gd_one (i := 12) (d := some 91) (op := .call { callee := .value (.func 21), args := #[.tmp 79, .tmp 84, .tmp 89, .tmp 90], argTypes := #[43, 31, 5, 23] }) (ty := 61) (g := none) (by kernel_rfl) trivial rfl (by kernel_rfl) ?_
    refine os_call (Nat.le_of_ble_eq_true rfl) en21 rfl (Sel.skipA Sel.app) (hAc2) ?_
    rintro v91 A91 ⟨gl', out2, q2, k2, B2, N2, tk2, e2, hA2, rfl, hO2, hN2, rfl⟩
    try dsimp only [List.nil_append, List.cons_append]
    have hTn : 0 ≤ tk1 ∧ tk1 ≤ T + a.tick.tmod 8 ∧ T + a.tick.tmod 8 ≤ 7 * ((i + 1 : Nat) : Int) := by have := hA1.tick_ (by omega); omega
    obtain ⟨hpn, rfl, rfl, rfl⟩ := hA1.det hA2 hp hwr hds
    refine ⟨fun _ h => by first | exact h | (cases h; done) | exact .tail _ h | exact .tail _ (.tail _ h) | exact List.mem_append_right _ (List.mem_append_right _ h) | exact List.mem_append_right _ h | (simp only [List.mem_cons, List.not_mem_nil, or_false] at h ⊢; first | exact .inl h | exact .inr (.inl h) | exact .inr (.inr (.inl h)) | exact .inr (.inr (.inr (.inl h))) | (subst h; simp; done) | grind), ?_⟩
    refine gd_q (i := 13) (d := 78) (op := .move (.tmp 91)) (ty := 61) (g := none) (by kernel_rfl) trivial rfl (by kernel_rfl) (by kernel_rfl) (by kernel_rfl) (by kernel_rfl) (qv_move rfl) ?_
    refine gd_q (i := 14) (d := 92) (op := .extract (.tmp 78) 0) (ty := 55) (g := none) (by kernel_rfl) trivial rfl (by kernel_rfl) (by kernel_rfl) (by kernel_rfl) (by kernel_rfl) (qv_extract rfl rfl) ?_
    refine gd_q (i := 15) (d := 93) (op := .extract (.tmp 78) 1) (ty := 44) (g := none) (by kernel_rfl) trivial rfl (by kernel_rfl) (by kernel_rfl) (by kernel_rfl) (by kernel_rfl) (qv_extract rfl rfl) ?_
    refine gd_q (i := 16) (d := 15) (op := .assign (.tmp 92)) (ty := 55) (g := none) (by kernel_rfl) trivial rfl (by kernel_rfl) (by kernel_rfl) (by kernel_rfl) (by kernel_rfl) (qv_assign rfl) ?_
    refine gd_tail [17] rfl (by kernel_rfl) (by kernel_rfl) ?_
    refine go_q0 16 (.assign (.tmp 93)) 44 (qv_assign rfl) ?_
    refine go_nil ?_
    change G _ _ _ _
    refine p_weaken [1, 2, 6, 7, 9, 11, 12, 13, 14, 15, 16] rfl ?_
    refine p_seq0 ?_
    refine p_plain0 (0 :: 1 :: 2 :: 3 :: 4 :: 5 :: 6 :: 7 :: 8 :: 9 :: []) ?_
    refine go_q0 94 (.move (.tmp 14)) 44 (qv_move rfl) ?_
    refine go_q0 95 (.move (.tmp 16)) 44 (qv_move rfl) ?_
    refine go_q0 96 (.binOp .neq 44 (.tmp 94) (.tmp 95) 44) 4 (qv_neq (b := false) rfl rfl (by simp)) ?_
    refine go_q0 97 (.move (.tmp 96)) 4 (qv_move rfl) ?_
    refine go_q (d := 98) (op := .move (.tmp 13)) (ty := 55) (g := some (3, false)) (by kernel_rfl) ⟨97, by kernel_rfl, rfl⟩ rfl (qv_move rfl) ?_
    refine go_q (d := 99) (op := .call { callee := .builtin .len, args := #[.tmp 98], argTypes := #[55] }) (ty := 3) (g := some (3, false)) (by kernel_rfl) ⟨97, by kernel_rfl, rfl⟩ rfl (qv_lenS un55 rfl) ?_
    refine go_q (d := 100) (op := .move (.tmp 15)) (ty := 55) (g := some (3, false)) (by kernel_rfl) ⟨97, by kernel_rfl, rfl⟩ rfl (qv_move rfl) ?_
    refine go_q (d := 101) (op := .call { callee := .builtin .len, args := #[.tmp 100], argTypes := #[55] }) (ty := 3) (g := some (3, false)) (by kernel_rfl) ⟨97, by kernel_rfl, rfl⟩ rfl (qv_lenS un55 rfl) ?_
    refine go_q (d := 102) (op := .binOp .neq 3 (.tmp 99) (.tmp 101) 3) (ty := 4) (g := some (3, false)) (by kernel_rfl) ⟨97, by kernel_rfl, rfl⟩ rfl (qv_neq (b := false) rfl rfl (by simp)) ?_
    refine go_q0 103 (.pick (.tmp 97) (.const (.bool true)) (.tmp 102)) 4 (qv_pick_f rfl rfl) ?_
    refine go_nil ?_
    change G _ _ _ _
    refine p_weaken [1, 2, 6, 7, 9, 11, 12, 103] rfl ?_
    refine p_condF (.tmp 103) (by kernel_rfl) rfl ?_
    refine p_skip0 ?_
    change G _ _ _ _
    refine p_weaken [1, 2, 6, 7, 9, 11, 12] rfl ?_
    refine p_plain0 (0 :: 1 :: 2 :: []) ?_
    refine go_q0 52 (.move (.tmp 12)) 3 (qv_move rfl) ?_
    refine go_q0 53 (.binOp .add 3 (.tmp 52) (.const (.int .i64 1)) 3) 3 (qv_add rfl rfl (by first | exact IntWalk.i64_in _ (by omega) | exact IntWalk.i64_in _ (by dsimp only; omega) | rfl)) ?_
    refine go_q0 12 (.assign (.tmp 53)) 3 (qv_assign rfl) ?_
    refine go_nil ?_
    exact ⟨_, ⟨i + 1, _, _, _, _, _, _, by omega, hTn, hN1, hN2, hpn, ⟨rfl, ⟨[1, 2, 6, 7, 9, 11, 12], rfl⟩, .auto⟩, rfl⟩, by omega⟩
  replace h51 := kn h51
  refine p_exit 0 (by kernel_rfl) ?_
  change G _ _ _ _
  refine p_weaken [2, 6, 7, 9, 11] rfl ?_
  refine p_seq0 ?_
  have hn0 : 0 ≤ tks.tmod 151 := Int.tmod_nonneg 151 htw.1
  have hn1 : tks.tmod 151 < 151 := Int.tmod_lt_of_pos _ (by decide)
  obtain ⟨n, hn⟩ : ∃ n : Nat, tks.tmod 151 = n := ⟨(tks.tmod 151).toNat, by omega⟩
  refine p_plain0 (0 :: 1 :: 2 :: 3 :: []) ?_
  refine go_q0 104 (.move (.tmp 2)) 5 (qv_move rfl) ?_
  refine go_q0 105 (.binOp .rem 5 (.tmp 104) (.const (.int .u8 151)) 5) 5 (qv_rem rfl rfl (by omega) (hn)) ?_
  refine go_q0 106 (.convert 5 23 (.tmp 105)) 23 (qv_conv un5 un23 rfl (IntWalk.u64_in _ (by omega))) ?_
  refine go_q0 17 (.assign (.tmp 106)) 23 (qv_assign rfl) ?_
  refine go_nil ?_
  change G _ _ _ _
  refine p_weaken [6, 7, 9, 11, 17] rfl ?_
  refine p_seq0 ?_
  refine p_plain0 (0 :: 1 :: 2 :: 3 :: 4 :: 5 :: []) ?_
  refine go_q0 107 (.move (.tmp 7)) 43 (qv_move rfl) ?_
  refine go_q0 108 (.move (.tmp 11)) 23 (qv_move rfl) ?_
  refine go_q0 109 (.move (.tmp 17)) 23 (qv_move rfl) ?_
  refine go_q0 110 (.binOp .add 23 (.tmp 108) (.tmp 109) 23) 23 (qv_add rfl rfl (IntWalk.u64_in _ (by omega))) ?_
  refine go_s0 (some 111) (.call { callee := .value (.func 18), args := #[.tmp 107, .tmp 110], argTypes := #[43, 23] }) 55 ?_
  refine os_call (Nat.le_of_ble_eq_true rfl) en18 rfl .auto (ct_AdvanceAny (T + n) hM1) ?_
  rintro v111 A111 ⟨fl2, want, q1, k1, B1, N1, hW, rfl, hO1, hN1, rfl⟩
  try dsimp only [List.nil_append, List.cons_append]
  refine go_q0 18 (.assign (.tmp 111)) 55 (qv_assign rfl) ?_
  refine go_nil ?_
  change G _ _ _ _
  refine p_weaken [6, 9, 11, 17, 18] rfl ?_
  refine p_seq0 ?_
  refine p_plain0 (0 :: []) ?_
  refine go_q0 19 (.assign (.const (.slice none 0 0))) 55 (qv_assign rfl) ?_
  refine go_nil ?_
  change G _ _ _ _
  refine p_seq0 ?_
  refine p_seq0 ?_
  refine p_plain0 (0 :: []) ?_
  refine go_q0 20 (.assign (.const (.int .u64 0))) 23 (qv_assign rfl) ?_
  refine go_nil ?_
  change G _ _ _ _
  refine p_block 2 (by kernel_rfl) ?_
  refine p_loopE (by kernel_rfl) (fun s m => ∃ (t : Nat) (gl2 : List Rec) (got : List Rec) (tk2 : Int) (q : Option Addr) (k : Nat) (A : Mem) (N2 : Mem), (t ≤ n + 1) ∧ (TickS bd gl gl2 got T t) ∧ (tk2 ≤ T + t) ∧ (OwnL eRec 69 q k got A) ∧ (CacM be tk2 bd gl2 N2) ∧ (got.length ≤ t * 4096) ∧ Ge s ⟨[], [(6, .bool false), (9, .pointer (some ⟨be, 0, none⟩)), (11, .int .u64 T), (17, .int .u64 n), (18, .slice q1 want.length k1), (19, .slice q got.length k), (20, .int .u64 t)], B1 ++ (A ++ (N2 ++ R))⟩ ∧ m = n + 2 - t) ?_ ?_
  · exact ⟨_, ⟨0, gl, [], tk, none, 0, [], M2, by omega, TickS.start, by omega, OwnL.nil, hM2, Nat.zero_le _, ⟨rfl, ⟨[6, 9, 11, 17, 18, 19, 20], rfl⟩, .auto⟩, rfl⟩⟩
  rintro s m ⟨t, gl2, got, tk2, q, k, A, N2, ht, hS, htk, hG, hN2, hgl, hs, rfl⟩
  refine ge_ok hs ?_
  refine p_seq0 ?_
  refine p_seq0 ?_
  refine p_plain0 (0 :: 1 :: 2 :: []) ?_
  refine go_q0 112 (.move (.tmp 20)) 23 (qv_move rfl) ?_
  refine go_q0 113 (.move (.tmp 17)) 23 (qv_move rfl) ?_
  refine go_q0 114 (.binOp .leq 23 (.tmp 112) (.tmp 113) 23) 4 (qv_leq rfl rfl rfl) ?_
  refine go_nil ?_
  change G _ _ _ _
  refine p_weaken [6, 9, 11, 17, 18, 19, 20, 114] rfl ?_
  refine p_cond (.tmp 114) (by kernel_rfl) rfl (fun h114 => ?_) (fun h114 => ?_)
  · replace h114 := kn h114
    refine p_skip0 ?_
    change G _ _ _ _
    refine p_weaken [6, 9, 11, 17, 18, 19, 20] rfl ?_
    refine p_seq0 ?_
    refine p_block 3 (by kernel_rfl) ?_
    refine p_plain0 (0 :: 1 :: 2 :: 3 :: 4 :: 5 :: 6 :: 7 :: []) ?_
    refine go_q0 117 (.move (.tmp 19)) 55 (qv_move rfl) ?_
    refine go_q0 118 (.move (.tmp 9)) 43 (qv_move rfl) ?_
    refine go_q0 119 (.move (.tmp 11)) 23 (qv_move rfl) ?_
    refine go_q0 120 (.move (.tmp 20)) 23 (qv_move rfl) ?_
    refine go_q0 121 (.binOp .add 23 (.tmp 119) (.tmp 120) 23) 23 (qv_add rfl rfl (IntWalk.u64_in _ (by omega))) ?_
    refine go_s0 (some 122) (.call { callee := .value (.func 18), args := #[.tmp 118, .tmp 121], argTypes := #[43, 23] }) 55 ?_
    refine os_call (Nat.le_of_ble_eq_true rfl) en18 rfl (Sel.skipA (Sel.skipA Sel.app)) (ct_AdvanceAny (T + t) hN2) ?_
    rintro v122 A122 ⟨gl3, nw, q3, k3, B3, N3, hA3, rfl, hO3, hN3, rfl⟩
    try dsimp only [List.nil_append, List.cons_append]
    have hSn := hS.step hA3 htk
    have hol := hA3.out_len hN2
    refine go_s0 (some 123) (.call { callee := .builtin .append, args := #[.tmp 117, .tmp 122], argTypes := #[55, 55] }) 55 ?_
    refine os_appendO (E := eRec) (l := got) (l2 := nw) rfl el55 rfl rfl rfl rfl hG (Sel.skipA (Sel.skipA Sel.app)) hO3 (fun q hq => List.mem_append_left _ (List.mem_append_left _ hq)) one_Rec (by simp [maxLen] <;> omega) (by omega) (fun p123 c123 A123 h123 => ?_)
    refine go_q0 19 (.assign (.tmp 123)) 55 (qv_assign rfl) ?_
    refine go_nil ?_
    change G _ _ _ _
    refine p_weaken [6, 9, 11, 17, 18, 19, 20] rfl ?_
    refine p_plain0 (0 :: 1 :: 2 :: []) ?_
    refine go_q0 115 (.move (.tmp 20)) 23 (qv_move rfl) ?_
    refine go_q0 116 (.binOp .add 23 (.tmp 115) (.const (.int .u64 1)) 23) 23 (qv_add rfl rfl (IntWalk.u64_in _ (by omega))) ?_
    refine go_q0 20 (.assign (.tmp 116)) 23 (qv_assign rfl) ?_
    refine go_nil ?_
    exact ⟨_, ⟨t + 1, _, _, _, _, _, _, _, by omega, hSn, by rw [tickTo_of htk]; omega, h123, hN3, by rw [List.length_append]; omega, ⟨rfl, ⟨[6, 9, 11, 17, 18, 19, 20], rfl⟩, .auto⟩, rfl⟩, by omega⟩
  replace h114 := kn h114
  refine p_exit 2 (by kernel_rfl) ?_
  change G _ _ _ _
  refine p_weaken [6, 18, 19] rfl ?_
  refine p_seq0 ?_
  refine p_seq0 ?_
  have hte : t = n + 1 := by omega
  have hgw : got = want := (hte ▸ hS : TickS bd gl gl2 got T (n + 1)).fin hW (by omega) hp hM1.wfr hM1.dist
  subst hgw
  refine p_plain0 (0 :: 1 :: 2 :: 3 :: 4 :: []) ?_
  refine go_q0 124 (.move (.tmp 19)) 55 (qv_move rfl) ?_
  refine go_q0 125 (.call { callee := .builtin .len, args := #[.tmp 124], argTypes := #[55] }) 3 (qv_lenS un55 rfl) ?_
  refine go_q0 126 (.move (.tmp 18)) 55 (qv_move rfl) ?_
  refine go_q0 127 (.call { callee := .builtin .len, args := #[.tmp 126], argTypes := #[55] }) 3 (qv_lenS un55 rfl) ?_
  refine go_q0 128 (.binOp .neq 3 (.tmp 125) (.tmp 127) 3) 4 (qv_neq (b := false) rfl rfl (by simp)) ?_
  refine go_nil ?_
  change G _ _ _ _
  refine p_weaken [6, 18, 19, 128] rfl ?_
  refine p_condF (.tmp 128) (by kernel_rfl) rfl ?_
  refine p_skip0 ?_
  change G _ _ _ _
  refine p_weaken [6, 18, 19] rfl ?_
  refine p_seq0 ?_
  refine p_seq0 ?_
  refine p_plain0 (0 :: []) ?_
  refine go_q0 21 (.assign (.const (.int .i64 0))) 3 (qv_assign rfl) ?_
  refine go_nil ?_
  change G _ _ _ _
  refine p_block 4 (by kernel_rfl) ?_
  refine p_loopE (by kernel_rfl) (fun s m => ∃ (j : Nat), (j ≤ got.length) ∧ Ge s ⟨[], [(6, .bool false), (18, .slice q1 got.length k1), (19, .slice q got.length k), (21, .int .i64 j)], B1 ++ (A ++ R)⟩ ∧ m = got.length + 1 - j) ?_ ?_
  · exact ⟨_, ⟨0, by omega, ⟨rfl, ⟨[6, 18, 19, 21], rfl⟩, .auto⟩, rfl⟩⟩
  rintro s m ⟨j, hj, hs, rfl⟩
  refine ge_ok hs ?_
  refine p_seq0 ?_
  refine p_seq0 ?_
  refine p_plain0 (0 :: 1 :: 2 :: 3 :: []) ?_
  refine go_q0 129 (.move (.tmp 21)) 3 (qv_move rfl) ?_
  refine go_q0 130 (.move (.tmp 19)) 55 (qv_move rfl) ?_
  refine go_q0 131 (.call { callee := .builtin .len, args := #[.tmp 130], argTypes := #[55] }) 3 (qv_lenS un55 rfl) ?_
  refine go_q0 132 (.binOp .lss 3 (.tmp 129) (.tmp 131) 3) 4 (qv_lss rfl rfl rfl) ?_
  refine go_nil ?_
  change G _ _ _ _
  refine p_weaken [6, 18, 19, 21, 132] rfl ?_
  refine p_cond (.tmp 132) (by kernel_rfl) rfl (fun h132 => ?_) (fun h132 => ?_)
  rotate_left
  · replace h132 := kn h132
    refine p_exit 4 (by kernel_rfl) ?_
    change G _ _ _ _
    refine p_weaken [6] rfl ?_
    refine p_seq0 ?_
    refine p_plain0 (0 :: 1 :: []) ?_
    refine go_s0 (some 144) (.call { callee := .value (.func 9), args := #[], argTypes := #[] }) 4 ?_
    refine os_callP rfl en9 rfl (pu_works24) ?_
    refine go_q0 6 (.assign (.tmp 144)) 4 (qv_assign rfl) ?_
    refine go_nil ?_
    change G _ _ _ _
    refine p_weaken [6] rfl ?_
    refine p_ret0 ?_
    try dsimp only [thenQ, inBlockQ]
    try rw [if_pos rfl]
    refine ret_left (R) (.inr rfl) (.cons (res_tmp rfl) .nil) .auto ?_
    exact ⟨rfl, rfl⟩
  replace h132 := kn h132
  refine p_skip0 ?_
  change G _ _ _ _
  refine p_weaken [6, 18, 19, 21] rfl ?_
  refine p_seq0 ?_
  refine p_block 5 (by kernel_rfl) ?_
  refine p_seq0 ?_
  obtain ⟨x1, y1, cu1, g1, f1, hp1, mm1, H1⟩ := hG.lst.at_ (i := j) (by omega)
  obtain ⟨x2, y2, cu2, g2, f2, hp2, mm2, H2⟩ := hO1.lst.at_ (i := j) (by omega)
  subst hp1
  subst hp2
  obtain ⟨x, hy⟩ : ∃ x, got[j]? = some x := ⟨_, List.getElem?_eq_getElem (by omega)⟩
  refine p_draw (by kernel_rfl) mixed 9 9 _ (fun _ h => h) (by kernel_rfl) ?_
  refine gd_all (0 :: 1 :: 2 :: 3 :: 4 :: 5 :: 6 :: 7 :: 8 :: []) _ rfl (by kernel_rfl) (by decide) (fun _ h => h) rfl ?_
  refine sq_q0 135 (.move (.tmp 19)) 55 (qv_move rfl) ?_
  refine sq_q0 136 (.move (.tmp 21)) 3 (qv_move rfl) ?_
  refine sq_q0 137 (.indexAddr 55 (.tmp 135) (.tmp 136)) 0 (qv_index un55 sz69 rfl rfl rfl (by omega)) ?_
  refine sq_q0 138 (.load 69 (.tmp 137)) 69 (qv_load rfl (At.of_mem (by repeat first | exact mm1 | exact List.mem_append_left _ mm1 | apply List.mem_cons_of_mem | apply List.mem_append_right)) (ldv_els H1 hy (by decide) agg69 rfl)) ?_
  refine sq_q0 139 (.move (.tmp 18)) 55 (qv_move rfl) ?_
  refine sq_q0 140 (.move (.tmp 21)) 3 (qv_move rfl) ?_
  refine sq_q0 141 (.indexAddr 55 (.tmp 139) (.tmp 140)) 0 (qv_index un55 sz69 rfl rfl rfl (by omega)) ?_
  refine sq_q0 142 (.load 69 (.tmp 141)) 69 (qv_load rfl (At.of_mem (by repeat first | exact mm2 | exact List.mem_append_left _ mm2 | apply List.mem_cons_of_mem | apply List.mem_append_right)) (ldv_els H2 hy (by decide) agg69 rfl)) ?_
  refine sq_q0 143 (.binOp .neq 69 (.tmp 138) (.tmp 142) 69) 4 (qv_neq_69 (s := x) (t := x) (b := false) rfl rfl (by simp)) ?_
  refine SeqK.nil (fun β => ?_)
  refine gd_tail [] rfl (by kernel_rfl) (by kernel_rfl) ?_
  refine go_nil ?_
  change G _ _ _ _
  refine p_weaken [6, 18, 19, 21, 143] rfl ?_
  refine p_condF (.tmp 143) (by kernel_rfl) rfl ?_
  refine p_skip0 ?_
  change G _ _ _ _
  refine p_weaken [6, 18, 19, 21] rfl ?_
  refine p_plain0 (0 :: 1 :: 2 :: []) ?_
  refine go_q0 133 (.move (.tmp 21)) 3 (qv_move rfl) ?_
  refine go_q0 134 (.binOp .add 3 (.tmp 133) (.const (.int .i64 1)) 3) 3 (qv_add rfl rfl (by first | exact IntWalk.i64_in _ (by omega) | exact IntWalk.i64_in _ (by dsimp only; omega) | rfl)) ?_
  refine go_q0 21 (.assign (.tmp 134)) 3 (qv_assign rfl) ?_
  refine go_nil ?_
  exact ⟨_, ⟨j + 1, by omega, ⟨rfl, ⟨[6, 18, 19, 21], rfl⟩, .auto⟩, rfl⟩, by omega⟩
theorem ct_CacheTicksAll (bd : Bnd) (acts : List Act24) (tks : Int) (R : Mem) (pl : Option Addr) (cl : Nat) (hbw : bd.Wf) (hl : Lst eAct24 pl acts R) (hwf : ∀ a ∈ acts, a.Wf) (htw : InK .u8 tks) :
    Ct Tryz.prog 7 [.agg bd.c, .slice pl acts.length cl, .int .u8 tks].toArray R (fun v M' => v = .bool true ∧ M' = R) := by
  cases h : okBnd bd with
  | false => exact ct_CacheTicksBad bd acts tks R pl cl h
  | true => exact ct_CacheTicks bd acts tks R pl cl h hbw htw hl hwf
end Go.Proofs.YtobmcpoejhhemaaGreat
