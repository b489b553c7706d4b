/- The law TableKeeps: the walk. -/
import Derived.Test.YtobmcpoejhhemaaKeeps
namespace Go.Proofs.Ytobmcpoejhhemaa
open Go.E

theorem ct_TableKeepsBad (s : Int) (acts : List Act23) (R : Mem) (pl : Option Addr) (cl : Nat) (hb : okSize s = false) :
    Ct Try.prog 6 [.int .i64 s, .slice pl acts.length cl].toArray R (fun v M' => v = .bool true ∧ M' = R) := by
  refine ct_body (rv := [.tmp 4]) [(0, _), (1, _)] Try.func6 (by kernel_rfl) Try.ntmps6 Try.results6 rfl rfl (fun w0 => ?_)
  refine p_seq0 ?_
  refine p_plain0 (0 :: []) ?_
  refine go_q0 4 (.assign (.const (.bool false))) 4 (qv_assign rfl) ?_
  refine go_nil ?_
  change G _ _ _ _
  refine p_seq0 ?_
  refine p_seq0 ?_
  refine p_plain0 (0 :: 1 :: 2 :: 3 :: 4 :: 5 :: 6 :: []) ?_
  refine go_q0 22 (.move (.tmp 0)) 3 (qv_move rfl) ?_
  refine go_q0 23 (.binOp .gtr 3 (.tmp 22) (.const (.int .i64 64)) 3) 4 (qv_gtr rfl rfl rfl) ?_
  refine go_q0 24 (.move (.tmp 23)) 4 (qv_move rfl) ?_
  refine go_case (d := 24) rfl (fun g24 => ?_) (fun g24 => ?_)
  · replace g24 := kn g24
    refine go_n (d := 25) (op := .move (.tmp 1)) (ty := 82) (g := some (2, false)) (by kernel_rfl) ⟨24, _, by kernel_rfl, rfl, rfl⟩ rfl ?_
    refine go_n (d := 26) (op := .call { callee := .builtin .len, args := #[.tmp 25], argTypes := #[82] }) (ty := 3) (g := some (2, false)) (by kernel_rfl) ⟨24, _, by kernel_rfl, rfl, rfl⟩ rfl ?_
    refine go_n (d := 27) (op := .binOp .gtr 3 (.tmp 26) (.const (.int .i64 60)) 3) (ty := 4) (g := some (2, false)) (by kernel_rfl) ⟨24, _, by kernel_rfl, rfl, rfl⟩ rfl ?_
    refine go_q0 28 (.pick (.tmp 24) (.const (.bool true)) (.tmp 27)) 4 (qv_pick_t rfl rfl) ?_
    refine go_nil ?_
    change G _ _ _ _
    refine p_weaken [0, 1, 4, 28] rfl ?_
    refine p_condT (.tmp 28) (by kernel_rfl) rfl ?_
    refine p_seq0 ?_
    refine p_plain0 (0 :: 1 :: []) ?_
    refine go_s0 (some 29) (.call { callee := .value (.func 38), args := #[], argTypes := #[] }) 4 ?_
    refine os_callP rfl en38 rfl (pu_works23) ?_
    refine go_q0 4 (.assign (.tmp 29)) 4 (qv_assign rfl) ?_
    refine go_nil ?_
    change G _ _ _ _
    refine p_weaken [0, 1, 4] rfl ?_
    refine p_ret0 ?_
    try dsimp only [thenQ, inBlockQ]
    try rw [if_pos rfl]
    refine ret_left (R) (.inr rfl) (.cons (res_tmp rfl) .nil) .auto ?_
    exact ⟨rfl, rfl⟩
  replace g24 := kn g24
  refine go_q (d := 25) (op := .move (.tmp 1)) (ty := 82) (g := some (2, false)) (by kernel_rfl) ⟨24, by kernel_rfl, rfl⟩ rfl (qv_move rfl) ?_
  refine go_q (d := 26) (op := .call { callee := .builtin .len, args := #[.tmp 25], argTypes := #[82] }) (ty := 3) (g := some (2, false)) (by kernel_rfl) ⟨24, by kernel_rfl, rfl⟩ rfl (qv_lenS un82 rfl) ?_
  refine go_q (d := 27) (op := .binOp .gtr 3 (.tmp 26) (.const (.int .i64 60)) 3) (ty := 4) (g := some (2, false)) (by kernel_rfl) ⟨24, by kernel_rfl, rfl⟩ rfl (qv_gtr rfl rfl rfl) ?_
  refine go_q0 28 (.pick (.tmp 24) (.const (.bool true)) (.tmp 27)) 4 (qv_pick_f rfl rfl) ?_
  refine go_nil ?_
  change G _ _ _ _
  refine p_weaken [0, 1, 4, 28] rfl ?_
  refine p_cond (.tmp 28) (by kernel_rfl) rfl (fun h28 => ?_) (fun h28 => ?_)
  · replace h28 := kn h28
    refine p_seq0 ?_
    refine p_plain0 (0 :: 1 :: []) ?_
    refine go_s0 (some 29) (.call { callee := .value (.func 38), args := #[], argTypes := #[] }) 4 ?_
    refine os_callP rfl en38 rfl (pu_works23) ?_
    refine go_q0 4 (.assign (.tmp 29)) 4 (qv_assign rfl) ?_
    refine go_nil ?_
    change G _ _ _ _
    refine p_weaken [0, 1, 4] rfl ?_
    refine p_ret0 ?_
    try dsimp only [thenQ, inBlockQ]
    try rw [if_pos rfl]
    refine ret_left (R) (.inr rfl) (.cons (res_tmp rfl) .nil) .auto ?_
    exact ⟨rfl, rfl⟩
  replace h28 := kn h28
  refine p_skip0 ?_
  change G _ _ _ _
  refine p_weaken [0, 1, 4] rfl ?_
  refine p_seq0 ?_
  refine p_plain0 (0 :: 1 :: 2 :: 3 :: 4 :: 5 :: 6 :: []) ?_
  refine go_q0 31 (.move (.tmp 0)) 3 (qv_move rfl) ?_
  refine go_s0 (some 32) (.call { callee := .value (.func 39), args := #[.tmp 31], argTypes := #[3] }) 84 ?_
  refine os_callP rfl en39 rfl (pu_NewBad s hb) ?_
  refine go_q0 30 (.move (.tmp 32)) 84 (qv_move rfl) ?_
  refine go_q0 33 (.extract (.tmp 30) 0) 83 (qv_extract rfl rfl) ?_
  refine go_q0 34 (.extract (.tmp 30) 1) 61 (qv_extract rfl rfl) ?_
  refine go_q0 5 (.assign (.tmp 33)) 83 (qv_assign rfl) ?_
  refine go_q0 6 (.assign (.tmp 34)) 61 (qv_assign rfl) ?_
  refine go_nil ?_
  change G _ _ _ _
  refine p_weaken [0, 1, 4, 5, 6] rfl ?_
  refine p_seq0 ?_
  refine p_seq0 ?_
  refine p_plain0 (0 :: 1 :: []) ?_
  refine go_q0 35 (.move (.tmp 6)) 61 (qv_move rfl) ?_
  refine go_q0 36 (.binOp .neq 61 (.tmp 35) (.const (.int .i64 0)) 61) 4 (qv_neq (b := true) rfl rfl (by decide)) ?_
  refine go_nil ?_
  change G _ _ _ _
  refine p_weaken [0, 1, 4, 5, 36] rfl ?_
  refine p_condT (.tmp 36) (by kernel_rfl) rfl ?_
  refine p_seq0 ?_
  refine p_plain0 (0 :: 1 :: 2 :: 3 :: 4 :: 5 :: []) ?_
  refine go_q0 37 (.move (.tmp 5)) 83 (qv_move rfl) ?_
  refine go_q0 38 (.binOp .eql 83 (.tmp 37) (.const (.pointer none)) 83) 4 (qv_eqlP un83 rfl) ?_
  refine go_q0 39 (.move (.tmp 38)) 4 (qv_move rfl) ?_
  refine go_s (d := some 40) (op := .call { callee := .value (.func 38), args := #[], argTypes := #[] }) (ty := 4) (g := some (2, true)) (by kernel_rfl) ⟨39, by kernel_rfl, rfl⟩ ?_
  refine os_callP rfl en38 rfl (pu_works23) ?_
  refine go_q0 41 (.pick (.tmp 39) (.tmp 40) (.const (.bool false))) 4 (qv_pick_t rfl rfl) ?_
  refine go_q0 4 (.assign (.tmp 41)) 4 (qv_assign rfl) ?_
  refine go_nil ?_
  change G _ _ _ _
  refine p_weaken [0, 1, 4, 5] rfl ?_
  refine p_ret0 ?_
  try dsimp only [thenQ, inBlockQ]
  try rw [if_pos rfl]
  refine ret_left (R) (.inr rfl) (.cons (res_tmp rfl) .nil) .auto ?_
  exact ⟨rfl, rfl⟩

theorem ct_TableKeeps (n : Nat) (acts : List Act23) (R : Mem) (pl : Option Addr) (cl : Nat) (hok : okSize n = true) (hl : Lst eAct23 pl acts R) (hwf : ∀ a ∈ acts, a.k.Wf) :
    Ct Try.prog 6 [.int .i64 n, .slice pl acts.length cl].toArray R (fun v M' => v = .bool true ∧ M' = R) := by
  obtain ⟨hn1, hn2, hn3⟩ := okSize_pos hok
  refine ct_body (rv := [.tmp 4]) [(0, _), (1, _)] Try.func6 (by kernel_rfl) Try.ntmps6 Try.results6 rfl rfl (fun w0 => ?_)
  refine p_seq0 ?_
  refine p_plain0 (0 :: []) ?_
  refine go_q0 4 (.assign (.const (.bool false))) 4 (qv_assign rfl) ?_
  refine go_nil ?_
  change G _ _ _ _
  refine p_seq0 ?_
  refine p_seq0 ?_
  refine p_plain0 (0 :: 1 :: 2 :: 3 :: 4 :: 5 :: 6 :: []) ?_
  refine go_q0 22 (.move (.tmp 0)) 3 (qv_move rfl) ?_
  refine go_q0 23 (.binOp .gtr 3 (.tmp 22) (.const (.int .i64 64)) 3) 4 (qv_gtr rfl rfl rfl) ?_
  refine go_q0 24 (.move (.tmp 23)) 4 (qv_move rfl) ?_
  refine go_case (d := 24) rfl (fun g24 => ?_) (fun g24 => ?_)
  · replace g24 := kn g24
    refine go_n (d := 25) (op := .move (.tmp 1)) (ty := 82) (g := some (2, false)) (by kernel_rfl) ⟨24, _, by kernel_rfl, rfl, rfl⟩ rfl ?_
    refine go_n (d := 26) (op := .call { callee := .builtin .len, args := #[.tmp 25], argTypes := #[82] }) (ty := 3) (g := some (2, false)) (by kernel_rfl) ⟨24, _, by kernel_rfl, rfl, rfl⟩ rfl ?_
    refine go_n (d := 27) (op := .binOp .gtr 3 (.tmp 26) (.const (.int .i64 60)) 3) (ty := 4) (g := some (2, false)) (by kernel_rfl) ⟨24, _, by kernel_rfl, rfl, rfl⟩ rfl ?_
    refine go_q0 28 (.pick (.tmp 24) (.const (.bool true)) (.tmp 27)) 4 (qv_pick_t rfl rfl) ?_
    refine go_nil ?_
    change G _ _ _ _
    refine p_weaken [0, 1, 4, 28] rfl ?_
    refine p_condT (.tmp 28) (by kernel_rfl) rfl ?_
    refine p_seq0 ?_
    refine p_plain0 (0 :: 1 :: []) ?_
    refine go_s0 (some 29) (.call { callee := .value (.func 38), args := #[], argTypes := #[] }) 4 ?_
    refine os_callP rfl en38 rfl (pu_works23) ?_
    refine go_q0 4 (.assign (.tmp 29)) 4 (qv_assign rfl) ?_
    refine go_nil ?_
    change G _ _ _ _
    refine p_weaken [0, 1, 4] rfl ?_
    refine p_ret0 ?_
    try dsimp only [thenQ, inBlockQ]
    try rw [if_pos rfl]
    refine ret_left (R) (.inr rfl) (.cons (res_tmp rfl) .nil) .auto ?_
    exact ⟨rfl, rfl⟩
  replace g24 := kn g24
  refine go_q (d := 25) (op := .move (.tmp 1)) (ty := 82) (g := some (2, false)) (by kernel_rfl) ⟨24, by kernel_rfl, rfl⟩ rfl (qv_move rfl) ?_
  refine go_q (d := 26) (op := .call { callee := .builtin .len, args := #[.tmp 25], argTypes := #[82] }) (ty := 3) (g := some (2, false)) (by kernel_rfl) ⟨24, by kernel_rfl, rfl⟩ rfl (qv_lenS un82 rfl) ?_
  refine go_q (d := 27) (op := .binOp .gtr 3 (.tmp 26) (.const (.int .i64 60)) 3) (ty := 4) (g := some (2, false)) (by kernel_rfl) ⟨24, by kernel_rfl, rfl⟩ rfl (qv_gtr rfl rfl rfl) ?_
  refine go_q0 28 (.pick (.tmp 24) (.const (.bool true)) (.tmp 27)) 4 (qv_pick_f rfl rfl) ?_
  refine go_nil ?_
  change G _ _ _ _
  refine p_weaken [0, 1, 4, 28] rfl ?_
  refine p_cond (.tmp 28) (by kernel_rfl) rfl (fun h28 => ?_) (fun h28 => ?_)
  · replace h28 := kn h28
    refine p_seq0 ?_
    refine p_plain0 (0 :: 1 :: []) ?_
    refine go_s0 (some 29) (.call { callee := .value (.func 38), args := #[], argTypes := #[] }) 4 ?_
    refine os_callP rfl en38 rfl (pu_works23) ?_
    refine go_q0 4 (.assign (.tmp 29)) 4 (qv_assign rfl) ?_
    refine go_nil ?_
    change G _ _ _ _
    refine p_weaken [0, 1, 4] rfl ?_
    refine p_ret0 ?_
    try dsimp only [thenQ, inBlockQ]
    try rw [if_pos rfl]
    refine ret_left (R) (.inr rfl) (.cons (res_tmp rfl) .nil) .auto ?_
    exact ⟨rfl, rfl⟩
  replace h28 := kn h28
  refine p_skip0 ?_
  change G _ _ _ _
  refine p_weaken [0, 1, 4] rfl ?_
  refine p_seq0 ?_
  refine p_plain0 (0 :: 1 :: 2 :: 3 :: 4 :: 5 :: 6 :: []) ?_
  refine go_q0 31 (.move (.tmp 0)) 3 (qv_move rfl) ?_
  refine go_s0 (some 32) (.call { callee := .value (.func 39), args := #[.tmp 31], argTypes := #[3] }) 84 ?_
  refine os_call (Nat.le_of_ble_eq_true rfl) en39 rfl .auto (ct_New n (by omega) (by omega) hn3) ?_
  rintro v32 A32 ⟨bt, bs, rfl, rfl⟩
  try dsimp only [List.nil_append, List.cons_append]
  refine go_q0 30 (.move (.tmp 32)) 84 (qv_move rfl) ?_
  refine go_q0 33 (.extract (.tmp 30) 0) 83 (qv_extract rfl rfl) ?_
  refine go_q0 34 (.extract (.tmp 30) 1) 61 (qv_extract rfl rfl) ?_
  refine go_q0 5 (.assign (.tmp 33)) 83 (qv_assign rfl) ?_
  refine go_q0 6 (.assign (.tmp 34)) 61 (qv_assign rfl) ?_
  refine go_nil ?_
  change G _ _ _ _
  refine p_weaken [0, 1, 4, 5, 6] rfl ?_
  refine p_seq0 ?_
  refine p_seq0 ?_
  refine p_plain0 (0 :: 1 :: []) ?_
  refine go_q0 35 (.move (.tmp 6)) 61 (qv_move rfl) ?_
  refine go_q0 36 (.binOp .neq 61 (.tmp 35) (.const (.int .i64 0)) 61) 4 (qv_neq (b := false) rfl rfl (by decide)) ?_
  refine go_nil ?_
  change G _ _ _ _
  refine p_weaken [0, 1, 4, 5, 36] rfl ?_
  refine p_condF (.tmp 36) (by kernel_rfl) rfl ?_
  refine p_skip0 ?_
  change G _ _ _ _
  refine p_weaken [0, 1, 4, 5] rfl ?_
  refine p_seq0 ?_
  have hn := Pow.of_ok hok (by omega)
  refine p_plain0 (0 :: []) ?_
  refine go_q0 7 (.assign (.const (.slice none 0 0))) 86 (qv_assign rfl) ?_
  refine go_nil ?_
  change G _ _ _ _
  refine p_seq0 ?_
  refine p_plain0 (0 :: []) ?_
  refine go_q0 8 (.assign (.const (.slice none 0 0))) 29 (qv_assign rfl) ?_
  refine go_nil ?_
  change G _ _ _ _
  refine p_seq0 ?_
  refine p_seq0 ?_
  refine p_plain0 (0 :: []) ?_
  refine go_q0 9 (.assign (.const (.int .i64 0))) 3 (qv_assign rfl) ?_
  refine go_nil ?_
  change G _ _ _ _
  refine p_block 0 (by kernel_rfl) ?_
  refine p_loopE (by kernel_rfl) (fun s m => ∃ (i : Nat) (L : List Slot) (ks : List Key) (ns : List Int) (p7 : Option Addr) (c7 : Nat) (A7 : Mem) (p8 : Option Addr) (c8 : Nat) (A8 : Mem), (i ≤ acts.length) ∧ (Kp n L ks ns) ∧ (OwnL eKey 27 p7 c7 ks A7) ∧ (OwnL (eI .u64) 30 p8 c8 ns A8) ∧ Ge s ⟨[], [(0, .int .i64 n), (1, .slice pl acts.length cl), (5, .pointer (some ⟨bt, 0, none⟩)), (7, .slice p7 ks.length c7), (8, .slice p8 ns.length c8), (9, .int .i64 i)], tabO bt bs n ks.length :: slotO bs L :: (A7 ++ (A8 ++ R))⟩ ∧ m = acts.length + 1 - i) ?_ ?_
  · exact ⟨_, ⟨0, List.replicate n zeroS, [], [], none, 0, [], none, 0, [], by omega, Kp.new n, OwnL.nil, OwnL.nil, ⟨rfl, ⟨[0, 1, 5, 7, 8, 9], rfl⟩, .auto⟩, rfl⟩⟩
  rintro s m ⟨i, L, ks, ns, p7, c7, A7, p8, c8, A8, hi, hK, h7, h8, hs, rfl⟩
  refine ge_ok hs ?_
  refine p_seq0 ?_
  refine p_seq0 ?_
  refine p_plain0 (0 :: 1 :: 2 :: 3 :: []) ?_
  refine go_q0 42 (.move (.tmp 9)) 3 (qv_move rfl) ?_
  refine go_q0 43 (.move (.tmp 1)) 82 (qv_move rfl) ?_
  refine go_q0 44 (.call { callee := .builtin .len, args := #[.tmp 43], argTypes := #[82] }) 3 (qv_lenS un82 rfl) ?_
  refine go_q0 45 (.binOp .lss 3 (.tmp 42) (.tmp 44) 3) 4 (qv_lss rfl rfl rfl) ?_
  refine go_nil ?_
  change G _ _ _ _
  refine p_weaken [0, 1, 5, 7, 8, 9, 45] rfl ?_
  refine p_cond (.tmp 45) (by kernel_rfl) rfl (fun h45 => ?_) (fun h45 => ?_)
  rotate_left
  · replace h45 := kn h45
    refine p_exit 0 (by kernel_rfl) ?_
    change G _ _ _ _
    refine p_weaken [] rfl ?_
    refine p_seq0 ?_
    refine p_plain0 (0 :: 1 :: []) ?_
    refine go_s0 (some 228) (.call { callee := .value (.func 38), args := #[], argTypes := #[] }) 4 ?_
    refine os_callP rfl en38 rfl (pu_works23) ?_
    refine go_q0 4 (.assign (.tmp 228)) 4 (qv_assign rfl) ?_
    refine go_nil ?_
    change G _ _ _ _
    refine p_weaken [4] rfl ?_
    refine p_ret0 ?_
    try dsimp only [thenQ, inBlockQ]
    try rw [if_pos rfl]
    refine ret_left (R) (.inr rfl) (.cons (res_tmp rfl) .nil) .auto ?_
    exact ⟨rfl, rfl⟩
  replace h45 := kn h45
  refine p_skip0 ?_
  change G _ _ _ _
  refine p_weaken [0, 1, 5, 7, 8, 9] rfl ?_
  refine p_seq0 ?_
  refine p_block 1 (by kernel_rfl) ?_
  refine p_seq0 ?_
  obtain ⟨ba, oa, ca, ea, fa, rfl, ma, Ha⟩ := hl.at_ (i := i) (by omega)
  obtain ⟨a, hx⟩ : ∃ a, acts[i]? = some a := ⟨_, List.getElem?_eq_getElem (by omega)⟩
  have hkw := hwf a (List.mem_of_getElem? hx)
  have hle := hK.le
  have hnlen := hK.len
  refine p_plain0 (0 :: 1 :: 2 :: 3 :: 4 :: 5 :: []) ?_
  refine go_q0 48 (.move (.tmp 1)) 82 (qv_move rfl) ?_
  refine go_q0 49 (.move (.tmp 9)) 3 (qv_move rfl) ?_
  refine go_q0 50 (.indexAddr 82 (.tmp 48) (.tmp 49)) 0 (qv_index un82 sz88 rfl rfl rfl (by omega)) ?_
  refine go_q0 51 (.load 88 (.tmp 50)) 88 (qv_load rfl (At.of_mem (by repeat first | exact ma | exact List.mem_append_left _ ma | apply List.mem_cons_of_mem | apply List.mem_append_right)) (ldv_els Ha hx (by decide) agg88 rfl)) ?_
  refine go_s0 (some 10) (.alloc 88) 0 ?_
  refine os_allocA rfl ze88 (fun b10 => ?_)
  refine go_s0 none (.store 88 (.tmp 10) (.tmp 51)) 0 ?_
  refine os_store rfl rfl sz88 rfl (one_Act23 _) .auto (Nat.le_of_ble_eq_true rfl) (splw_Act23 _ _ (siz_Act23 _)) ?_
  refine go_nil ?_
  change G _ _ _ _
  refine p_weaken [0, 1, 5, 7, 8, 9, 10] rfl ?_
  refine p_seq0 ?_
  refine p_plain0 (0 :: []) ?_
  refine go_q0 11 (.assign (.const (.int .i64 (-1)))) 3 (qv_assign rfl) ?_
  refine go_nil ?_
  change G _ _ _ _
  refine p_seq0 ?_
  refine p_seq0 ?_
  refine p_plain0 (0 :: []) ?_
  refine go_q0 12 (.assign (.const (.int .i64 0))) 3 (qv_assign rfl) ?_
  refine go_nil ?_
  change G _ _ _ _
  refine p_block 2 (by kernel_rfl) ?_
  refine p_loopE (by kernel_rfl) (fun s m => ∃ (j : Nat) (z : Int), (j ≤ ks.length) ∧ (AtI ks a.k j z) ∧ Ge s ⟨[], [(0, .int .i64 n), (1, .slice (some ⟨ba, oa, none⟩) acts.length cl), (5, .pointer (some ⟨bt, 0, none⟩)), (7, .slice p7 ks.length c7), (8, .slice p8 ns.length c8), (9, .int .i64 i), (10, .pointer (some ⟨b10, 0, none⟩)), (11, .int .i64 z), (12, .int .i64 j)], (b10, .cells a.c 88 (0, 0)) :: tabO bt bs n ks.length :: slotO bs L :: (A7 ++ (A8 ++ R))⟩ ∧ m = ks.length + 1 - j) ?_ ?_
  · exact ⟨_, ⟨0, -1, by omega, .inl ⟨rfl, fun m hm => absurd hm (by omega)⟩, ⟨rfl, ⟨[0, 1, 5, 7, 8, 9, 10, 11, 12], rfl⟩, .auto⟩, rfl⟩⟩
  rintro s m ⟨j, z, hj, hz, hs, rfl⟩
  refine ge_ok hs ?_
  refine p_seq0 ?_
  refine p_seq0 ?_
  refine p_plain0 (0 :: 1 :: 2 :: 3 :: []) ?_
  refine go_q0 52 (.move (.tmp 12)) 3 (qv_move rfl) ?_
  refine go_q0 53 (.move (.tmp 7)) 86 (qv_move rfl) ?_
  refine go_q0 54 (.call { callee := .builtin .len, args := #[.tmp 53], argTypes := #[86] }) 3 (qv_lenS un86 rfl) ?_
  refine go_q0 55 (.binOp .lss 3 (.tmp 52) (.tmp 54) 3) 4 (qv_lss rfl rfl rfl) ?_
  refine go_nil ?_
  change G _ _ _ _
  refine p_weaken [0, 1, 5, 7, 8, 9, 10, 11, 12, 55] rfl ?_
  refine p_cond (.tmp 55) (by kernel_rfl) rfl (fun h55 => ?_) (fun h55 => ?_)
  · replace h55 := kn h55
    refine p_skip0 ?_
    change G _ _ _ _
    refine p_weaken [0, 1, 5, 7, 8, 9, 10, 11, 12] rfl ?_
    refine p_seq0 ?_
    refine p_block 3 (by kernel_rfl) ?_
    refine p_seq0 ?_
    obtain ⟨b7, o7, cur7, e7, f7, rfl, m7, H7⟩ := h7.lst.at_ (i := j) (by omega)
    obtain ⟨x, hk⟩ : ∃ x, ks[j]? = some x := ⟨_, List.getElem?_eq_getElem (by omega)⟩
    refine p_draw (by kernel_rfl) mixed 7 7 _ (fun _ h => h) (by kernel_rfl) ?_
    refine gd_all (0 :: 1 :: 2 :: 3 :: 4 :: 5 :: 6 :: []) _ rfl (by kernel_rfl) (by decide) (fun _ h => h) rfl ?_
    refine sq_q0 58 (.move (.tmp 7)) 86 (qv_move rfl) ?_
    refine sq_q0 59 (.move (.tmp 12)) 3 (qv_move rfl) ?_
    refine sq_q0 60 (.indexAddr 86 (.tmp 58) (.tmp 59)) 0 (qv_index un86 sz27 rfl rfl rfl (by omega)) ?_
    refine sq_q0 61 (.load 27 (.tmp 60)) 27 (qv_load rfl (At.of_mem (by repeat first | exact m7 | exact List.mem_append_left _ m7 | apply List.mem_cons_of_mem | apply List.mem_append_right)) (ldv_els H7 hk (by decide) agg27 rfl)) ?_
    refine sq_q0 62 (.fieldAddr 88 (.tmp 10) 1) 0 (qv_field rfl fd88_1) ?_
    refine sq_q0 63 (.load 27 (.tmp 62)) 27 (qv_load rfl .auto (ldv_agg agg27 (ext_Act23_1_37 _) (Nat.le_of_ble_eq_true rfl))) ?_
    refine sq_q0 64 (.binOp .eql 27 (.tmp 61) (.tmp 63) 27) 4 (qv_eql_27 rfl rfl rfl) ?_
    refine SeqK.nil (fun β => ?_)
    refine gd_tail [] rfl (by kernel_rfl) (by kernel_rfl) ?_
    refine go_nil ?_
    change G _ _ _ _
    refine p_weaken [0, 1, 5, 7, 8, 9, 10, 11, 12, 64] rfl ?_
    refine p_cond (.tmp 64) (by kernel_rfl) rfl (fun h64 => ?_) (fun h64 => ?_)
    rotate_left
    · replace h64 := kn h64
      refine p_skip0 ?_
      change G _ _ _ _
      refine p_weaken [0, 1, 5, 7, 8, 9, 10, 11, 12] rfl ?_
      refine p_plain0 (0 :: 1 :: 2 :: []) ?_
      refine go_q0 56 (.move (.tmp 12)) 3 (qv_move rfl) ?_
      refine go_q0 57 (.binOp .add 3 (.tmp 56) (.const (.int .i64 1)) 3) 3 (qv_add rfl rfl (by first | exact IntWalk.i64_in _ (by omega) | exact IntWalk.i64_in _ (by dsimp only; omega) | rfl)) ?_
      refine go_q0 12 (.assign (.tmp 57)) 3 (qv_assign rfl) ?_
      refine go_nil ?_
      exact ⟨_, ⟨j + 1, _, by omega, by first | exact hz.no hk h64 | exact AtI.yes hk h64, ⟨rfl, ⟨[0, 1, 5, 7, 8, 9, 10, 11, 12], rfl⟩, .auto⟩, rfl⟩, by omega⟩
    replace h64 := kn h64
    refine p_plain0 (0 :: 1 :: []) ?_
    refine go_q0 65 (.move (.tmp 12)) 3 (qv_move rfl) ?_
    refine go_q0 11 (.assign (.tmp 65)) 3 (qv_assign rfl) ?_
    refine go_nil ?_
    change G _ _ _ _
    refine p_weaken [0, 1, 5, 7, 8, 9, 10, 11, 12] rfl ?_
    refine p_plain0 (0 :: 1 :: 2 :: []) ?_
    refine go_q0 56 (.move (.tmp 12)) 3 (qv_move rfl) ?_
    refine go_q0 57 (.binOp .add 3 (.tmp 56) (.const (.int .i64 1)) 3) 3 (qv_add rfl rfl (by first | exact IntWalk.i64_in _ (by omega) | exact IntWalk.i64_in _ (by dsimp only; omega) | rfl)) ?_
    refine go_q0 12 (.assign (.tmp 57)) 3 (qv_assign rfl) ?_
    refine go_nil ?_
    exact ⟨_, ⟨j + 1, _, by omega, by first | exact hz.no hk h64 | exact AtI.yes hk h64, ⟨rfl, ⟨[0, 1, 5, 7, 8, 9, 10, 11, 12], rfl⟩, .auto⟩, rfl⟩, by omega⟩
  replace h55 := kn h55
  refine p_exit 2 (by kernel_rfl) ?_
  change G _ _ _ _
  refine p_weaken [0, 1, 5, 7, 8, 9, 10, 11] rfl ?_
  refine p_seq0 ?_
  have hjl : j = ks.length := by omega
  subst hjl
  refine p_plain0 (0 :: []) ?_
  refine go_q0 13 (.assign (.const (.slice none 0 0))) 89 (qv_assign rfl) ?_
  refine go_nil ?_
  change G _ _ _ _
  refine p_seq0 ?_
  refine p_seq0 ?_
  refine p_plain0 (0 :: []) ?_
  refine go_q0 14 (.assign (.const (.int .i64 0))) 3 (qv_assign rfl) ?_
  refine go_nil ?_
  change G _ _ _ _
  refine p_block 4 (by kernel_rfl) ?_
  refine p_loopE (by kernel_rfl) (fun s m => ∃ (j : Nat) (bf : List Int) (p13 : Option Addr) (c13 : Nat) (A13 : Mem), (j ≤ ks.length) ∧ (bf = (ks.take j).map (probesV L)) ∧ (OwnL (eI .i64) 3 p13 c13 bf A13) ∧ Ge s ⟨[], [(0, .int .i64 n), (1, .slice (some ⟨ba, oa, none⟩) acts.length cl), (5, .pointer (some ⟨bt, 0, none⟩)), (7, .slice p7 ks.length c7), (8, .slice p8 ns.length c8), (9, .int .i64 i), (10, .pointer (some ⟨b10, 0, none⟩)), (11, .int .i64 z), (13, .slice p13 bf.length c13), (14, .int .i64 j)], A13 ++ ((b10, .cells a.c 88 (0, 0)) :: tabO bt bs n ks.length :: slotO bs L :: (A7 ++ (A8 ++ R)))⟩ ∧ m = ks.length + 1 - j) ?_ ?_
  · exact ⟨_, ⟨0, [], none, 0, [], by omega, rfl, OwnL.nil, ⟨rfl, ⟨[0, 1, 5, 7, 8, 9, 10, 11, 13, 14], rfl⟩, .auto⟩, rfl⟩⟩
  rintro s m ⟨j, bf, p13, c13, A13, hj, hbf, h13, hs, rfl⟩
  refine ge_ok hs ?_
  refine p_seq0 ?_
  refine p_seq0 ?_
  refine p_plain0 (0 :: 1 :: 2 :: 3 :: []) ?_
  refine go_q0 66 (.move (.tmp 14)) 3 (qv_move rfl) ?_
  refine go_q0 67 (.move (.tmp 7)) 86 (qv_move rfl) ?_
  refine go_q0 68 (.call { callee := .builtin .len, args := #[.tmp 67], argTypes := #[86] }) 3 (qv_lenS un86 rfl) ?_
  refine go_q0 69 (.binOp .lss 3 (.tmp 66) (.tmp 68) 3) 4 (qv_lss rfl rfl rfl) ?_
  refine go_nil ?_
  change G _ _ _ _
  refine p_weaken [0, 1, 5, 7, 8, 9, 10, 11, 13, 14, 69] rfl ?_
  refine p_cond (.tmp 69) (by kernel_rfl) rfl (fun h69 => ?_) (fun h69 => ?_)
  · replace h69 := kn h69
    refine p_skip0 ?_
    change G _ _ _ _
    refine p_weaken [0, 1, 5, 7, 8, 9, 10, 11, 13, 14] rfl ?_
    refine p_seq0 ?_
    refine p_block 5 (by kernel_rfl) ?_
    obtain ⟨b7, o7, cur7, e7, f7, rfl, m7, H7⟩ := h7.lst.at_ (i := j) (by omega)
    obtain ⟨x, hk⟩ : ∃ x, ks[j]? = some x := ⟨_, List.getElem?_eq_getElem (by omega)⟩
    have hxw := hK.kwf x (List.mem_of_getElem? hk)
    have hbl : bf.length = j := by rw [hbf]; simp; omega
    refine p_plain0 (0 :: 1 :: 2 :: 3 :: 4 :: 5 :: 6 :: 7 :: 8 :: 9 :: []) ?_
    refine go_q0 72 (.move (.tmp 13)) 89 (qv_move rfl) ?_
    refine go_q0 73 (.move (.tmp 5)) 83 (qv_move rfl) ?_
    refine go_q0 74 (.move (.tmp 7)) 86 (qv_move rfl) ?_
    refine go_q0 75 (.move (.tmp 14)) 3 (qv_move rfl) ?_
    refine go_q0 76 (.indexAddr 86 (.tmp 74) (.tmp 75)) 0 (qv_index un86 sz27 rfl rfl rfl (by omega)) ?_
    refine go_q0 77 (.load 27 (.tmp 76)) 27 (qv_load rfl (At.of_mem (by repeat first | exact m7 | exact List.mem_append_left _ m7 | apply List.mem_cons_of_mem | apply List.mem_append_right)) (ldv_els H7 hk (by decide) agg27 rfl)) ?_
    refine go_s0 (some 78) (.call { callee := .value (.func 40), args := #[.tmp 73, .tmp 77], argTypes := #[83, 27] }) 3 ?_
    refine os_pv rfl (pv_callR en40 rfl .auto (ct_ProbesV (many := ks.length) (bs := bs) hK.L_len hxw (by omega) (by omega))) ?_
    refine go_s0 (some 79) (.buildSlice 89 1 #[(0, .tmp 78)]) 89 ?_
    refine os_buildSlice (Nat.le_of_ble_eq_true rfl) rfl (bls89_1 _) (fun b79 => ?_)
    refine go_s0 (some 80) (.call { callee := .builtin .append, args := #[.tmp 72, .tmp 79], argTypes := #[89, 89] }) 89 ?_
    refine os_appendK (E := eI .i64) (l := bf) (l2 := [probesV L x]) rfl el89 rfl rfl rfl rfl (h13) .auto .auto (Go.E.holds_one _) (eI_one _) (by simp [maxLen] <;> omega) (by simp <;> omega) (fun p80 c80 A80 h80 => ?_)
    refine go_q0 13 (.assign (.tmp 80)) 89 (qv_assign rfl) ?_
    refine go_nil ?_
    change G _ _ _ _
    refine p_weaken [0, 1, 5, 7, 8, 9, 10, 11, 13, 14] rfl ?_
    refine p_plain0 (0 :: 1 :: 2 :: []) ?_
    refine go_q0 70 (.move (.tmp 14)) 3 (qv_move rfl) ?_
    refine go_q0 71 (.binOp .add 3 (.tmp 70) (.const (.int .i64 1)) 3) 3 (qv_add rfl rfl (by first | exact IntWalk.i64_in _ (by omega) | exact IntWalk.i64_in _ (by dsimp only; omega) | rfl)) ?_
    refine go_q0 14 (.assign (.tmp 71)) 3 (qv_assign rfl) ?_
    refine go_nil ?_
    exact ⟨_, ⟨j + 1, _, _, _, _, by omega, by rw [hbf, List.take_add_one, hk]; simp, h80, ⟨rfl, ⟨[0, 1, 5, 7, 8, 9, 10, 11, 13, 14], rfl⟩, .auto⟩, rfl⟩, by omega⟩
  replace h69 := kn h69
  refine p_exit 4 (by kernel_rfl) ?_
  change G _ _ _ _
  refine p_weaken [0, 1, 5, 7, 8, 9, 10, 11, 13] rfl ?_
  refine p_seqJ (fun s => ∃ (L2 : List Slot) (ks2 : List Key) (ns2 : List Int) (q7 : Option Addr) (d7 : Nat) (B7 : Mem) (q8 : Option Addr) (d8 : Nat) (B8 : Mem), (Kp n L2 ks2 ns2) ∧ (OwnL eKey 27 q7 d7 ks2 B7) ∧ (OwnL (eI .u64) 30 q8 d8 ns2 B8) ∧ Ge s ⟨[], [(0, .int .i64 n), (1, .slice (some ⟨ba, oa, none⟩) acts.length cl), (5, .pointer (some ⟨bt, 0, none⟩)), (7, .slice q7 ks2.length d7), (8, .slice q8 ns2.length d8), (9, .int .i64 i)], tabO bt bs n ks2.length :: slotO bs L2 :: (B7 ++ (B8 ++ R))⟩) (by kernel_rfl) ?_ ?_
  rotate_left
  · rintro s ⟨L2, ks2, ns2, q7, d7, B7, q8, d8, B8, hK2, g7, g8, hs⟩
    refine ge_ok hs ?_
    refine p_seq0 ?_
    refine p_seq0 ?_
    refine p_plain0 (0 :: 1 :: 2 :: 3 :: 4 :: []) ?_
    refine go_q0 195 (.move (.tmp 5)) 83 (qv_move rfl) ?_
    refine go_s0 (some 196) (.call { callee := .value (.func 45), args := #[.tmp 195], argTypes := #[83] }) 3 ?_
    refine os_pv rfl (pv_callR en45 rfl .auto (ct_Len bt bs n ks2.length)) ?_
    refine go_q0 197 (.move (.tmp 7)) 86 (qv_move rfl) ?_
    refine go_q0 198 (.call { callee := .builtin .len, args := #[.tmp 197], argTypes := #[86] }) 3 (qv_lenS un86 rfl) ?_
    refine go_q0 199 (.binOp .neq 3 (.tmp 196) (.tmp 198) 3) 4 (qv_neq (b := false) rfl rfl (bne_eq_false_iff_eq.2 (by omega))) ?_
    refine go_nil ?_
    change G _ _ _ _
    refine p_weaken [0, 1, 5, 7, 8, 9, 199] rfl ?_
    refine p_condF (.tmp 199) (by kernel_rfl) rfl ?_
    refine p_skip0 ?_
    change G _ _ _ _
    refine p_weaken [0, 1, 5, 7, 8, 9] rfl ?_
    refine p_seq0 ?_
    refine p_seq0 ?_
    refine p_plain0 (0 :: []) ?_
    refine go_q0 19 (.assign (.const (.int .i64 0))) 3 (qv_assign rfl) ?_
    refine go_nil ?_
    change G _ _ _ _
    refine p_block 8 (by kernel_rfl) ?_
    refine p_loopE (by kernel_rfl) (fun s m => ∃ (j : Nat), (j ≤ ks2.length) ∧ Ge s ⟨[], [(0, .int .i64 n), (1, .slice (some ⟨ba, oa, none⟩) acts.length cl), (5, .pointer (some ⟨bt, 0, none⟩)), (7, .slice q7 ks2.length d7), (8, .slice q8 ns2.length d8), (9, .int .i64 i), (19, .int .i64 j)], tabO bt bs n ks2.length :: slotO bs L2 :: (B7 ++ (B8 ++ R))⟩ ∧ m = ks2.length + 1 - j) ?_ ?_
    · exact ⟨_, ⟨0, by omega, ⟨rfl, ⟨[0, 1, 5, 7, 8, 9, 19], rfl⟩, .auto⟩, rfl⟩⟩
    rintro s m ⟨j, hj, hs, rfl⟩
    refine ge_ok hs ?_
    refine p_seq0 ?_
    refine p_seq0 ?_
    refine p_plain0 (0 :: 1 :: 2 :: 3 :: []) ?_
    refine go_q0 200 (.move (.tmp 19)) 3 (qv_move rfl) ?_
    refine go_q0 201 (.move (.tmp 7)) 86 (qv_move rfl) ?_
    refine go_q0 202 (.call { callee := .builtin .len, args := #[.tmp 201], argTypes := #[86] }) 3 (qv_lenS un86 rfl) ?_
    refine go_q0 203 (.binOp .lss 3 (.tmp 200) (.tmp 202) 3) 4 (qv_lss rfl rfl rfl) ?_
    refine go_nil ?_
    change G _ _ _ _
    refine p_weaken [0, 1, 5, 7, 8, 9, 19, 203] rfl ?_
    refine p_cond (.tmp 203) (by kernel_rfl) rfl (fun h203 => ?_) (fun h203 => ?_)
    rotate_left
    · replace h203 := kn h203
      refine p_exit 8 (by kernel_rfl) ?_
      change G _ _ _ _
      refine p_weaken [0, 1, 5, 7, 8, 9] rfl ?_
      refine p_seq0 ?_
      refine p_plain0 (0 :: 1 :: 2 :: []) ?_
      refine go_q0 225 (.move (.tmp 5)) 83 (qv_move rfl) ?_
      refine go_s0 (some 226) (.call { callee := .value (.func 47), args := #[.tmp 225], argTypes := #[83] }) 4 ?_
      refine os_pv rfl (pv_callR en47 rfl .auto (ct_reached (many := ks2.length) (bs := bs) (bt := bt) hn hK2)) ?_
      refine go_q0 227 (.unOp .not 4 (.tmp 226)) 4 (qv_not rfl) ?_
      refine go_nil ?_
      change G _ _ _ _
      refine p_weaken [0, 1, 5, 7, 8, 9, 227] rfl ?_
      refine p_condF (.tmp 227) (by kernel_rfl) rfl ?_
      refine p_skip0 ?_
      change G _ _ _ _
      refine p_weaken [0, 1, 5, 7, 8, 9] rfl ?_
      refine p_plain0 (0 :: 1 :: 2 :: []) ?_
      refine go_q0 46 (.move (.tmp 9)) 3 (qv_move rfl) ?_
      refine go_q0 47 (.binOp .add 3 (.tmp 46) (.const (.int .i64 1)) 3) 3 (qv_add rfl rfl (by first | exact IntWalk.i64_in _ (by omega) | exact IntWalk.i64_in _ (by dsimp only; omega) | rfl)) ?_
      refine go_q0 9 (.assign (.tmp 47)) 3 (qv_assign rfl) ?_
      refine go_nil ?_
      exact ⟨_, ⟨i + 1, L2, ks2, ns2, q7, d7, B7, q8, d8, B8, by omega, hK2, g7, g8, ⟨rfl, ⟨[0, 1, 5, 7, 8, 9], rfl⟩, .auto⟩, rfl⟩, by omega⟩
    replace h203 := kn h203
    refine p_skip0 ?_
    change G _ _ _ _
    refine p_weaken [0, 1, 5, 7, 8, 9, 19] rfl ?_
    refine p_seq0 ?_
    refine p_block 9 (by kernel_rfl) ?_
    refine p_seq0 ?_
    obtain ⟨b7, o7, cur7, e7, f7, rfl, m7, H7⟩ := g7.lst.at_ (i := j) (by omega)
    obtain ⟨b8, o8, cur8, e8, f8, rfl, m8, H8⟩ := g8.lst.at_ (i := j) (by have := hK2.len; omega)
    obtain ⟨x, hk⟩ : ∃ x, ks2[j]? = some x := ⟨_, List.getElem?_eq_getElem (by omega)⟩
    obtain ⟨y, hy⟩ : ∃ y, ns2[j]? = some y := ⟨_, List.getElem?_eq_getElem (by have := hK2.len; omega)⟩
    have hnl2 := hK2.len
    have hle2 := hK2.le
    refine p_plain0 (0 :: 1 :: 2 :: 3 :: 4 :: 5 :: 6 :: 7 :: 8 :: 9 :: 10 :: []) ?_
    refine go_q0 207 (.move (.tmp 5)) 83 (qv_move rfl) ?_
    refine go_q0 208 (.move (.tmp 7)) 86 (qv_move rfl) ?_
    refine go_q0 209 (.move (.tmp 19)) 3 (qv_move rfl) ?_
    refine go_q0 210 (.indexAddr 86 (.tmp 208) (.tmp 209)) 0 (qv_index un86 sz27 rfl rfl rfl (by omega)) ?_
    refine go_q0 211 (.load 27 (.tmp 210)) 27 (qv_load rfl (At.of_mem (by repeat first | exact m7 | exact List.mem_append_left _ m7 | apply List.mem_cons_of_mem | apply List.mem_append_right)) (ldv_els H7 hk (by decide) agg27 rfl)) ?_
    refine go_s0 (some 212) (.call { callee := .value (.func 46), args := #[.tmp 207, .tmp 211], argTypes := #[83, 27] }) 95 ?_
    refine os_pv rfl (pv_callR en46 rfl .auto (ct_GetK (many := ks2.length) (bs := bs) hn hK2 hk hy)) ?_
    refine go_q0 206 (.move (.tmp 212)) 95 (qv_move rfl) ?_
    refine go_q0 213 (.extract (.tmp 206) 0) 30 (qv_extract rfl rfl) ?_
    refine go_q0 214 (.extract (.tmp 206) 1) 4 (qv_extract rfl rfl) ?_
    refine go_q0 20 (.assign (.tmp 213)) 30 (qv_assign rfl) ?_
    refine go_q0 21 (.assign (.tmp 214)) 4 (qv_assign rfl) ?_
    refine go_nil ?_
    change G _ _ _ _
    refine p_weaken [0, 1, 5, 7, 8, 9, 19, 20, 21] rfl ?_
    refine p_seq0 ?_
    refine p_plain0 (0 :: 1 :: 2 :: 3 :: 4 :: 5 :: 6 :: 7 :: 8 :: 9 :: []) ?_
    refine go_q0 215 (.move (.tmp 21)) 4 (qv_move rfl) ?_
    refine go_q0 216 (.unOp .not 4 (.tmp 215)) 4 (qv_not rfl) ?_
    refine go_q0 217 (.move (.tmp 216)) 4 (qv_move rfl) ?_
    refine go_q (d := 218) (op := .move (.tmp 20)) (ty := 30) (g := some (2, false)) (by kernel_rfl) ⟨217, by kernel_rfl, rfl⟩ rfl (qv_move rfl) ?_
    refine go_q (d := 219) (op := .move (.tmp 8)) (ty := 29) (g := some (2, false)) (by kernel_rfl) ⟨217, by kernel_rfl, rfl⟩ rfl (qv_move rfl) ?_
    refine go_q (d := 220) (op := .move (.tmp 19)) (ty := 3) (g := some (2, false)) (by kernel_rfl) ⟨217, by kernel_rfl, rfl⟩ rfl (qv_move rfl) ?_
    refine go_q (d := 221) (op := .indexAddr 29 (.tmp 219) (.tmp 220)) (ty := 0) (g := some (2, false)) (by kernel_rfl) ⟨217, by kernel_rfl, rfl⟩ rfl (qv_index un29 sz30 rfl rfl rfl (by omega)) ?_
    refine go_q (d := 222) (op := .load 30 (.tmp 221)) (ty := 30) (g := some (2, false)) (by kernel_rfl) ⟨217, by kernel_rfl, rfl⟩ rfl (qv_load rfl (At.of_mem (by repeat first | exact m8 | exact List.mem_append_left _ m8 | apply List.mem_cons_of_mem | apply List.mem_append_right)) (ldv_el H8 hy sc30 (k := 0) rfl rfl)) ?_
    refine go_q (d := 223) (op := .binOp .neq 30 (.tmp 218) (.tmp 222) 30) (ty := 4) (g := some (2, false)) (by kernel_rfl) ⟨217, by kernel_rfl, rfl⟩ rfl (qv_neq (b := false) rfl rfl (bne_eq_false_iff_eq.2 (by omega))) ?_
    refine go_q0 224 (.pick (.tmp 217) (.const (.bool true)) (.tmp 223)) 4 (qv_pick_f rfl rfl) ?_
    refine go_nil ?_
    change G _ _ _ _
    refine p_weaken [0, 1, 5, 7, 8, 9, 19, 224] rfl ?_
    refine p_condF (.tmp 224) (by kernel_rfl) rfl ?_
    refine p_skip0 ?_
    change G _ _ _ _
    refine p_weaken [0, 1, 5, 7, 8, 9, 19] rfl ?_
    refine p_plain0 (0 :: 1 :: 2 :: []) ?_
    refine go_q0 204 (.move (.tmp 19)) 3 (qv_move rfl) ?_
    refine go_q0 205 (.binOp .add 3 (.tmp 204) (.const (.int .i64 1)) 3) 3 (qv_add rfl rfl (by first | exact IntWalk.i64_in _ (by omega) | exact IntWalk.i64_in _ (by dsimp only; omega) | rfl)) ?_
    refine go_q0 19 (.assign (.tmp 205)) 3 (qv_assign rfl) ?_
    refine go_nil ?_
    exact ⟨_, ⟨j + 1, by omega, ⟨rfl, ⟨[0, 1, 5, 7, 8, 9, 19], rfl⟩, .auto⟩, rfl⟩, by omega⟩
  refine p_seq0 ?_
  have hjl : j = ks.length := by omega
  subst hjl
  rw [List.take_length] at hbf
  refine p_plain0 (0 :: 1 :: 2 :: 3 :: []) ?_
  refine go_q0 81 (.fieldAddr 88 (.tmp 10) 0) 0 (qv_field rfl fd88_0) ?_
  refine go_q0 82 (.load 3 (.tmp 81)) 3 (qv_load rfl .auto (ldv_sca sc3 (get_Act23_0 _))) ?_
  refine go_s0 (some 83) (.call { callee := .value (.func 41), args := #[.tmp 82, .const (.int .i64 8)], argTypes := #[3, 3] }) 3 ?_
  refine os_callP rfl en41 rfl (pu_Pick8 a.do_) ?_
  refine go_q0 15 (.assign (.tmp 83)) 3 (qv_assign rfl) ?_
  refine go_nil ?_
  change G _ _ _ _
  refine p_weaken [0, 1, 5, 7, 8, 9, 10, 11, 13, 15] rfl ?_
  refine p_seq0 ?_
  refine p_plain0 (0 :: 1 :: []) ?_
  refine go_q0 84 (.move (.tmp 15)) 3 (qv_move rfl) ?_
  refine go_q0 85 (.binOp .lss 3 (.tmp 84) (.const (.int .i64 4)) 3) 4 (qv_lss rfl rfl rfl) ?_
  refine go_nil ?_
  change G _ _ _ _
  refine p_weaken [0, 1, 5, 7, 8, 9, 10, 11, 13, 15, 85] rfl ?_
  refine p_cond (.tmp 85) (by kernel_rfl) rfl (fun h85 => ?_) (fun h85 => ?_)
  · replace h85 := kn h85
    refine p_seq0 ?_
    refine p_plain0 (0 :: 1 :: 2 :: 3 :: 4 :: 5 :: 6 :: []) ?_
    refine go_q0 86 (.move (.tmp 5)) 83 (qv_move rfl) ?_
    refine go_q0 87 (.fieldAddr 88 (.tmp 10) 1) 0 (qv_field rfl fd88_1) ?_
    refine go_q0 88 (.load 27 (.tmp 87)) 27 (qv_load rfl .auto (ldv_agg agg27 (ext_Act23_1_37 _) (Nat.le_of_ble_eq_true rfl))) ?_
    refine go_q0 89 (.fieldAddr 88 (.tmp 10) 2) 0 (qv_field rfl fd88_2) ?_
    refine go_q0 90 (.load 30 (.tmp 89)) 30 (qv_load rfl .auto (ldv_sca sc30 (get_Act23_38 _))) ?_
    refine go_s0 (some 91) (.call { callee := .value (.func 42), args := #[.tmp 86, .tmp 88, .tmp 90], argTypes := #[83, 27, 30] }) 61 ?_
    refine os_call (Nat.le_of_ble_eq_true rfl) en42 rfl .auto (ct_PutK hn hK hkw hz a.n) ?_
    rintro v91 A91 ⟨e, L1, many1, rfl, he, hrel, rfl⟩
    try dsimp only [List.nil_append, List.cons_append]
    refine go_q0 16 (.assign (.tmp 91)) 61 (qv_assign rfl) ?_
    refine go_nil ?_
    change G _ _ _ _
    refine p_weaken [0, 1, 5, 7, 8, 9, 10, 11, 16] rfl ?_
    refine p_seqK [0, 1, 5, 7, 8, 9, 10, 11, 16] rfl (fun frk Mk s => ∃ (may : Bool), (may = mayB n ks a.k z) ∧ Ge s ⟨[], (17, .bool may) :: frk, Mk⟩) (by kernel_rfl) ?_ ?_
    · refine p_plain0 (0 :: 1 :: 2 :: 3 :: 4 :: 5 :: 6 :: 7 :: 8 :: 9 :: 10 :: 11 :: 12 :: 13 :: []) ?_
      refine go_q0 92 (.fieldAddr 88 (.tmp 10) 1) 0 (qv_field rfl fd88_1) ?_
      refine go_q0 93 (.load 27 (.tmp 92)) 27 (qv_load rfl .auto (ldv_agg agg27 (ext_Act23_1_37 _) (Nat.le_of_ble_eq_true rfl))) ?_
      refine go_s0 (some 94) (.call { callee := .value (.func 43), args := #[.tmp 93], argTypes := #[27] }) 4 ?_
      refine os_callP rfl en43 rfl (pu_KeyRight a.k) ?_
      refine go_q0 95 (.move (.tmp 94)) 4 (qv_move rfl) ?_
      refine go_case (d := 95) rfl (fun g95 => ?_) (fun g95 => ?_)
      rotate_left
      · replace g95 := kn g95
        refine go_n (d := 96) (op := .move (.tmp 11)) (ty := 3) (g := some (3, true)) (by kernel_rfl) ⟨95, _, by kernel_rfl, rfl, rfl⟩ rfl ?_
        refine go_n (d := 97) (op := .binOp .geq 3 (.tmp 96) (.const (.int .i64 0)) 3) (ty := 4) (g := some (3, true)) (by kernel_rfl) ⟨95, _, by kernel_rfl, rfl, rfl⟩ rfl ?_
        refine go_n (d := 98) (op := .move (.tmp 97)) (ty := 4) (g := some (3, true)) (by kernel_rfl) ⟨95, _, by kernel_rfl, rfl, rfl⟩ rfl ?_
        refine go_n (d := 99) (op := .move (.tmp 7)) (ty := 86) (g := some (6, false)) (by kernel_rfl) ⟨98, _, by kernel_rfl, rfl, rfl⟩ rfl ?_
        refine go_n (d := 100) (op := .call { callee := .builtin .len, args := #[.tmp 99], argTypes := #[86] }) (ty := 3) (g := some (6, false)) (by kernel_rfl) ⟨98, _, by kernel_rfl, rfl, rfl⟩ rfl ?_
        refine go_n (d := 101) (op := .move (.tmp 0)) (ty := 3) (g := some (6, false)) (by kernel_rfl) ⟨98, _, by kernel_rfl, rfl, rfl⟩ rfl ?_
        refine go_n (d := 102) (op := .binOp .lss 3 (.tmp 100) (.tmp 101) 3) (ty := 4) (g := some (6, false)) (by kernel_rfl) ⟨98, _, by kernel_rfl, rfl, rfl⟩ rfl ?_
        refine go_n (d := 103) (op := .pick (.tmp 98) (.const (.bool true)) (.tmp 102)) (ty := 4) (g := some (3, true)) (by kernel_rfl) ⟨95, _, by kernel_rfl, rfl, rfl⟩ rfl ?_
        refine go_q0 104 (.pick (.tmp 95) (.tmp 103) (.const (.bool false))) 4 (qv_pick_f rfl rfl) ?_
        refine go_q0 17 (.assign (.tmp 104)) 4 (qv_assign rfl) ?_
        refine go_nil ?_
        exact ⟨_, by unfold mayB; simp [*], ⟨rfl, ⟨[17, 0, 1, 5, 7, 8, 9, 10, 11, 16], rfl⟩, .auto⟩⟩
      replace g95 := kn g95
      refine go_q (d := 96) (op := .move (.tmp 11)) (ty := 3) (g := some (3, true)) (by kernel_rfl) ⟨95, by kernel_rfl, rfl⟩ rfl (qv_move rfl) ?_
      refine go_q (d := 97) (op := .binOp .geq 3 (.tmp 96) (.const (.int .i64 0)) 3) (ty := 4) (g := some (3, true)) (by kernel_rfl) ⟨95, by kernel_rfl, rfl⟩ rfl (qv_geq rfl rfl rfl) ?_
      refine go_q (d := 98) (op := .move (.tmp 97)) (ty := 4) (g := some (3, true)) (by kernel_rfl) ⟨95, by kernel_rfl, rfl⟩ rfl (qv_move rfl) ?_
      refine go_case (d := 98) rfl (fun g98 => ?_) (fun g98 => ?_)
      · replace g98 := kn g98
        refine go_n (d := 99) (op := .move (.tmp 7)) (ty := 86) (g := some (6, false)) (by kernel_rfl) ⟨98, _, by kernel_rfl, rfl, rfl⟩ rfl ?_
        refine go_n (d := 100) (op := .call { callee := .builtin .len, args := #[.tmp 99], argTypes := #[86] }) (ty := 3) (g := some (6, false)) (by kernel_rfl) ⟨98, _, by kernel_rfl, rfl, rfl⟩ rfl ?_
        refine go_n (d := 101) (op := .move (.tmp 0)) (ty := 3) (g := some (6, false)) (by kernel_rfl) ⟨98, _, by kernel_rfl, rfl, rfl⟩ rfl ?_
        refine go_n (d := 102) (op := .binOp .lss 3 (.tmp 100) (.tmp 101) 3) (ty := 4) (g := some (6, false)) (by kernel_rfl) ⟨98, _, by kernel_rfl, rfl, rfl⟩ rfl ?_
        refine go_q (d := 103) (op := .pick (.tmp 98) (.const (.bool true)) (.tmp 102)) (ty := 4) (g := some (3, true)) (by kernel_rfl) ⟨95, by kernel_rfl, rfl⟩ rfl (qv_pick_t rfl rfl) ?_
        refine go_q0 104 (.pick (.tmp 95) (.tmp 103) (.const (.bool false))) 4 (qv_pick_t rfl rfl) ?_
        refine go_q0 17 (.assign (.tmp 104)) 4 (qv_assign rfl) ?_
        refine go_nil ?_
        exact ⟨_, by unfold mayB; simp [*], ⟨rfl, ⟨[17, 0, 1, 5, 7, 8, 9, 10, 11, 16], rfl⟩, .auto⟩⟩
      replace g98 := kn g98
      refine go_q (d := 99) (op := .move (.tmp 7)) (ty := 86) (g := some (6, false)) (by kernel_rfl) ⟨98, by kernel_rfl, rfl⟩ rfl (qv_move rfl) ?_
      refine go_q (d := 100) (op := .call { callee := .builtin .len, args := #[.tmp 99], argTypes := #[86] }) (ty := 3) (g := some (6, false)) (by kernel_rfl) ⟨98, by kernel_rfl, rfl⟩ rfl (qv_lenS un86 rfl) ?_
      refine go_q (d := 101) (op := .move (.tmp 0)) (ty := 3) (g := some (6, false)) (by kernel_rfl) ⟨98, by kernel_rfl, rfl⟩ rfl (qv_move rfl) ?_
      refine go_q (d := 102) (op := .binOp .lss 3 (.tmp 100) (.tmp 101) 3) (ty := 4) (g := some (6, false)) (by kernel_rfl) ⟨98, by kernel_rfl, rfl⟩ rfl (qv_lss rfl rfl rfl) ?_
      refine go_q (d := 103) (op := .pick (.tmp 98) (.const (.bool true)) (.tmp 102)) (ty := 4) (g := some (3, true)) (by kernel_rfl) ⟨95, by kernel_rfl, rfl⟩ rfl (qv_pick_f rfl rfl) ?_
      refine go_q0 104 (.pick (.tmp 95) (.tmp 103) (.const (.bool false))) 4 (qv_pick_t rfl rfl) ?_
      refine go_q0 17 (.assign (.tmp 104)) 4 (qv_assign rfl) ?_
      refine go_nil ?_
      exact ⟨_, by unfold mayB; simp [*], ⟨rfl, ⟨[17, 0, 1, 5, 7, 8, 9, 10, 11, 16], rfl⟩, .auto⟩⟩
    rintro s ⟨may, hmay, hs⟩
    refine ge_ok hs ?_
    refine p_seq0 ?_
    refine p_seq0 ?_
    refine p_plain0 (0 :: 1 :: 2 :: 3 :: []) ?_
    refine go_q0 105 (.move (.tmp 17)) 4 (qv_move rfl) ?_
    refine go_q0 106 (.move (.tmp 16)) 61 (qv_move rfl) ?_
    refine go_q0 107 (.binOp .eql 61 (.tmp 106) (.const (.int .i64 0)) 61) 4 (qv_eql rfl rfl rfl) ?_
    refine go_q0 108 (.binOp .neq 4 (.tmp 105) (.tmp 107) 4) 4 (qv_neqBb (b := false) un4 rfl rfl (by rw [he, hmay]; simp)) ?_
    refine go_nil ?_
    change G _ _ _ _
    refine p_weaken [0, 1, 5, 7, 8, 9, 10, 11, 17, 108] rfl ?_
    refine p_condF (.tmp 108) (by kernel_rfl) rfl ?_
    refine p_skip0 ?_
    change G _ _ _ _
    refine p_weaken [0, 1, 5, 7, 8, 9, 10, 11, 17] rfl ?_
    refine p_seqK [0, 1, 5, 7, 8, 9, 10, 11, 17] rfl (fun frk Mk s => ∃ (ns1 : List Int) (A8n : Mem), (OwnL (eI .u64) 30 p8 c8 ns1 A8n) ∧ (ns1 = if (may && decide (0 ≤ z)) = true then ns.set z.toNat a.n else ns) ∧ (ns1.length = ns.length) ∧ Ge s ⟨[], frk, tabO bt bs n many1 :: slotO bs L1 :: (A13 ++ ((b10, .cells a.c 88 (0, 0)) :: (A7 ++ (A8n ++ R))))⟩) (by kernel_rfl) ?_ ?_
    · refine p_seqK [0, 1, 5, 7, 8, 9, 10, 11, 17] rfl (fun frk Mk s => ∃ (x1 : Bool), (x1 = (may && decide (0 ≤ z))) ∧ Ge s ⟨[], (113, .bool x1) :: frk, Mk⟩) (by kernel_rfl) ?_ ?_
      · refine p_plain0 (0 :: 1 :: 2 :: 3 :: 4 :: []) ?_
        refine go_q0 109 (.move (.tmp 17)) 4 (qv_move rfl) ?_
        refine go_q0 110 (.move (.tmp 109)) 4 (qv_move rfl) ?_
        refine go_case (d := 110) rfl (fun g110 => ?_) (fun g110 => ?_)
        · replace g110 := kn g110
          refine go_q (d := 111) (op := .move (.tmp 11)) (ty := 3) (g := some (1, true)) (by kernel_rfl) ⟨110, by kernel_rfl, rfl⟩ rfl (qv_move rfl) ?_
          refine go_q (d := 112) (op := .binOp .geq 3 (.tmp 111) (.const (.int .i64 0)) 3) (ty := 4) (g := some (1, true)) (by kernel_rfl) ⟨110, by kernel_rfl, rfl⟩ rfl (qv_geq rfl rfl rfl) ?_
          refine go_q0 113 (.pick (.tmp 110) (.tmp 112) (.const (.bool false))) 4 (qv_pick_t rfl rfl) ?_
          refine go_nil ?_
          exact ⟨_, by rw [g110]; rfl, ⟨rfl, ⟨[113, 0, 1, 5, 7, 8, 9, 10, 11, 17], rfl⟩, .auto⟩⟩
        replace g110 := kn g110
        refine go_n (d := 111) (op := .move (.tmp 11)) (ty := 3) (g := some (1, true)) (by kernel_rfl) ⟨110, _, by kernel_rfl, rfl, rfl⟩ rfl ?_
        refine go_n (d := 112) (op := .binOp .geq 3 (.tmp 111) (.const (.int .i64 0)) 3) (ty := 4) (g := some (1, true)) (by kernel_rfl) ⟨110, _, by kernel_rfl, rfl, rfl⟩ rfl ?_
        refine go_q0 113 (.pick (.tmp 110) (.tmp 112) (.const (.bool false))) 4 (qv_pick_f rfl rfl) ?_
        refine go_nil ?_
        exact ⟨_, by rw [g110]; rfl, ⟨rfl, ⟨[113, 0, 1, 5, 7, 8, 9, 10, 11, 17], rfl⟩, .auto⟩⟩
      rintro s ⟨x1, hx1, hs⟩
      refine ge_ok hs ?_
      refine p_cond (.tmp 113) (by kernel_rfl) rfl (fun h113 => ?_) (fun h113 => ?_)
      rotate_left
      · replace h113 := kn h113
        have h8n := h8
        have hns : ns = if (may && decide (0 ≤ z)) = true then ns.set z.toNat a.n else ns := by rw [← hx1, h113]; simp
        have hnl : ns.length = ns.length := rfl
        refine p_skip0 ?_
        exact ⟨_, _, h8n, hns, hnl, ⟨rfl, ⟨[0, 1, 5, 7, 8, 9, 10, 11, 17], rfl⟩, .auto⟩⟩
      replace h113 := kn h113
      obtain ⟨hmt, h0z⟩ : may = true ∧ 0 ≤ z := by rw [h113] at hx1; simpa using hx1.symm
      obtain ⟨zn, hzn, hzk⟩ := hz.some_ h0z
      have hzl := (List.getElem?_eq_some_iff.1 hzk).1
      have hzl8 : zn < ns.length := by omega
      obtain ⟨b8, cur8, rfl, rfl, hc1, hc2, hc3, H8⟩ := h8.some_ (by omega)
      refine p_plain0 (0 :: 1 :: 2 :: 3 :: 4 :: 5 :: []) ?_
      refine go_q0 114 (.move (.tmp 8)) 29 (qv_move rfl) ?_
      refine go_q0 115 (.move (.tmp 11)) 3 (qv_move rfl) ?_
      refine go_q0 116 (.fieldAddr 88 (.tmp 10) 2) 0 (qv_field rfl fd88_2) ?_
      refine go_q0 117 (.load 30 (.tmp 116)) 30 (qv_load rfl .auto (ldv_sca sc30 (get_Act23_38 _))) ?_
      refine go_q0 118 (.indexAddr 29 (.tmp 114) (.tmp 115)) 0 (qv_index un29 sz30 rfl rfl hzn hzl8) ?_
      refine go_s0 none (.store 30 (.tmp 118) (.tmp 117)) 0 ?_
      refine os_store1 rfl rfl sz30 rfl rfl (by repeat first | exact .here | apply Up.next | apply Up.app) (own_fit hc1 hc3 hzl8) (splice_one (own_fit hc1 hc3 hzl8)).symm ?_
      have h8n := OwnL.put (e := 30) (b := b8) a.n hc1 hc2 hc3 H8 hzl8
      have hns : ns.set zn a.n = if (may && decide (0 ≤ z)) = true then ns.set z.toNat a.n else ns := by rw [← hx1, h113, hzn]; simp
      have hnl : (ns.set zn a.n).length = ns.length := by simp
      refine go_nil ?_
      exact ⟨_, _, h8n, hns, hnl, ⟨rfl, ⟨[0, 1, 5, 7, 8, 9, 10, 11, 17], rfl⟩, .auto⟩⟩
    rintro s ⟨ns1, A8n, h8, hns, hnl, hs⟩
    refine ge_ok hs ?_
    rw [← hnl]
    refine p_seqK [0, 1, 5, 7, 8, 9, 10] rfl (fun frk Mk s => ∃ (x2 : Bool), (x2 = (may && decide (z < 0))) ∧ Ge s ⟨[], (123, .bool x2) :: frk, Mk⟩) (by kernel_rfl) ?_ ?_
    · refine p_plain0 (0 :: 1 :: 2 :: 3 :: 4 :: []) ?_
      refine go_q0 119 (.move (.tmp 17)) 4 (qv_move rfl) ?_
      refine go_q0 120 (.move (.tmp 119)) 4 (qv_move rfl) ?_
      refine go_case (d := 120) rfl (fun g120 => ?_) (fun g120 => ?_)
      · replace g120 := kn g120
        refine go_q (d := 121) (op := .move (.tmp 11)) (ty := 3) (g := some (1, true)) (by kernel_rfl) ⟨120, by kernel_rfl, rfl⟩ rfl (qv_move rfl) ?_
        refine go_q (d := 122) (op := .binOp .lss 3 (.tmp 121) (.const (.int .i64 0)) 3) (ty := 4) (g := some (1, true)) (by kernel_rfl) ⟨120, by kernel_rfl, rfl⟩ rfl (qv_lss rfl rfl rfl) ?_
        refine go_q0 123 (.pick (.tmp 120) (.tmp 122) (.const (.bool false))) 4 (qv_pick_t rfl rfl) ?_
        refine go_nil ?_
        exact ⟨_, by rw [g120]; rfl, ⟨rfl, ⟨[123, 0, 1, 5, 7, 8, 9, 10], rfl⟩, .auto⟩⟩
      replace g120 := kn g120
      refine go_n (d := 121) (op := .move (.tmp 11)) (ty := 3) (g := some (1, true)) (by kernel_rfl) ⟨120, _, by kernel_rfl, rfl, rfl⟩ rfl ?_
      refine go_n (d := 122) (op := .binOp .lss 3 (.tmp 121) (.const (.int .i64 0)) 3) (ty := 4) (g := some (1, true)) (by kernel_rfl) ⟨120, _, by kernel_rfl, rfl, rfl⟩ rfl ?_
      refine go_q0 123 (.pick (.tmp 120) (.tmp 122) (.const (.bool false))) 4 (qv_pick_f rfl rfl) ?_
      refine go_nil ?_
      exact ⟨_, by rw [g120]; rfl, ⟨rfl, ⟨[123, 0, 1, 5, 7, 8, 9, 10], rfl⟩, .auto⟩⟩
    rintro s ⟨x2, hx2, hs⟩
    refine ge_ok hs ?_
    refine p_cond (.tmp 123) (by kernel_rfl) rfl (fun h123 => ?_) (fun h123 => ?_)
    rotate_left
    · replace h123 := kn h123
      obtain ⟨hKn, rfl⟩ : Kp n L1 ks ns1 ∧ many1 = (ks.length : Int) := put_old hK hrel hmay hx2 h123 hns
      have h7n := h7
      have h8n := h8
      refine p_skip0 ?_
      exact ⟨_, _, _, _, _, _, _, _, _, hKn, h7n, h8n, ⟨rfl, ⟨[0, 1, 5, 7, 8, 9], rfl⟩, .auto⟩⟩
    replace h123 := kn h123
    obtain ⟨hKn, rfl⟩ : Kp n L1 (ks ++ [a.k]) (ns1 ++ [a.n]) ∧ many1 = ((ks ++ [a.k]).length : Int) := put_new hrel hmay hx2 h123 hns
    refine p_seq0 ?_
    refine p_plain0 (0 :: 1 :: 2 :: 3 :: 4 :: 5 :: []) ?_
    refine go_q0 124 (.move (.tmp 7)) 86 (qv_move rfl) ?_
    refine go_q0 125 (.fieldAddr 88 (.tmp 10) 1) 0 (qv_field rfl fd88_1) ?_
    refine go_q0 126 (.load 27 (.tmp 125)) 27 (qv_load rfl .auto (ldv_agg agg27 (ext_Act23_1_37 _) (Nat.le_of_ble_eq_true rfl))) ?_
    refine go_s0 (some 127) (.buildSlice 86 1 #[(0, .tmp 126)]) 86 ?_
    refine os_buildSlice (Nat.le_of_ble_eq_true rfl) rfl (bls86_1 _) (fun b127 => ?_)
    refine go_s0 (some 128) (.call { callee := .builtin .append, args := #[.tmp 124, .tmp 127], argTypes := #[86, 86] }) 86 ?_
    refine os_appendK (E := eKey) (l := ks) (l2 := [a.k]) rfl el86 rfl rfl rfl rfl (h7) .auto .auto (Go.E.holds_one _) (one_Key) (by simp [maxLen] <;> omega) (by simp <;> omega) (fun p128 c128 A128 h128 => ?_)
    have h7n := h128
    refine go_q0 7 (.assign (.tmp 128)) 86 (qv_assign rfl) ?_
    refine go_nil ?_
    change G _ _ _ _
    refine p_weaken [0, 1, 5, 7, 8, 9, 10] rfl ?_
    refine p_plain0 (0 :: 1 :: 2 :: 3 :: 4 :: 5 :: []) ?_
    refine go_q0 129 (.move (.tmp 8)) 29 (qv_move rfl) ?_
    refine go_q0 130 (.fieldAddr 88 (.tmp 10) 2) 0 (qv_field rfl fd88_2) ?_
    refine go_q0 131 (.load 30 (.tmp 130)) 30 (qv_load rfl .auto (ldv_sca sc30 (get_Act23_38 _))) ?_
    refine go_s0 (some 132) (.buildSlice 29 1 #[(0, .tmp 131)]) 29 ?_
    refine os_buildSlice (Nat.le_of_ble_eq_true rfl) rfl (bls29_1 _) (fun b132 => ?_)
    refine go_s0 (some 133) (.call { callee := .builtin .append, args := #[.tmp 129, .tmp 132], argTypes := #[29, 29] }) 29 ?_
    refine os_appendK (E := eI .u64) (l := ns1) (l2 := [a.n]) rfl el29 rfl rfl rfl rfl (h8) .auto .auto (Go.E.holds_one _) (eI_one _) (by simp [maxLen] <;> omega) (by simp <;> omega) (fun p133 c133 A133 h133 => ?_)
    have h8n := h133
    refine go_q0 8 (.assign (.tmp 133)) 29 (qv_assign rfl) ?_
    refine go_nil ?_
    exact ⟨_, _, _, _, _, _, _, _, _, hKn, h7n, h8n, ⟨rfl, ⟨[0, 1, 5, 7, 8, 9], rfl⟩, .auto⟩⟩
  replace h85 := kn h85
  refine p_seq0 ?_
  refine p_plain0 (0 :: 1 :: []) ?_
  refine go_q0 134 (.move (.tmp 15)) 3 (qv_move rfl) ?_
  refine go_q0 135 (.binOp .lss 3 (.tmp 134) (.const (.int .i64 7)) 3) 4 (qv_lss rfl rfl rfl) ?_
  refine go_nil ?_
  change G _ _ _ _
  refine p_weaken [0, 1, 5, 7, 8, 9, 10, 11, 13, 135] rfl ?_
  refine p_cond (.tmp 135) (by kernel_rfl) rfl (fun h135 => ?_) (fun h135 => ?_)
  rotate_left
  · replace h135 := kn h135
    have hKn := hK
    have h7n := h7
    have h8n := h8
    refine p_skip0 ?_
    exact ⟨_, _, _, _, _, _, _, _, _, hKn, h7n, h8n, ⟨rfl, ⟨[0, 1, 5, 7, 8, 9], rfl⟩, .auto⟩⟩
  replace h135 := kn h135
  refine p_seq0 ?_
  refine p_seq0 ?_
  refine p_plain0 (0 :: 1 :: 2 :: 3 :: 4 :: 5 :: 6 :: []) ?_
  refine go_q0 136 (.move (.tmp 5)) 83 (qv_move rfl) ?_
  refine go_q0 137 (.fieldAddr 88 (.tmp 10) 1) 0 (qv_field rfl fd88_1) ?_
  refine go_q0 138 (.load 27 (.tmp 137)) 27 (qv_load rfl .auto (ldv_agg agg27 (ext_Act23_1_37 _) (Nat.le_of_ble_eq_true rfl))) ?_
  refine go_s0 (some 139) (.call { callee := .value (.func 44), args := #[.tmp 136, .tmp 138], argTypes := #[83, 27] }) 4 ?_
  refine os_call (Nat.le_of_ble_eq_true rfl) en44 rfl .auto (ct_DelK hn hK hkw hz) ?_
  rintro v139 A139 ⟨L1, many1, rfl, hdel, rfl⟩
  try dsimp only [List.nil_append, List.cons_append]
  refine go_q0 140 (.move (.tmp 11)) 3 (qv_move rfl) ?_
  refine go_q0 141 (.binOp .geq 3 (.tmp 140) (.const (.int .i64 0)) 3) 4 (qv_geq rfl rfl rfl) ?_
  refine go_q0 142 (.binOp .neq 4 (.tmp 139) (.tmp 141) 4) 4 (qv_neqBb (b := false) un4 rfl rfl (by simp)) ?_
  refine go_nil ?_
  change G _ _ _ _
  refine p_weaken [0, 1, 5, 7, 8, 9, 11, 13, 142] rfl ?_
  refine p_condF (.tmp 142) (by kernel_rfl) rfl ?_
  refine p_skip0 ?_
  change G _ _ _ _
  refine p_weaken [0, 1, 5, 7, 8, 9, 11, 13] rfl ?_
  refine p_seq0 ?_
  refine p_seq0 ?_
  refine p_plain0 (0 :: []) ?_
  refine go_q0 18 (.assign (.const (.int .i64 0))) 3 (qv_assign rfl) ?_
  refine go_nil ?_
  change G _ _ _ _
  refine p_block 6 (by kernel_rfl) ?_
  refine p_loopE (by kernel_rfl) (fun s m => ∃ (j : Nat), (j ≤ ks.length) ∧ Ge s ⟨[], [(0, .int .i64 n), (1, .slice (some ⟨ba, oa, none⟩) acts.length cl), (5, .pointer (some ⟨bt, 0, none⟩)), (7, .slice p7 ks.length c7), (8, .slice p8 ns.length c8), (9, .int .i64 i), (11, .int .i64 z), (13, .slice p13 bf.length c13), (18, .int .i64 j)], tabO bt bs n many1 :: slotO bs L1 :: (A13 ++ (A7 ++ (A8 ++ R)))⟩ ∧ m = ks.length + 1 - j) ?_ ?_
  · exact ⟨_, ⟨0, by omega, ⟨rfl, ⟨[0, 1, 5, 7, 8, 9, 11, 13, 18], rfl⟩, .auto⟩, rfl⟩⟩
  rintro s m ⟨j, hj, hs, rfl⟩
  refine ge_ok hs ?_
  refine p_seq0 ?_
  refine p_seq0 ?_
  refine p_plain0 (0 :: 1 :: 2 :: 3 :: []) ?_
  refine go_q0 143 (.move (.tmp 18)) 3 (qv_move rfl) ?_
  refine go_q0 144 (.move (.tmp 7)) 86 (qv_move rfl) ?_
  refine go_q0 145 (.call { callee := .builtin .len, args := #[.tmp 144], argTypes := #[86] }) 3 (qv_lenS un86 rfl) ?_
  refine go_q0 146 (.binOp .lss 3 (.tmp 143) (.tmp 145) 3) 4 (qv_lss rfl rfl rfl) ?_
  refine go_nil ?_
  change G _ _ _ _
  refine p_weaken [0, 1, 5, 7, 8, 9, 11, 13, 18, 146] rfl ?_
  refine p_cond (.tmp 146) (by kernel_rfl) rfl (fun h146 => ?_) (fun h146 => ?_)
  · replace h146 := kn h146
    refine p_skip0 ?_
    change G _ _ _ _
    refine p_weaken [0, 1, 5, 7, 8, 9, 11, 13, 18] rfl ?_
    refine p_seq0 ?_
    refine p_block 7 (by kernel_rfl) ?_
    refine p_seq0 ?_
    obtain ⟨b7, o7, cur7, e7, f7, rfl, m7, H7⟩ := h7.lst.at_ (i := j) (by omega)
    obtain ⟨x, hk⟩ : ∃ x, ks[j]? = some x := ⟨_, List.getElem?_eq_getElem (by omega)⟩
    have hxw := hK.kwf x (List.mem_of_getElem? hk)
    have hbl : bf.length = ks.length := by rw [hbf]; simp
    have hbj : bf[j]? = some (probesV L x) := by rw [hbf, List.getElem?_map, hk]; rfl
    obtain ⟨b13, o13, cur13, e13, f13, rfl, m13, H13⟩ := h13.lst.at_ (i := j) (by omega)
    have hl1 := hdel.len hK
    refine p_draw (by kernel_rfl) mixed 16 16 _ (fun _ h => h) (by kernel_rfl) ?_
    refine gd_all (0 :: 1 :: 2 :: 3 :: 4 :: 5 :: 6 :: 7 :: 8 :: 9 :: 10 :: 11 :: 12 :: 13 :: 14 :: 15 :: []) _ rfl (by kernel_rfl) (by decide) (fun _ h => h) rfl ?_
    refine sq_q0 149 (.move (.tmp 18)) 3 (qv_move rfl) ?_
    refine sq_q0 150 (.move (.tmp 11)) 3 (qv_move rfl) ?_
    refine sq_q0 151 (.binOp .neq 3 (.tmp 149) (.tmp 150) 3) 4 (qv_neq rfl rfl rfl) ?_
    refine sq_q0 152 (.move (.tmp 151)) 4 (qv_move rfl) ?_
    refine sq_case (d := 152) rfl (fun _ => rfl) (fun g152 => ?_) (fun g152 => ?_)
    · replace g152 := kn g152
      refine sq_q (d := 153) (op := .move (.tmp 5)) (ty := 83) (g := some (3, true)) (by kernel_rfl) ⟨152, by kernel_rfl, rfl⟩ (fun _ h => nomatch h) (qv_move rfl) ?_
      refine sq_q (d := 154) (op := .move (.tmp 7)) (ty := 86) (g := some (3, true)) (by kernel_rfl) ⟨152, by kernel_rfl, rfl⟩ (fun _ h => nomatch h) (qv_move rfl) ?_
      refine sq_q (d := 155) (op := .move (.tmp 18)) (ty := 3) (g := some (3, true)) (by kernel_rfl) ⟨152, by kernel_rfl, rfl⟩ (fun _ h => nomatch h) (qv_move rfl) ?_
      refine sq_q (d := 156) (op := .indexAddr 86 (.tmp 154) (.tmp 155)) (ty := 0) (g := some (3, true)) (by kernel_rfl) ⟨152, by kernel_rfl, rfl⟩ (fun _ h => nomatch h) (qv_index un86 sz27 rfl rfl rfl (by omega)) ?_
      refine sq_q (d := 157) (op := .load 27 (.tmp 156)) (ty := 27) (g := some (3, true)) (by kernel_rfl) ⟨152, by kernel_rfl, rfl⟩ (fun _ h => nomatch h) (qv_load rfl (At.of_mem (by repeat first | exact m7 | exact List.mem_append_left _ m7 | apply List.mem_cons_of_mem | apply List.mem_append_right)) (ldv_els H7 hk (by decide) agg27 rfl)) ?_
      refine sq_p (d := 158) (op := .call { callee := .value (.func 40), args := #[.tmp 153, .tmp 157], argTypes := #[83, 27] }) (ty := 3) (g := some (3, true)) (by kernel_rfl) ⟨152, by kernel_rfl, rfl⟩ (pv_callR en40 rfl .auto (ct_ProbesV (many := many1) (bs := bs) (L := L1) hl1 hxw (by omega) (by omega))) ?_
      refine sq_q (d := 159) (op := .move (.tmp 13)) (ty := 89) (g := some (3, true)) (by kernel_rfl) ⟨152, by kernel_rfl, rfl⟩ (fun _ h => nomatch h) (qv_move rfl) ?_
      refine sq_q (d := 160) (op := .move (.tmp 18)) (ty := 3) (g := some (3, true)) (by kernel_rfl) ⟨152, by kernel_rfl, rfl⟩ (fun _ h => nomatch h) (qv_move rfl) ?_
      refine sq_q (d := 161) (op := .indexAddr 89 (.tmp 159) (.tmp 160)) (ty := 0) (g := some (3, true)) (by kernel_rfl) ⟨152, by kernel_rfl, rfl⟩ (fun _ h => nomatch h) (qv_index un89 sz3 rfl rfl rfl (by omega)) ?_
      refine sq_q (d := 162) (op := .load 3 (.tmp 161)) (ty := 3) (g := some (3, true)) (by kernel_rfl) ⟨152, by kernel_rfl, rfl⟩ (fun _ h => nomatch h) (qv_load rfl (At.of_mem (by repeat first | exact m13 | exact List.mem_append_left _ m13 | apply List.mem_cons_of_mem | apply List.mem_append_right)) (ldv_el H13 hbj sc3 (k := 0) rfl rfl)) ?_
      refine sq_q (d := 163) (op := .binOp .gtr 3 (.tmp 158) (.tmp 162) 3) (ty := 4) (g := some (3, true)) (by kernel_rfl) ⟨152, by kernel_rfl, rfl⟩ (fun _ h => nomatch h) (qv_gtr (b := false) rfl rfl (decide_eq_false (by have := hdel.less hk g152; omega))) ?_
      refine sq_q0 164 (.pick (.tmp 152) (.tmp 163) (.const (.bool false))) 4 (qv_pick_t rfl rfl) ?_
      refine SeqK.nil (fun β => ?_)
      refine gd_tail [] rfl (by kernel_rfl) (by kernel_rfl) ?_
      refine go_nil ?_
      change G _ _ _ _
      refine p_weaken [0, 1, 5, 7, 8, 9, 11, 13, 18, 164] rfl ?_
      refine p_condF (.tmp 164) (by kernel_rfl) rfl ?_
      refine p_skip0 ?_
      change G _ _ _ _
      refine p_weaken [0, 1, 5, 7, 8, 9, 11, 13, 18] rfl ?_
      refine p_plain0 (0 :: 1 :: 2 :: []) ?_
      refine go_q0 147 (.move (.tmp 18)) 3 (qv_move rfl) ?_
      refine go_q0 148 (.binOp .add 3 (.tmp 147) (.const (.int .i64 1)) 3) 3 (qv_add rfl rfl (by first | exact IntWalk.i64_in _ (by omega) | exact IntWalk.i64_in _ (by dsimp only; omega) | rfl)) ?_
      refine go_q0 18 (.assign (.tmp 148)) 3 (qv_assign rfl) ?_
      refine go_nil ?_
      exact ⟨_, ⟨j + 1, by omega, ⟨rfl, ⟨[0, 1, 5, 7, 8, 9, 11, 13, 18], rfl⟩, .auto⟩, rfl⟩, by omega⟩
    replace g152 := kn g152
    refine sq_n (d := 153) (op := .move (.tmp 5)) (ty := 83) (g := some (3, true)) (by kernel_rfl) ⟨152, _, by kernel_rfl, rfl, rfl⟩ ?_
    refine sq_n (d := 154) (op := .move (.tmp 7)) (ty := 86) (g := some (3, true)) (by kernel_rfl) ⟨152, _, by kernel_rfl, rfl, rfl⟩ ?_
    refine sq_n (d := 155) (op := .move (.tmp 18)) (ty := 3) (g := some (3, true)) (by kernel_rfl) ⟨152, _, by kernel_rfl, rfl, rfl⟩ ?_
    refine sq_n (d := 156) (op := .indexAddr 86 (.tmp 154) (.tmp 155)) (ty := 0) (g := some (3, true)) (by kernel_rfl) ⟨152, _, by kernel_rfl, rfl, rfl⟩ ?_
    refine sq_n (d := 157) (op := .load 27 (.tmp 156)) (ty := 27) (g := some (3, true)) (by kernel_rfl) ⟨152, _, by kernel_rfl, rfl, rfl⟩ ?_
    refine sq_n (d := 158) (op := .call { callee := .value (.func 40), args := #[.tmp 153, .tmp 157], argTypes := #[83, 27] }) (ty := 3) (g := some (3, true)) (by kernel_rfl) ⟨152, _, by kernel_rfl, rfl, rfl⟩ ?_
    refine sq_n (d := 159) (op := .move (.tmp 13)) (ty := 89) (g := some (3, true)) (by kernel_rfl) ⟨152, _, by kernel_rfl, rfl, rfl⟩ ?_
    refine sq_n (d := 160) (op := .move (.tmp 18)) (ty := 3) (g := some (3, true)) (by kernel_rfl) ⟨152, _, by kernel_rfl, rfl, rfl⟩ ?_
    refine sq_n (d := 161) (op := .indexAddr 89 (.tmp 159) (.tmp 160)) (ty := 0) (g := some (3, true)) (by kernel_rfl) ⟨152, _, by kernel_rfl, rfl, rfl⟩ ?_
    refine sq_n (d := 162) (op := .load 3 (.tmp 161)) (ty := 3) (g := some (3, true)) (by kernel_rfl) ⟨152, _, by kernel_rfl, rfl, rfl⟩ ?_
    refine sq_n (d := 163) (op := .binOp .gtr 3 (.tmp 158) (.tmp 162) 3) (ty := 4) (g := some (3, true)) (by kernel_rfl) ⟨152, _, by kernel_rfl, rfl, rfl⟩ ?_
    refine sq_q0 164 (.pick (.tmp 152) (.tmp 163) (.const (.bool false))) 4 (qv_pick_f rfl rfl) ?_
    refine SeqK.nil (fun β => ?_)
    refine gd_tail [] rfl (by kernel_rfl) (by kernel_rfl) ?_
    refine go_nil ?_
    change G _ _ _ _
    refine p_weaken [0, 1, 5, 7, 8, 9, 11, 13, 18, 164] rfl ?_
    refine p_condF (.tmp 164) (by kernel_rfl) rfl ?_
    refine p_skip0 ?_
    change G _ _ _ _
    refine p_weaken [0, 1, 5, 7, 8, 9, 11, 13, 18] rfl ?_
    refine p_plain0 (0 :: 1 :: 2 :: []) ?_
    refine go_q0 147 (.move (.tmp 18)) 3 (qv_move rfl) ?_
    refine go_q0 148 (.binOp .add 3 (.tmp 147) (.const (.int .i64 1)) 3) 3 (qv_add rfl rfl (by first | exact IntWalk.i64_in _ (by omega) | exact IntWalk.i64_in _ (by dsimp only; omega) | rfl)) ?_
    refine go_q0 18 (.assign (.tmp 148)) 3 (qv_assign rfl) ?_
    refine go_nil ?_
    exact ⟨_, ⟨j + 1, by omega, ⟨rfl, ⟨[0, 1, 5, 7, 8, 9, 11, 13, 18], rfl⟩, .auto⟩, rfl⟩, by omega⟩
  replace h146 := kn h146
  refine p_exit 6 (by kernel_rfl) ?_
  change G _ _ _ _
  refine p_weaken [0, 1, 5, 7, 8, 9, 11] rfl ?_
  refine p_seq0 ?_
  refine p_plain0 (0 :: 1 :: []) ?_
  refine go_q0 165 (.move (.tmp 11)) 3 (qv_move rfl) ?_
  refine go_q0 166 (.binOp .geq 3 (.tmp 165) (.const (.int .i64 0)) 3) 4 (qv_geq rfl rfl rfl) ?_
  refine go_nil ?_
  change G _ _ _ _
  refine p_weaken [0, 1, 5, 7, 8, 9, 11, 166] rfl ?_
  refine p_cond (.tmp 166) (by kernel_rfl) rfl (fun h166 => ?_) (fun h166 => ?_)
  rotate_left
  · replace h166 := kn h166
    obtain ⟨hKn, rfl⟩ := hdel.none_ hK h166
    have h7n := h7
    have h8n := h8
    refine p_skip0 ?_
    exact ⟨_, _, _, _, _, _, _, _, _, hKn, h7n, h8n, ⟨rfl, ⟨[0, 1, 5, 7, 8, 9], rfl⟩, .auto⟩⟩
  replace h166 := kn h166
  obtain ⟨zn, hzn, hzl, hKn, rfl⟩ := hdel.some_ h166
  refine p_seq0 ?_
  obtain ⟨b7, cur7, rfl, rfl, hc1, hc2, hc3, H7⟩ := h7.some_ (by omega)
  obtain ⟨b8, cur8, rfl, rfl, hd1, hd2, hd3, H8⟩ := h8.some_ (by omega)
  have hzl8 : zn < ns.length := by omega
  obtain ⟨kl, hkl⟩ : ∃ kl, ks[ks.length - 1]? = some kl := ⟨_, List.getElem?_eq_getElem (by omega)⟩
  obtain ⟨nl, hnl⟩ : ∃ nl, ns[ns.length - 1]? = some nl := ⟨_, List.getElem?_eq_getElem (by omega)⟩
  refine p_plain0 (0 :: 1 :: 2 :: 3 :: 4 :: 5 :: 6 :: 7 :: 8 :: 9 :: []) ?_
  refine go_q0 167 (.move (.tmp 7)) 86 (qv_move rfl) ?_
  refine go_q0 168 (.move (.tmp 11)) 3 (qv_move rfl) ?_
  refine go_q0 169 (.move (.tmp 7)) 86 (qv_move rfl) ?_
  refine go_q0 170 (.move (.tmp 7)) 86 (qv_move rfl) ?_
  refine go_q0 171 (.call { callee := .builtin .len, args := #[.tmp 170], argTypes := #[86] }) 3 (qv_lenS un86 rfl) ?_
  refine go_q0 172 (.binOp .sub 3 (.tmp 171) (.const (.int .i64 1)) 3) 3 (qv_sub rfl rfl (by first | exact IntWalk.i64_in _ (by omega) | exact IntWalk.i64_in _ (by dsimp only; omega) | rfl)) ?_
  refine go_q0 173 (.indexAddr 86 (.tmp 169) (.tmp 172)) 0 (qv_index un86 sz27 rfl rfl (show (ks.length : Int) - 1 = ((ks.length - 1 : Nat) : Int) by omega) (by omega)) ?_
  refine go_q0 174 (.load 27 (.tmp 173)) 27 (qv_load rfl .auto (ldv_els H7 hkl (by decide) agg27 rfl)) ?_
  refine go_q0 175 (.indexAddr 86 (.tmp 167) (.tmp 168)) 0 (qv_index un86 sz27 rfl rfl hzn hzl) ?_
  refine go_s0 none (.store 27 (.tmp 175) (.tmp 174)) 0 ?_
  refine os_store rfl rfl sz27 rfl (one_Key _) (by repeat first | exact .here | apply Up.next | apply Up.app) (own_fit hc1 hc3 hzl) rfl ?_
  have h7p := OwnL.put (e := 27) (b := b7) kl hc1 hc2 hc3 H7 hzl
  have h7n := (swapOut_eq hkl zn).symm ▸ h7p.cut (ks.length - 1)
  refine go_nil ?_
  change G _ _ _ _
  refine p_weaken [0, 1, 5, 7, 8, 9, 11] rfl ?_
  refine p_seq0 ?_
  refine p_plain0 (0 :: 1 :: 2 :: 3 :: 4 :: 5 :: 6 :: 7 :: 8 :: 9 :: []) ?_
  refine go_q0 176 (.move (.tmp 8)) 29 (qv_move rfl) ?_
  refine go_q0 177 (.move (.tmp 11)) 3 (qv_move rfl) ?_
  refine go_q0 178 (.move (.tmp 8)) 29 (qv_move rfl) ?_
  refine go_q0 179 (.move (.tmp 8)) 29 (qv_move rfl) ?_
  refine go_q0 180 (.call { callee := .builtin .len, args := #[.tmp 179], argTypes := #[29] }) 3 (qv_lenS un29 rfl) ?_
  refine go_q0 181 (.binOp .sub 3 (.tmp 180) (.const (.int .i64 1)) 3) 3 (qv_sub rfl rfl (by first | exact IntWalk.i64_in _ (by omega) | exact IntWalk.i64_in _ (by dsimp only; omega) | rfl)) ?_
  refine go_q0 182 (.indexAddr 29 (.tmp 178) (.tmp 181)) 0 (qv_index un29 sz30 rfl rfl (show (ns.length : Int) - 1 = ((ns.length - 1 : Nat) : Int) by omega) (by omega)) ?_
  refine go_q0 183 (.load 30 (.tmp 182)) 30 (qv_load rfl .auto (ldv_el H8 hnl sc30 (k := 0) rfl rfl)) ?_
  refine go_q0 184 (.indexAddr 29 (.tmp 176) (.tmp 177)) 0 (qv_index un29 sz30 rfl rfl hzn hzl8) ?_
  refine go_s0 none (.store 30 (.tmp 184) (.tmp 183)) 0 ?_
  refine os_store1 rfl rfl sz30 rfl rfl (by repeat first | exact .here | apply Up.next | apply Up.app) (own_fit hd1 hd3 hzl8) (splice_one (own_fit hd1 hd3 hzl8)).symm ?_
  have h8p := OwnL.put (e := 30) (b := b8) nl hd1 hd2 hd3 H8 hzl8
  have h8n := (swapOut_eq hnl zn).symm ▸ h8p.cut (ns.length - 1)
  refine go_nil ?_
  change G _ _ _ _
  refine p_weaken [0, 1, 5, 7, 8, 9] rfl ?_
  refine p_seq0 ?_
  refine p_plain0 (0 :: 1 :: 2 :: 3 :: 4 :: 5 :: []) ?_
  refine go_q0 185 (.move (.tmp 7)) 86 (qv_move rfl) ?_
  refine go_q0 186 (.move (.tmp 7)) 86 (qv_move rfl) ?_
  refine go_q0 187 (.call { callee := .builtin .len, args := #[.tmp 186], argTypes := #[86] }) 3 (qv_lenS un86 rfl) ?_
  refine go_q0 188 (.binOp .sub 3 (.tmp 187) (.const (.int .i64 1)) 3) 3 (qv_sub rfl rfl (by first | exact IntWalk.i64_in _ (by omega) | exact IntWalk.i64_in _ (by dsimp only; omega) | rfl)) ?_
  refine go_q0 189 (.slice 86 (.tmp 185) none (some (.tmp 188)) none) 86 (qv_cutO (h := (swapOut ks zn).length) h7n un86 sz27 rfl rfl (by rw [swapOut_len hzl]; omega) (by rw [swapOut_len hzl]; omega)) ?_
  refine go_q0 7 (.assign (.tmp 189)) 86 (qv_assign rfl) ?_
  refine go_nil ?_
  change G _ _ _ _
  refine p_weaken [0, 1, 5, 7, 8, 9] rfl ?_
  refine p_plain0 (0 :: 1 :: 2 :: 3 :: 4 :: 5 :: []) ?_
  refine go_q0 190 (.move (.tmp 8)) 29 (qv_move rfl) ?_
  refine go_q0 191 (.move (.tmp 8)) 29 (qv_move rfl) ?_
  refine go_q0 192 (.call { callee := .builtin .len, args := #[.tmp 191], argTypes := #[29] }) 3 (qv_lenS un29 rfl) ?_
  refine go_q0 193 (.binOp .sub 3 (.tmp 192) (.const (.int .i64 1)) 3) 3 (qv_sub rfl rfl (by first | exact IntWalk.i64_in _ (by omega) | exact IntWalk.i64_in _ (by dsimp only; omega) | rfl)) ?_
  refine go_q0 194 (.slice 29 (.tmp 190) none (some (.tmp 193)) none) 29 (qv_cutO (h := (swapOut ns zn).length) h8n un29 sz30 rfl rfl (by rw [swapOut_len hzl8]; omega) (by rw [swapOut_len hzl8]; omega)) ?_
  refine go_q0 8 (.assign (.tmp 194)) 29 (qv_assign rfl) ?_
  refine go_nil ?_
  exact ⟨_, _, _, _, _, _, _, _, _, hKn, h7n, h8n, ⟨rfl, ⟨[0, 1, 5, 7, 8, 9], rfl⟩, .auto⟩⟩
theorem ct_TableKeepsAll (s : Int) (acts : List Act23) (R : Mem) (pl : Option Addr) (cl : Nat) (hl : Lst eAct23 pl acts R) (hwf : ∀ a ∈ acts, a.Wf) :
    Ct Try.prog 6 [.int .i64 s, .slice pl acts.length cl].toArray R (fun v M' => v = .bool true ∧ M' = R) := by
  cases h : okSize s with
  | false => exact ct_TableKeepsBad s acts R pl cl h
  | true =>
    obtain ⟨n, rfl⟩ : ∃ n : Nat, s = n := ⟨s.toNat, by have := (okSize_pos h).1; omega⟩
    exact ct_TableKeeps n acts R pl cl h hl fun a ha => (hwf a ha).k_
end Go.Proofs.Ytobmcpoejhhemaa
