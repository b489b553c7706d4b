/- The law TableNone: the walk. -/
import Derived.Test.YtobmcpoejhhemaaNone
namespace Go.Proofs.Ytobmcpoejhhemaa
open Go.E

def ixIn (ops : Array Oper) : Option Value := ops.toList.findSome? fun o => match o.op with
  | .index _ (.const v) _ => some v
  | _ => none
def ixCode : Code → Option Value
  | .region _ ops _ => ixIn ops
  | .seq a b => (ixCode a).or (ixCode b)
  | .cond _ a b => (ixCode a).or (ixCode b)
  | .block _ b => ixCode b
  | .loop b => ixCode b
  | _ => none
/-- The constant row of bit lengths, as the code has it. -/
noncomputable def len8 : Value := (ixCode (bodyOf Try.f176)).getD undef
theorem pu_Len64_0 : Pu Try.prog 176 [.int .u64 0] (.int .i64 0) := by
  refine ct_body (rv := [.tmp 2]) [(0, _)] Try.func176 (by kernel_rfl) Try.ntmps176 Try.results176 rfl rfl (fun w0 => ?_)
  refine p_seq0 ?_
  refine p_plain0 (0 :: []) ?_
  refine go_q0 2 (.assign (.const (.int .i64 0))) 3 (qv_assign rfl) ?_
  refine go_nil ?_
  change G _ _ _ _
  refine p_seq0 ?_
  refine p_seq0 ?_
  refine p_plain0 (0 :: 1 :: []) ?_
  refine go_q0 3 (.move (.tmp 0)) 30 (qv_move rfl) ?_
  refine go_q0 4 (.binOp .geq 30 (.tmp 3) (.const (.int .u64 4294967296)) 30) 4 (qv_geq (b := false) rfl rfl (decide_eq_false (by omega))) ?_
  refine go_nil ?_
  change G _ _ _ _
  refine p_weaken [0, 2, 4] rfl ?_
  refine p_condF (.tmp 4) (by kernel_rfl) rfl ?_
  refine p_skip0 ?_
  change G _ _ _ _
  refine p_weaken [0, 2] rfl ?_
  refine p_seq0 ?_
  refine p_seq0 ?_
  refine p_plain0 (0 :: 1 :: []) ?_
  refine go_q0 7 (.move (.tmp 0)) 30 (qv_move rfl) ?_
  refine go_q0 8 (.binOp .geq 30 (.tmp 7) (.const (.int .u64 65536)) 30) 4 (qv_geq (b := false) rfl rfl (decide_eq_false (by omega))) ?_
  refine go_nil ?_
  change G _ _ _ _
  refine p_weaken [0, 2, 8] rfl ?_
  refine p_condF (.tmp 8) (by kernel_rfl) rfl ?_
  refine p_skip0 ?_
  change G _ _ _ _
  refine p_weaken [0, 2] rfl ?_
  refine p_seq0 ?_
  refine p_seq0 ?_
  refine p_plain0 (0 :: 1 :: []) ?_
  refine go_q0 13 (.move (.tmp 0)) 30 (qv_move rfl) ?_
  refine go_q0 14 (.binOp .geq 30 (.tmp 13) (.const (.int .u64 256)) 30) 4 (qv_geq (b := false) rfl rfl (decide_eq_false (by omega))) ?_
  refine go_nil ?_
  change G _ _ _ _
  refine p_weaken [0, 2, 14] rfl ?_
  refine p_condF (.tmp 14) (by kernel_rfl) rfl ?_
  refine p_skip0 ?_
  change G _ _ _ _
  refine p_weaken [0, 2] rfl ?_
  refine p_seq0 ?_
  refine p_plain0 (0 :: 1 :: 2 :: 3 :: 4 :: 5 :: 6 :: []) ?_
  refine go_q0 19 (.move (.tmp 2)) 3 (qv_move rfl) ?_
  refine go_q0 20 (.move (.tmp 0)) 30 (qv_move rfl) ?_
  refine go_q0 21 (.convert 30 5 (.tmp 20)) 5 (qv_conv un30 un5 rfl (by first | exact IntWalk.u8_in _ (by omega) | rfl)) ?_
  refine go_q0 22 (.index 9 (.const len8) (.tmp 21)) 5 (qv_ix (v := .int .u8 0) rfl rfl (fun _ => by kernel_rfl)) ?_
  refine go_q0 23 (.convert 5 3 (.tmp 22)) 3 (qv_conv un5 un3 rfl (by first | exact IntWalk.i64_in _ (by omega) | rfl)) ?_
  refine go_q0 24 (.binOp .add 3 (.tmp 19) (.tmp 23) 3) 3 (qv_add rfl rfl (by first | exact IntWalk.i64_in _ (by omega) | exact IntWalk.i64_in _ (by dsimp only; omega) | rfl)) ?_
  refine go_q0 2 (.assign (.tmp 24)) 3 (qv_assign rfl) ?_
  refine go_nil ?_
  change G _ _ _ _
  refine p_weaken [2] rfl ?_
  refine p_ret0 ?_
  try dsimp only [thenQ, inBlockQ]
  try rw [if_pos rfl]
  refine ret_now (.inr rfl) (.cons (res_tmp rfl) .nil) (by repeat constructor) ?_
  exact ⟨rfl, rfl⟩
theorem pu_bitsLen0 : Pu Try.prog 139 [.int .u64 0] (.int .i64 0) := by
  refine ct_body (rv := [.tmp 2]) [(0, _)] Try.func139 (by kernel_rfl) Try.ntmps139 Try.results139 rfl rfl (fun w0 => ?_)
  refine p_seq0 ?_
  refine p_plain0 (0 :: []) ?_
  refine go_q0 2 (.assign (.const (.int .i64 0))) 3 (qv_assign rfl) ?_
  refine go_nil ?_
  change G _ _ _ _
  refine p_seq0 ?_
  refine p_condF (.const (.bool false)) (by kernel_rfl) rfl ?_
  refine p_skip0 ?_
  change G _ _ _ _
  refine p_seq0 ?_
  refine p_plain0 (0 :: 1 :: 2 :: []) ?_
  refine go_q0 6 (.move (.tmp 0)) 220 (qv_move rfl) ?_
  refine go_s0 (some 7) (.call { callee := .value (.func 176), args := #[.tmp 6], argTypes := #[30] }) 3 ?_
  refine os_callP rfl en176 rfl (pu_Len64_0) ?_
  refine go_q0 2 (.assign (.tmp 7)) 3 (qv_assign rfl) ?_
  refine go_nil ?_
  change G _ _ _ _
  refine p_weaken [2] rfl ?_
  refine p_ret0 ?_
  try dsimp only [thenQ, inBlockQ]
  try rw [if_pos rfl]
  refine ret_now (.inr rfl) (.cons (res_tmp rfl) .nil) (by repeat constructor) ?_
  exact ⟨rfl, rfl⟩
theorem pu_insert0 (f : Value) : Pu Try.prog 190 [.slice none 0 0, .int .i64 0, .int .i64 0, f] (.tuple #[]) := by
  refine ct_body (rv := []) [(0, _), (1, _), (2, _), (3, _)] Try.func190 (by kernel_rfl) Try.ntmps190 Try.results190 rfl rfl (fun w0 => ?_)
  refine p_seq0 ?_
  refine p_plain0 (0 :: 1 :: 2 :: []) ?_
  refine go_q0 10 (.move (.tmp 1)) 3 (qv_move rfl) ?_
  refine go_q0 11 (.binOp .add 3 (.tmp 10) (.const (.int .i64 1)) 3) 3 (qv_add rfl rfl (by first | exact IntWalk.i64_in _ (by omega) | exact IntWalk.i64_in _ (by dsimp only; omega) | rfl)) ?_
  refine go_q0 8 (.assign (.tmp 11)) 3 (qv_assign rfl) ?_
  refine go_nil ?_
  change G _ _ _ _
  refine p_weaken [0, 1, 2, 3, 8] rfl ?_
  refine p_block 0 (by kernel_rfl) ?_
  refine p_loopE (by kernel_rfl) (fun s m => Ge s ⟨[], [(2, .int .i64 0), (8, .int .i64 1)], []⟩ ∧ m = 0) ?_ ?_
  · exact ⟨_, ⟨⟨rfl, ⟨[2, 8], rfl⟩, .auto⟩, rfl⟩⟩
  rintro s m ⟨hs, rfl⟩
  refine ge_ok hs ?_
  refine p_seq0 ?_
  refine p_seq0 ?_
  refine p_plain0 (0 :: 1 :: 2 :: []) ?_
  refine go_q0 12 (.move (.tmp 8)) 3 (qv_move rfl) ?_
  refine go_q0 13 (.move (.tmp 2)) 3 (qv_move rfl) ?_
  refine go_q0 14 (.binOp .lss 3 (.tmp 12) (.tmp 13) 3) 4 (qv_lss (b := false) rfl rfl (decide_eq_false (by omega))) ?_
  refine go_nil ?_
  change G _ _ _ _
  refine p_weaken [2, 8, 14] rfl ?_
  refine p_condF (.tmp 14) (by kernel_rfl) rfl ?_
  refine p_exit 0 (by kernel_rfl) ?_
  try dsimp only [thenQ, inBlockQ]
  try rw [if_pos rfl]
  refine ret_now (.inl rfl) .nil (by repeat constructor) ?_
  exact ⟨rfl, rfl⟩
theorem pu_pdq0 (f : Value) (lim : Int) : Pu Try.prog 160 [.slice none 0 0, .int .i64 0, .int .i64 0, .int .i64 lim, f] (.tuple #[]) := by
  refine ct_body (rv := []) [(0, _), (1, _), (2, _), (3, _), (4, _)] Try.func160 (by kernel_rfl) Try.ntmps160 Try.results160 rfl rfl (fun w0 => ?_)
  refine p_seq0 ?_
  refine p_plain0 (0 :: []) ?_
  refine go_q0 10 (.assign (.const (.bool true))) 4 (qv_assign rfl) ?_
  refine go_nil ?_
  change G _ _ _ _
  refine p_seq0 ?_
  refine p_plain0 (0 :: []) ?_
  refine go_q0 11 (.assign (.const (.bool true))) 4 (qv_assign rfl) ?_
  refine go_nil ?_
  change G _ _ _ _
  refine p_block 0 (by kernel_rfl) ?_
  refine p_loopE (by kernel_rfl) (fun s m => Ge s ⟨[], [(0, .slice none 0 0), (1, .int .i64 0), (2, .int .i64 0), (4, f)], []⟩ ∧ m = 0) ?_ ?_
  · exact ⟨_, ⟨⟨rfl, ⟨[0, 1, 2, 4], rfl⟩, .auto⟩, rfl⟩⟩
  rintro s m ⟨hs, rfl⟩
  refine ge_ok hs ?_
  refine p_block 1 (by kernel_rfl) ?_
  refine p_seq0 ?_
  refine p_plain0 (0 :: 1 :: 2 :: 3 :: []) ?_
  refine go_q0 21 (.move (.tmp 2)) 3 (qv_move rfl) ?_
  refine go_q0 22 (.move (.tmp 1)) 3 (qv_move rfl) ?_
  refine go_q0 23 (.binOp .sub 3 (.tmp 21) (.tmp 22) 3) 3 (qv_sub rfl rfl (by first | exact IntWalk.i64_in _ (by omega) | exact IntWalk.i64_in _ (by dsimp only; omega) | rfl)) ?_
  refine go_q0 12 (.assign (.tmp 23)) 3 (qv_assign rfl) ?_
  refine go_nil ?_
  change G _ _ _ _
  refine p_weaken [0, 1, 2, 4, 12] rfl ?_
  refine p_seq0 ?_
  refine p_seq0 ?_
  refine p_plain0 (0 :: 1 :: []) ?_
  refine go_q0 24 (.move (.tmp 12)) 3 (qv_move rfl) ?_
  refine go_q0 25 (.binOp .leq 3 (.tmp 24) (.const (.int .i64 12)) 3) 4 (qv_leq (b := true) rfl rfl (decide_eq_true (by omega))) ?_
  refine go_nil ?_
  change G _ _ _ _
  refine p_weaken [0, 1, 2, 4, 12, 25] rfl ?_
  refine p_condT (.tmp 25) (by kernel_rfl) rfl ?_
  refine p_seq0 ?_
  refine p_plain0 (0 :: 1 :: 2 :: 3 :: 4 :: []) ?_
  refine go_q0 26 (.move (.tmp 0)) 86 (qv_move rfl) ?_
  refine go_q0 27 (.move (.tmp 1)) 3 (qv_move rfl) ?_
  refine go_q0 28 (.move (.tmp 2)) 3 (qv_move rfl) ?_
  refine go_q0 29 (.move (.tmp 4)) 202 (qv_move rfl) ?_
  refine go_s0 (some 30) (.call { callee := .value (.func 190), args := #[.tmp 26, .tmp 27, .tmp 28, .tmp 29], argTypes := #[86, 3, 3, 202] }) 0 ?_
  refine os_callP rfl en190 rfl (pu_insert0 f) ?_
  refine go_nil ?_
  change G _ _ _ _
  refine p_weaken [0, 1, 2, 4, 12] rfl ?_
  refine p_ret0 ?_
  try dsimp only [thenQ, inBlockQ]
  try rw [if_pos rfl]
  refine ret_now (.inr rfl) .nil (by repeat constructor) ?_
  exact ⟨rfl, rfl⟩
theorem pu_Sort0 (f : Value) : Pu Try.prog 120 [.slice none 0 0, f] (.tuple #[]) := by
  refine ct_body (rv := []) [(0, _), (1, _)] Try.func120 (by kernel_rfl) Try.ntmps120 Try.results120 rfl rfl (fun w0 => ?_)
  refine p_seq0 ?_
  refine p_plain0 (0 :: 1 :: 2 :: []) ?_
  refine go_q0 5 (.move (.tmp 0)) 86 (qv_move rfl) ?_
  refine go_q0 6 (.call { callee := .builtin .len, args := #[.tmp 5], argTypes := #[86] }) 3 (qv_lenS un86 rfl) ?_
  refine go_q0 4 (.assign (.tmp 6)) 3 (qv_assign rfl) ?_
  refine go_nil ?_
  change G _ _ _ _
  refine p_weaken [0, 1, 4] rfl ?_
  refine p_plain0 (0 :: 1 :: 2 :: 3 :: 4 :: 5 :: 6 :: []) ?_
  refine go_q0 7 (.move (.tmp 0)) 86 (qv_move rfl) ?_
  refine go_q0 8 (.move (.tmp 4)) 3 (qv_move rfl) ?_
  refine go_q0 9 (.move (.tmp 4)) 3 (qv_move rfl) ?_
  refine go_q0 10 (.convert 3 220 (.tmp 9)) 220 (qv_conv un3 un220 rfl (by first | exact IntWalk.u64_in _ (by omega) | rfl)) ?_
  refine go_s0 (some 11) (.call { callee := .value (.func 139), args := #[.tmp 10], argTypes := #[220] }) 3 ?_
  refine os_callP rfl en139 rfl (pu_bitsLen0) ?_
  refine go_q0 12 (.move (.tmp 1)) 202 (qv_move rfl) ?_
  refine go_s0 (some 13) (.call { callee := .value (.func 160), args := #[.tmp 7, .const (.int .i64 0), .tmp 8, .tmp 11, .tmp 12], argTypes := #[86, 3, 3, 3, 202] }) 0 ?_
  refine os_callP rfl en160 rfl (pu_pdq0 f 0) ?_
  refine go_nil ?_
  try dsimp only [thenQ, inBlockQ]
  try rw [if_pos rfl]
  refine ret_now (.inl rfl) .nil (by repeat constructor) ?_
  exact ⟨rfl, rfl⟩
theorem pu_Keys0 : Pu Try.prog 68 [.pointer none] (.slice none 0 0) := by
  refine ct_body (rv := [.tmp 2]) [(0, _)] Try.func68 (by kernel_rfl) Try.ntmps68 Try.results68 rfl rfl (fun w0 => ?_)
  refine p_seq0 ?_
  refine p_plain0 (0 :: []) ?_
  refine go_q0 2 (.assign (.const (.slice none 0 0))) 86 (qv_assign rfl) ?_
  refine go_nil ?_
  change G _ _ _ _
  refine p_seq0 ?_
  refine p_plain0 (0 :: 1 :: 2 :: []) ?_
  refine go_q0 6 (.move (.tmp 0)) 83 (qv_move rfl) ?_
  refine go_q0 7 (.makeFunc (.func 67) #[.tmp 6] #[]) 125 (qv_makeFunc1 (ps := [.tmp 6]) (cs := []) rfl rfl) ?_
  refine go_q0 3 (.assign (.tmp 7)) 125 (qv_assign rfl) ?_
  refine go_nil ?_
  change G _ _ _ _
  refine p_weaken [2, 3] rfl ?_
  refine p_seq0 ?_
  refine p_seq0 ?_
  refine p_plain0 (0 :: 1 :: 2 :: 3 :: []) ?_
  refine go_q0 8 (.move (.tmp 3)) 125 (qv_move rfl) ?_
  refine go_s0 (some 9) (.call { callee := .value (.tmp 8), args := #[], argTypes := #[] }) 124 ?_
  refine os_callV1 rfl rfl en67 rfl rfl .nil pu_Slots0 (fun v9 A9 h9 => ?_)
  obtain ⟨rfl, rfl⟩ := h9
  try dsimp only [List.nil_append, List.cons_append]
  refine go_q0 10 (.call { callee := .builtin .len, args := #[.tmp 9], argTypes := #[124] }) 3 (qv_lenS un124 rfl) ?_
  refine go_q0 11 (.move (.const (.int .i64 0))) 3 (qv_move rfl) ?_
  refine go_nil ?_
  change G _ _ _ _
  refine p_weaken [2, 9, 10, 11] rfl ?_
  refine p_block 0 (by kernel_rfl) ?_
  refine p_loopE (by kernel_rfl) (fun s m => Ge s ⟨[], [(2, .slice none 0 0), (10, .int .i64 0), (11, .int .i64 0)], []⟩ ∧ m = 0) ?_ ?_
  · exact ⟨_, ⟨⟨rfl, ⟨[2, 10, 11], rfl⟩, .auto⟩, rfl⟩⟩
  rintro s m ⟨hs, rfl⟩
  refine ge_ok hs ?_
  refine p_seq0 ?_
  refine p_plain0 (0 :: []) ?_
  refine go_q0 12 (.binOp .lss 3 (.tmp 11) (.tmp 10) 3) 0 (qv_lss (b := false) rfl rfl (decide_eq_false (by omega))) ?_
  refine go_nil ?_
  change G _ _ _ _
  refine p_seq0 ?_
  refine p_condF (.tmp 12) (by kernel_rfl) rfl ?_
  refine p_exit 0 (by kernel_rfl) ?_
  change G _ _ _ _
  refine p_weaken [2] rfl ?_
  refine p_seq0 ?_
  refine p_plain0 (0 :: 1 :: []) ?_
  refine go_q0 23 (.move (.tmp 2)) 86 (qv_move rfl) ?_
  refine go_s0 (some 24) (.call { callee := .value (.func 120), args := #[.tmp 23, .func 121], argTypes := #[86, 202] }) 0 ?_
  refine os_callP rfl en120 rfl (pu_Sort0 _) ?_
  refine go_nil ?_
  change G _ _ _ _
  refine p_weaken [2] rfl ?_
  refine p_seq0 ?_
  refine p_plain0 (0 :: 1 :: []) ?_
  refine go_q0 25 (.move (.tmp 2)) 86 (qv_move rfl) ?_
  refine go_q0 2 (.assign (.tmp 25)) 86 (qv_assign rfl) ?_
  refine go_nil ?_
  change G _ _ _ _
  refine p_weaken [2] rfl ?_
  refine p_ret0 ?_
  try dsimp only [thenQ, inBlockQ]
  try rw [if_pos rfl]
  refine ret_now (.inr rfl) (.cons (res_tmp rfl) .nil) (by repeat constructor) ?_
  exact ⟨rfl, rfl⟩
theorem pu_TableNone (k : Key) (n : Int) : Pu Try.prog 9 [.agg k.c, .int .u64 n] (.bool true) := by
  refine ct_body (rv := [.tmp 4]) [(0, _), (1, _)] Try.func9 (by kernel_rfl) Try.ntmps9 Try.results9 rfl rfl (fun w0 => ?_)
  refine p_seq0 ?_
  refine p_plain0 (0 :: 1 :: []) ?_
  refine go_s0 (some 2) (.box 27 (.tmp 0)) 0 ?_
  refine os_boxA rfl rfl (fun b2 => ?_)
  refine go_q0 4 (.assign (.const (.bool false))) 4 (qv_assign rfl) ?_
  refine go_nil ?_
  change G _ _ _ _
  refine p_weaken [1, 2, 4] rfl ?_
  refine p_seq0 ?_
  refine p_plain0 (0 :: []) ?_
  refine go_q0 5 (.assign (.const (.pointer none))) 83 (qv_assign rfl) ?_
  refine go_nil ?_
  change G _ _ _ _
  refine p_seq0 ?_
  refine p_plain0 (0 :: 1 :: 2 :: 3 :: 4 :: 5 :: 6 :: 7 :: []) ?_
  refine go_q0 9 (.move (.tmp 5)) 83 (qv_move rfl) ?_
  refine go_q0 10 (.load 27 (.tmp 2)) 27 (qv_load rfl .auto (ldv_agg agg27 (extw_Key _) (Nat.le_of_ble_eq_true rfl))) ?_
  refine go_s0 (some 11) (.call { callee := .value (.func 46), args := #[.tmp 9, .tmp 10], argTypes := #[83, 27] }) 95 ?_
  refine os_callP rfl en46 rfl (pu_Get0 k) ?_
  refine go_q0 8 (.move (.tmp 11)) 95 (qv_move rfl) ?_
  refine go_q0 12 (.extract (.tmp 8) 0) 30 (qv_extract rfl rfl) ?_
  refine go_q0 13 (.extract (.tmp 8) 1) 4 (qv_extract rfl rfl) ?_
  refine go_q0 6 (.assign (.tmp 12)) 30 (qv_assign rfl) ?_
  refine go_q0 7 (.assign (.tmp 13)) 4 (qv_assign rfl) ?_
  refine go_nil ?_
  change G _ _ _ _
  refine p_weaken [1, 2, 4, 5, 6, 7] rfl ?_
  refine p_seq0 ?_
  refine p_plain0 (0 :: 1 :: []) ?_
  refine go_q0 14 (.move (.tmp 5)) 83 (qv_move rfl) ?_
  refine go_s0 (some 15) (.call { callee := .value (.func 59), args := #[.tmp 14], argTypes := #[83] }) 0 ?_
  refine os_callP rfl en59 rfl (pu_Clear0) ?_
  refine go_nil ?_
  change G _ _ _ _
  refine p_weaken [1, 2, 4, 5, 6, 7] rfl ?_
  refine p_seq0 ?_
  refine p_plain0 (0 :: 1 :: 2 :: 3 :: 4 :: 5 :: 6 :: 7 :: 8 :: 9 :: 10 :: 11 :: 12 :: 13 :: 14 :: 15 :: 16 :: 17 :: 18 :: 19 :: 20 :: 21 :: 22 :: 23 :: 24 :: 25 :: 26 :: 27 :: 28 :: 29 :: 30 :: 31 :: 32 :: 33 :: 34 :: 35 :: 36 :: 37 :: 38 :: 39 :: 40 :: 41 :: 42 :: 43 :: 44 :: 45 :: 46 :: 47 :: 48 :: 49 :: 50 :: []) ?_
  refine go_q0 16 (.move (.tmp 5)) 83 (qv_move rfl) ?_
  refine go_q0 17 (.load 27 (.tmp 2)) 27 (qv_load rfl .auto (ldv_agg agg27 (extw_Key _) (Nat.le_of_ble_eq_true rfl))) ?_
  refine go_q0 18 (.move (.tmp 1)) 30 (qv_move rfl) ?_
  refine go_s0 (some 19) (.call { callee := .value (.func 42), args := #[.tmp 16, .tmp 17, .tmp 18], argTypes := #[83, 27, 30] }) 61 ?_
  refine os_callP rfl en42 rfl (pu_Put0 k n) ?_
  refine go_q0 20 (.binOp .eql 61 (.tmp 19) (.const (.int .i64 1)) 61) 4 (qv_eql (b := true) rfl rfl (by decide)) ?_
  refine go_q0 21 (.move (.tmp 20)) 4 (qv_move rfl) ?_
  refine go_q (d := 22) (op := .move (.tmp 6)) (ty := 30) (g := some (5, true)) (by kernel_rfl) ⟨21, by kernel_rfl, rfl⟩ rfl (qv_move rfl) ?_
  refine go_q (d := 23) (op := .binOp .eql 30 (.tmp 22) (.const (.int .u64 0)) 30) (ty := 4) (g := some (5, true)) (by kernel_rfl) ⟨21, by kernel_rfl, rfl⟩ rfl (qv_eql (b := true) rfl rfl (by decide)) ?_
  refine go_q0 24 (.pick (.tmp 21) (.tmp 23) (.const (.bool false))) 4 (qv_pick_t rfl rfl) ?_
  refine go_q0 25 (.move (.tmp 24)) 4 (qv_move rfl) ?_
  refine go_q (d := 26) (op := .move (.tmp 7)) (ty := 4) (g := some (9, true)) (by kernel_rfl) ⟨25, by kernel_rfl, rfl⟩ rfl (qv_move rfl) ?_
  refine go_q (d := 27) (op := .unOp .not 4 (.tmp 26)) (ty := 4) (g := some (9, true)) (by kernel_rfl) ⟨25, by kernel_rfl, rfl⟩ rfl (qv_not rfl) ?_
  refine go_q0 28 (.pick (.tmp 25) (.tmp 27) (.const (.bool false))) 4 (qv_pick_t rfl rfl) ?_
  refine go_q0 29 (.move (.tmp 28)) 4 (qv_move rfl) ?_
  refine go_q (d := 30) (op := .move (.tmp 5)) (ty := 83) (g := some (13, true)) (by kernel_rfl) ⟨29, by kernel_rfl, rfl⟩ rfl (qv_move rfl) ?_
  refine go_q (d := 31) (op := .load 27 (.tmp 2)) (ty := 27) (g := some (13, true)) (by kernel_rfl) ⟨29, by kernel_rfl, rfl⟩ rfl (qv_load rfl .auto (ldv_agg agg27 (extw_Key _) (Nat.le_of_ble_eq_true rfl))) ?_
  refine go_s (d := some 32) (op := .call { callee := .value (.func 44), args := #[.tmp 30, .tmp 31], argTypes := #[83, 27] }) (ty := 4) (g := some (13, true)) (by kernel_rfl) ⟨29, by kernel_rfl, rfl⟩ ?_
  refine os_callP rfl en44 rfl (pu_Delete0 k) ?_
  refine go_q (d := 33) (op := .unOp .not 4 (.tmp 32)) (ty := 4) (g := some (13, true)) (by kernel_rfl) ⟨29, by kernel_rfl, rfl⟩ rfl (qv_not rfl) ?_
  refine go_q0 34 (.pick (.tmp 29) (.tmp 33) (.const (.bool false))) 4 (qv_pick_t rfl rfl) ?_
  refine go_q0 35 (.move (.tmp 34)) 4 (qv_move rfl) ?_
  refine go_q (d := 36) (op := .move (.tmp 5)) (ty := 83) (g := some (19, true)) (by kernel_rfl) ⟨35, by kernel_rfl, rfl⟩ rfl (qv_move rfl) ?_
  refine go_q (d := 37) (op := .load 27 (.tmp 2)) (ty := 27) (g := some (19, true)) (by kernel_rfl) ⟨35, by kernel_rfl, rfl⟩ rfl (qv_load rfl .auto (ldv_agg agg27 (extw_Key _) (Nat.le_of_ble_eq_true rfl))) ?_
  refine go_s (d := some 38) (op := .call { callee := .value (.func 40), args := #[.tmp 36, .tmp 37], argTypes := #[83, 27] }) (ty := 3) (g := some (19, true)) (by kernel_rfl) ⟨35, by kernel_rfl, rfl⟩ ?_
  refine os_callP rfl en40 rfl (pu_Probes0 k) ?_
  refine go_q (d := 39) (op := .binOp .eql 3 (.tmp 38) (.const (.int .i64 0)) 3) (ty := 4) (g := some (19, true)) (by kernel_rfl) ⟨35, by kernel_rfl, rfl⟩ rfl (qv_eql (b := true) rfl rfl (by decide)) ?_
  refine go_q0 40 (.pick (.tmp 35) (.tmp 39) (.const (.bool false))) 4 (qv_pick_t rfl rfl) ?_
  refine go_q0 41 (.move (.tmp 40)) 4 (qv_move rfl) ?_
  refine go_q (d := 42) (op := .move (.tmp 5)) (ty := 83) (g := some (25, true)) (by kernel_rfl) ⟨41, by kernel_rfl, rfl⟩ rfl (qv_move rfl) ?_
  refine go_s (d := some 43) (op := .call { callee := .value (.func 45), args := #[.tmp 42], argTypes := #[83] }) (ty := 3) (g := some (25, true)) (by kernel_rfl) ⟨41, by kernel_rfl, rfl⟩ ?_
  refine os_callP rfl en45 rfl (pu_Len0) ?_
  refine go_q (d := 44) (op := .binOp .eql 3 (.tmp 43) (.const (.int .i64 0)) 3) (ty := 4) (g := some (25, true)) (by kernel_rfl) ⟨41, by kernel_rfl, rfl⟩ rfl (qv_eql (b := true) rfl rfl (by decide)) ?_
  refine go_q0 45 (.pick (.tmp 41) (.tmp 44) (.const (.bool false))) 4 (qv_pick_t rfl rfl) ?_
  refine go_q0 46 (.move (.tmp 45)) 4 (qv_move rfl) ?_
  refine go_q (d := 47) (op := .move (.tmp 5)) (ty := 83) (g := some (30, true)) (by kernel_rfl) ⟨46, by kernel_rfl, rfl⟩ rfl (qv_move rfl) ?_
  refine go_s (d := some 48) (op := .call { callee := .value (.func 66), args := #[.tmp 47], argTypes := #[83] }) (ty := 3) (g := some (30, true)) (by kernel_rfl) ⟨46, by kernel_rfl, rfl⟩ ?_
  refine os_callP rfl en66 rfl (pu_Size0) ?_
  refine go_q (d := 49) (op := .binOp .eql 3 (.tmp 48) (.const (.int .i64 0)) 3) (ty := 4) (g := some (30, true)) (by kernel_rfl) ⟨46, by kernel_rfl, rfl⟩ rfl (qv_eql (b := true) rfl rfl (by decide)) ?_
  refine go_q0 50 (.pick (.tmp 46) (.tmp 49) (.const (.bool false))) 4 (qv_pick_t rfl rfl) ?_
  refine go_q0 51 (.move (.tmp 50)) 4 (qv_move rfl) ?_
  refine go_q (d := 52) (op := .move (.tmp 5)) (ty := 83) (g := some (35, true)) (by kernel_rfl) ⟨51, by kernel_rfl, rfl⟩ rfl (qv_move rfl) ?_
  refine go_s (d := some 53) (op := .call { callee := .value (.func 67), args := #[.tmp 52], argTypes := #[83] }) (ty := 124) (g := some (35, true)) (by kernel_rfl) ⟨51, by kernel_rfl, rfl⟩ ?_
  refine os_callP rfl en67 rfl (pu_Slots0) ?_
  refine go_q (d := 54) (op := .call { callee := .builtin .len, args := #[.tmp 53], argTypes := #[124] }) (ty := 3) (g := some (35, true)) (by kernel_rfl) ⟨51, by kernel_rfl, rfl⟩ rfl (qv_lenS un124 rfl) ?_
  refine go_q (d := 55) (op := .binOp .eql 3 (.tmp 54) (.const (.int .i64 0)) 3) (ty := 4) (g := some (35, true)) (by kernel_rfl) ⟨51, by kernel_rfl, rfl⟩ rfl (qv_eql (b := true) rfl rfl (by decide)) ?_
  refine go_q0 56 (.pick (.tmp 51) (.tmp 55) (.const (.bool false))) 4 (qv_pick_t rfl rfl) ?_
  refine go_q0 57 (.move (.tmp 56)) 4 (qv_move rfl) ?_
  refine go_q (d := 58) (op := .move (.tmp 5)) (ty := 83) (g := some (41, true)) (by kernel_rfl) ⟨57, by kernel_rfl, rfl⟩ rfl (qv_move rfl) ?_
  refine go_s (d := some 59) (op := .call { callee := .value (.func 68), args := #[.tmp 58], argTypes := #[83] }) (ty := 86) (g := some (41, true)) (by kernel_rfl) ⟨57, by kernel_rfl, rfl⟩ ?_
  refine os_callP rfl en68 rfl (pu_Keys0) ?_
  refine go_q (d := 60) (op := .call { callee := .builtin .len, args := #[.tmp 59], argTypes := #[86] }) (ty := 3) (g := some (41, true)) (by kernel_rfl) ⟨57, by kernel_rfl, rfl⟩ rfl (qv_lenS un86 rfl) ?_
  refine go_q (d := 61) (op := .binOp .eql 3 (.tmp 60) (.const (.int .i64 0)) 3) (ty := 4) (g := some (41, true)) (by kernel_rfl) ⟨57, by kernel_rfl, rfl⟩ rfl (qv_eql (b := true) rfl rfl (by decide)) ?_
  refine go_q0 62 (.pick (.tmp 57) (.tmp 61) (.const (.bool false))) 4 (qv_pick_t rfl rfl) ?_
  refine go_q0 63 (.move (.tmp 62)) 4 (qv_move rfl) ?_
  refine go_s (d := some 64) (op := .call { callee := .value (.func 38), args := #[], argTypes := #[] }) (ty := 4) (g := some (47, true)) (by kernel_rfl) ⟨63, by kernel_rfl, rfl⟩ ?_
  refine os_callP rfl en38 rfl (pu_works23) ?_
  refine go_q0 65 (.pick (.tmp 63) (.tmp 64) (.const (.bool false))) 4 (qv_pick_t rfl rfl) ?_
  refine go_q0 4 (.assign (.tmp 65)) 4 (qv_assign rfl) ?_
  refine go_nil ?_
  change G _ _ _ _
  refine p_weaken [4] rfl ?_
  refine p_ret0 ?_
  try dsimp only [thenQ, inBlockQ]
  try rw [if_pos rfl]
  refine ret_now (.inr rfl) (.cons (res_tmp rfl) .nil) (by repeat constructor) ?_
  exact ⟨rfl, rfl⟩
end Go.Proofs.Ytobmcpoejhhemaa
