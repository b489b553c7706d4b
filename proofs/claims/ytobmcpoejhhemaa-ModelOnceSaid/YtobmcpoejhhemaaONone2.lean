import Derived.Test.YtobmcpoejhhemaaOTabD
namespace Go.Proofs.Ytobmcpoejhhemaa
open Go.E

def ixIn (ops : Array Oper) : Option Value := ops.toList.findSome? fun o => match o.op with
  | .index _ (.const v) _ => some v
  | _ => none
def ixCode : Code → Option Value
  | .region _ ops _ => ixIn ops
  | .seq a b => (ixCode a).or (ixCode b)
  | .cond _ a b => (ixCode a).or (ixCode b)
  | .block _ b => ixCode b
  | .loop b => ixCode b
  | _ => none
/-- The constant row of bit lengths, as the code has it. -/
noncomputable def len8 : Value := (ixCode (bodyOf Try.f176)).getD undef
theorem pu_Len64_0 : Pu Try.prog 176 [.int .u64 0] (.int .i64 0) := by
  refine ct_body (rv := [.tmp 2]) [(0, _)] Try.func176 (by kernel_rfl) Try.ntmps176 Try.results176 rfl rfl (fun w0 => ?_)
  refine p_seq0 ?_
  refine p_plain0 (0 :: []) ?_
  refine go_q0 2 (.assign (.const (.int .i64 0))) 3 (qv_assign rfl) ?_
  refine go_nil ?_
  change G _ _ _ _
  refine p_seq0 ?_
  refine p_seq0 ?_
  refine p_plain0 (0 :: 1 :: []) ?_
  refine go_q0 3 (.move (.tmp 0)) 30 (qv_move rfl) ?_
  refine go_q0 4 (.binOp .geq 30 (.tmp 3) (.const (.int .u64 4294967296)) 30) 4 (qv_geq (b := false) rfl rfl (decide_eq_false (by omega))) ?_
  refine go_nil ?_
  change G _ _ _ _
  refine p_weaken [0, 2, 4] rfl ?_
  refine p_condF (.tmp 4) (by kernel_rfl) rfl ?_
  refine p_skip0 ?_
  change G _ _ _ _
  refine p_weaken [0, 2] rfl ?_
  refine p_seq0 ?_
  refine p_seq0 ?_
  refine p_plain0 (0 :: 1 :: []) ?_
  refine go_q0 7 (.move (.tmp 0)) 30 (qv_move rfl) ?_
  refine go_q0 8 (.binOp .geq 30 (.tmp 7) (.const (.int .u64 65536)) 30) 4 (qv_geq (b := false) rfl rfl (decide_eq_false (by omega))) ?_
  refine go_nil ?_
  change G _ _ _ _
  refine p_weaken [0, 2, 8] rfl ?_
  refine p_condF (.tmp 8) (by kernel_rfl) rfl ?_
  refine p_skip0 ?_
  change G _ _ _ _
  refine p_weaken [0, 2] rfl ?_
  refine p_seq0 ?_
  refine p_seq0 ?_
  refine p_plain0 (0 :: 1 :: []) ?_
  refine go_q0 13 (.move (.tmp 0)) 30 (qv_move rfl) ?_
  refine go_q0 14 (.binOp .geq 30 (.tmp 13) (.const (.int .u64 256)) 30) 4 (qv_geq (b := false) rfl rfl (decide_eq_false (by omega))) ?_
  refine go_nil ?_
  change G _ _ _ _
  refine p_weaken [0, 2, 14] rfl ?_
  refine p_condF (.tmp 14) (by kernel_rfl) rfl ?_
  refine p_skip0 ?_
  change G _ _ _ _
  refine p_weaken [0, 2] rfl ?_
  refine p_seq0 ?_
  refine p_plain0 (0 :: 1 :: 2 :: 3 :: 4 :: 5 :: 6 :: []) ?_
  refine go_q0 19 (.move (.tmp 2)) 3 (qv_move rfl) ?_
  refine go_q0 20 (.move (.tmp 0)) 30 (qv_move rfl) ?_
  refine go_q0 21 (.convert 30 5 (.tmp 20)) 5 (qv_conv un30 un5 rfl (by first | exact IntWalk.u8_in _ (by omega) | rfl)) ?_
  refine go_q0 22 (.index 9 (.const len8) (.tmp 21)) 5 (qv_ix (v := .int .u8 0) rfl rfl (fun _ => by kernel_rfl)) ?_
  refine go_q0 23 (.convert 5 3 (.tmp 22)) 3 (qv_conv un5 un3 rfl (by first | exact IntWalk.i64_in _ (by omega) | rfl)) ?_
  refine go_q0 24 (.binOp .add 3 (.tmp 19) (.tmp 23) 3) 3 (qv_add rfl rfl (by first | exact IntWalk.i64_in _ (by omega) | exact IntWalk.i64_in _ (by dsimp only; omega) | rfl)) ?_
  refine go_q0 2 (.assign (.tmp 24)) 3 (qv_assign rfl) ?_
  refine go_nil ?_
  change G _ _ _ _
  refine p_weaken [2] rfl ?_
  refine p_ret0 ?_
  try dsimp only [thenQ, inBlockQ]
  try rw [if_pos rfl]
  refine ret_now (.inr rfl) (.cons (res_tmp rfl) .nil) (by repeat constructor) ?_
  exact ⟨rfl, rfl⟩
theorem pu_bitsLen0 : Pu Try.prog 139 [.int .u64 0] (.int .i64 0) := by
  refine ct_body (rv := [.tmp 2]) [(0, _)] Try.func139 (by kernel_rfl) Try.ntmps139 Try.results139 rfl rfl (fun w0 => ?_)
  refine p_seq0 ?_
  refine p_plain0 (0 :: []) ?_
  refine go_q0 2 (.assign (.const (.int .i64 0))) 3 (qv_assign rfl) ?_
  refine go_nil ?_
  change G _ _ _ _
  refine p_seq0 ?_
  refine p_condF (.const (.bool false)) (by kernel_rfl) rfl ?_
  refine p_skip0 ?_
  change G _ _ _ _
  refine p_seq0 ?_
  refine p_plain0 (0 :: 1 :: 2 :: []) ?_
  refine go_q0 6 (.move (.tmp 0)) 220 (qv_move rfl) ?_
  refine go_s0 (some 7) (.call { callee := .value (.func 176), args := #[.tmp 6], argTypes := #[30] }) 3 ?_
  refine os_callP rfl en176 rfl (pu_Len64_0) ?_
  refine go_q0 2 (.assign (.tmp 7)) 3 (qv_assign rfl) ?_
  refine go_nil ?_
  change G _ _ _ _
  refine p_weaken [2] rfl ?_
  refine p_ret0 ?_
  try dsimp only [thenQ, inBlockQ]
  try rw [if_pos rfl]
  refine ret_now (.inr rfl) (.cons (res_tmp rfl) .nil) (by repeat constructor) ?_
  exact ⟨rfl, rfl⟩
theorem pu_insert0 (f : Value) : Pu Try.prog 190 [.slice none 0 0, .int .i64 0, .int .i64 0, f] (.tuple #[]) := by
  refine ct_body (rv := []) [(0, _), (1, _), (2, _), (3, _)] Try.func190 (by kernel_rfl) Try.ntmps190 Try.results190 rfl rfl (fun w0 => ?_)
  refine p_seq0 ?_
  refine p_plain0 (0 :: 1 :: 2 :: []) ?_
  refine go_q0 10 (.move (.tmp 1)) 3 (qv_move rfl) ?_
  refine go_q0 11 (.binOp .add 3 (.tmp 10) (.const (.int .i64 1)) 3) 3 (qv_add rfl rfl (by first | exact IntWalk.i64_in _ (by omega) | exact IntWalk.i64_in _ (by dsimp only; omega) | rfl)) ?_
  refine go_q0 8 (.assign (.tmp 11)) 3 (qv_assign rfl) ?_
  refine go_nil ?_
  change G _ _ _ _
  refine p_weaken [0, 1, 2, 3, 8] rfl ?_
  refine p_block 0 (by kernel_rfl) ?_
  refine p_loopE (by kernel_rfl) (fun s m => Ge s ⟨[], [(2, .int .i64 0), (8, .int .i64 1)], []⟩ ∧ m = 0) ?_ ?_
  · exact ⟨_, ⟨⟨rfl, ⟨[2, 8], rfl⟩, .auto⟩, rfl⟩⟩
  rintro s m ⟨hs, rfl⟩
  refine ge_ok hs ?_
  refine p_seq0 ?_
  refine p_seq0 ?_
  refine p_plain0 (0 :: 1 :: 2 :: []) ?_
  refine go_q0 12 (.move (.tmp 8)) 3 (qv_move rfl) ?_
  refine go_q0 13 (.move (.tmp 2)) 3 (qv_move rfl) ?_
  refine go_q0 14 (.binOp .lss 3 (.tmp 12) (.tmp 13) 3) 4 (qv_lss (b := false) rfl rfl (decide_eq_false (by omega))) ?_
  refine go_nil ?_
  change G _ _ _ _
  refine p_weaken [2, 8, 14] rfl ?_
  refine p_condF (.tmp 14) (by kernel_rfl) rfl ?_
  refine p_exit 0 (by kernel_rfl) ?_
  try dsimp only [thenQ, inBlockQ]
  try rw [if_pos rfl]
  refine ret_now (.inl rfl) .nil (by repeat constructor) ?_
  exact ⟨rfl, rfl⟩
theorem pu_pdq0 (f : Value) (lim : Int) : Pu Try.prog 160 [.slice none 0 0, .int .i64 0, .int .i64 0, .int .i64 lim, f] (.tuple #[]) := by
  refine ct_body (rv := []) [(0, _), (1, _), (2, _), (3, _), (4, _)] Try.func160 (by kernel_rfl) Try.ntmps160 Try.results160 rfl rfl (fun w0 => ?_)
  refine p_seq0 ?_
  refine p_plain0 (0 :: []) ?_
  refine go_q0 10 (.assign (.const (.bool true))) 4 (qv_assign rfl) ?_
  refine go_nil ?_
  change G _ _ _ _
  refine p_seq0 ?_
  refine p_plain0 (0 :: []) ?_
  refine go_q0 11 (.assign (.const (.bool true))) 4 (qv_assign rfl) ?_
  refine go_nil ?_
  change G _ _ _ _
  refine p_block 0 (by kernel_rfl) ?_
  refine p_loopE (by kernel_rfl) (fun s m => Ge s ⟨[], [(0, .slice none 0 0), (1, .int .i64 0), (2, .int .i64 0), (4, f)], []⟩ ∧ m = 0) ?_ ?_
  · exact ⟨_, ⟨⟨rfl, ⟨[0, 1, 2, 4], rfl⟩, .auto⟩, rfl⟩⟩
  rintro s m ⟨hs, rfl⟩
  refine ge_ok hs ?_
  refine p_block 1 (by kernel_rfl) ?_
  refine p_seq0 ?_
  refine p_plain0 (0 :: 1 :: 2 :: 3 :: []) ?_
  refine go_q0 21 (.move (.tmp 2)) 3 (qv_move rfl) ?_
  refine go_q0 22 (.move (.tmp 1)) 3 (qv_move rfl) ?_
  refine go_q0 23 (.binOp .sub 3 (.tmp 21) (.tmp 22) 3) 3 (qv_sub rfl rfl (by first | exact IntWalk.i64_in _ (by omega) | exact IntWalk.i64_in _ (by dsimp only; omega) | rfl)) ?_
  refine go_q0 12 (.assign (.tmp 23)) 3 (qv_assign rfl) ?_
  refine go_nil ?_
  change G _ _ _ _
  refine p_weaken [0, 1, 2, 4, 12] rfl ?_
  refine p_seq0 ?_
  refine p_seq0 ?_
  refine p_plain0 (0 :: 1 :: []) ?_
  refine go_q0 24 (.move (.tmp 12)) 3 (qv_move rfl) ?_
  refine go_q0 25 (.binOp .leq 3 (.tmp 24) (.const (.int .i64 12)) 3) 4 (qv_leq (b := true) rfl rfl (decide_eq_true (by omega))) ?_
  refine go_nil ?_
  change G _ _ _ _
  refine p_weaken [0, 1, 2, 4, 12, 25] rfl ?_
  refine p_condT (.tmp 25) (by kernel_rfl) rfl ?_
  refine p_seq0 ?_
  refine p_plain0 (0 :: 1 :: 2 :: 3 :: 4 :: []) ?_
  refine go_q0 26 (.move (.tmp 0)) 86 (qv_move rfl) ?_
  refine go_q0 27 (.move (.tmp 1)) 3 (qv_move rfl) ?_
  refine go_q0 28 (.move (.tmp 2)) 3 (qv_move rfl) ?_
  refine go_q0 29 (.move (.tmp 4)) 202 (qv_move rfl) ?_
  refine go_s0 (some 30) (.call { callee := .value (.func 190), args := #[.tmp 26, .tmp 27, .tmp 28, .tmp 29], argTypes := #[86, 3, 3, 202] }) 0 ?_
  refine os_callP rfl en190 rfl (pu_insert0 f) ?_
  refine go_nil ?_
  change G _ _ _ _
  refine p_weaken [0, 1, 2, 4, 12] rfl ?_
  refine p_ret0 ?_
  try dsimp only [thenQ, inBlockQ]
  try rw [if_pos rfl]
  refine ret_now (.inr rfl) .nil (by repeat constructor) ?_
  exact ⟨rfl, rfl⟩
theorem pu_Sort0 (f : Value) : Pu Try.prog 120 [.slice none 0 0, f] (.tuple #[]) := by
  refine ct_body (rv := []) [(0, _), (1, _)] Try.func120 (by kernel_rfl) Try.ntmps120 Try.results120 rfl rfl (fun w0 => ?_)
  refine p_seq0 ?_
  refine p_plain0 (0 :: 1 :: 2 :: []) ?_
  refine go_q0 5 (.move (.tmp 0)) 86 (qv_move rfl) ?_
  refine go_q0 6 (.call { callee := .builtin .len, args := #[.tmp 5], argTypes := #[86] }) 3 (qv_lenS un86 rfl) ?_
  refine go_q0 4 (.assign (.tmp 6)) 3 (qv_assign rfl) ?_
  refine go_nil ?_
  change G _ _ _ _
  refine p_weaken [0, 1, 4] rfl ?_
  refine p_plain0 (0 :: 1 :: 2 :: 3 :: 4 :: 5 :: 6 :: []) ?_
  refine go_q0 7 (.move (.tmp 0)) 86 (qv_move rfl) ?_
  refine go_q0 8 (.move (.tmp 4)) 3 (qv_move rfl) ?_
  refine go_q0 9 (.move (.tmp 4)) 3 (qv_move rfl) ?_
  refine go_q0 10 (.convert 3 220 (.tmp 9)) 220 (qv_conv un3 un220 rfl (by first | exact IntWalk.u64_in _ (by omega) | rfl)) ?_
  refine go_s0 (some 11) (.call { callee := .value (.func 139), args := #[.tmp 10], argTypes := #[220] }) 3 ?_
  refine os_callP rfl en139 rfl (pu_bitsLen0) ?_
  refine go_q0 12 (.move (.tmp 1)) 202 (qv_move rfl) ?_
  refine go_s0 (some 13) (.call { callee := .value (.func 160), args := #[.tmp 7, .const (.int .i64 0), .tmp 8, .tmp 11, .tmp 12], argTypes := #[86, 3, 3, 3, 202] }) 0 ?_
  refine os_callP rfl en160 rfl (pu_pdq0 f 0) ?_
  refine go_nil ?_
  try dsimp only [thenQ, inBlockQ]
  try rw [if_pos rfl]
  refine ret_now (.inl rfl) .nil (by repeat constructor) ?_
  exact ⟨rfl, rfl⟩
end Go.Proofs.Ytobmcpoejhhemaa
