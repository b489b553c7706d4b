import Derived.Test.YtobmcpoejhhemaaGreatKNone
namespace Go.Proofs.YtobmcpoejhhemaaGreat
open Go.E

def ixIn (ops : Array Oper) : Option Value := ops.toList.findSome? fun o => match o.op with
  | .index _ (.const v) _ => some v
  | _ => none
def ixCode : Code → Option Value
  | .region _ ops _ => ixIn ops
  | .seq a b => (ixCode a).or (ixCode b)
  | .cond _ a b => (ixCode a).or (ixCode b)
  | .block _ b => ixCode b
  | .loop b => ixCode b
  | _ => none
/-- The constant row of bit lengths, as the code has it. -/
noncomputable def len8 : Value := (ixCode (bodyOf Tryz.f65)).getD undef
theorem pu_Len64_0 : Pu Tryz.prog 65 [.int .u64 0] (.int .i64 0) := by
  refine ct_body (rv := [.tmp 2]) [(0, _)] Tryz.func65 (by kernel_rfl) Tryz.ntmps65 Tryz.results65 rfl rfl (fun w0 => ?_)
  refine p_seq0 ?_
  refine p_plain0 (0 :: []) ?_
  refine go_q0 2 (.assign (.const (.int .i64 0))) 3 (qv_assign rfl) ?_
  refine go_nil ?_
  change G _ _ _ _
  refine p_seq0 ?_
  refine p_seq0 ?_
  refine p_plain0 (0 :: 1 :: []) ?_
  refine go_q0 3 (.move (.tmp 0)) 23 (qv_move rfl) ?_
  refine go_q0 4 (.binOp .geq 23 (.tmp 3) (.const (.int .u64 4294967296)) 23) 4 (qv_geq (b := false) rfl rfl (decide_eq_false (by omega))) ?_
  refine go_nil ?_
  change G _ _ _ _
  refine p_weaken [0, 2, 4] rfl ?_
  refine p_condF (.tmp 4) (by kernel_rfl) rfl ?_
  refine p_skip0 ?_
  change G _ _ _ _
  refine p_weaken [0, 2] rfl ?_
  refine p_seq0 ?_
  refine p_seq0 ?_
  refine p_plain0 (0 :: 1 :: []) ?_
  refine go_q0 7 (.move (.tmp 0)) 23 (qv_move rfl) ?_
  refine go_q0 8 (.binOp .geq 23 (.tmp 7) (.const (.int .u64 65536)) 23) 4 (qv_geq (b := false) rfl rfl (decide_eq_false (by omega))) ?_
  refine go_nil ?_
  change G _ _ _ _
  refine p_weaken [0, 2, 8] rfl ?_
  refine p_condF (.tmp 8) (by kernel_rfl) rfl ?_
  refine p_skip0 ?_
  change G _ _ _ _
  refine p_weaken [0, 2] rfl ?_
  refine p_seq0 ?_
  refine p_seq0 ?_
  refine p_plain0 (0 :: 1 :: []) ?_
  refine go_q0 13 (.move (.tmp 0)) 23 (qv_move rfl) ?_
  refine go_q0 14 (.binOp .geq 23 (.tmp 13) (.const (.int .u64 256)) 23) 4 (qv_geq (b := false) rfl rfl (decide_eq_false (by omega))) ?_
  refine go_nil ?_
  change G _ _ _ _
  refine p_weaken [0, 2, 14] rfl ?_
  refine p_condF (.tmp 14) (by kernel_rfl) rfl ?_
  refine p_skip0 ?_
  change G _ _ _ _
  refine p_weaken [0, 2] rfl ?_
  refine p_seq0 ?_
  refine p_plain0 (0 :: 1 :: 2 :: 3 :: 4 :: 5 :: 6 :: []) ?_
  refine go_q0 19 (.move (.tmp 2)) 3 (qv_move rfl) ?_
  refine go_q0 20 (.move (.tmp 0)) 23 (qv_move rfl) ?_
  refine go_q0 21 (.convert 23 5 (.tmp 20)) 5 (qv_conv un23 un5 rfl (by first | exact IntWalk.u8_in _ (by omega) | rfl)) ?_
  refine go_q0 22 (.index 9 (.const len8) (.tmp 21)) 5 (qv_ix (v := .int .u8 0) rfl rfl (fun _ => by kernel_rfl)) ?_
  refine go_q0 23 (.convert 5 3 (.tmp 22)) 3 (qv_conv un5 un3 rfl (by first | exact IntWalk.i64_in _ (by omega) | rfl)) ?_
  refine go_q0 24 (.binOp .add 3 (.tmp 19) (.tmp 23) 3) 3 (qv_add rfl rfl (by first | exact IntWalk.i64_in _ (by omega) | exact IntWalk.i64_in _ (by dsimp only; omega) | rfl)) ?_
  refine go_q0 2 (.assign (.tmp 24)) 3 (qv_assign rfl) ?_
  refine go_nil ?_
  change G _ _ _ _
  refine p_weaken [2] rfl ?_
  refine p_ret0 ?_
  try dsimp only [thenQ, inBlockQ]
  try rw [if_pos rfl]
  refine ret_now (.inr rfl) (.cons (res_tmp rfl) .nil) (by repeat constructor) ?_
  exact ⟨rfl, rfl⟩
theorem pu_bitsLen0 : Pu Tryz.prog 32 [.int .u64 0] (.int .i64 0) := by
  refine ct_body (rv := [.tmp 2]) [(0, _)] Tryz.func32 (by kernel_rfl) Tryz.ntmps32 Tryz.results32 rfl rfl (fun w0 => ?_)
  refine p_seq0 ?_
  refine p_plain0 (0 :: []) ?_
  refine go_q0 2 (.assign (.const (.int .i64 0))) 3 (qv_assign rfl) ?_
  refine go_nil ?_
  change G _ _ _ _
  refine p_seq0 ?_
  refine p_condF (.const (.bool false)) (by kernel_rfl) rfl ?_
  refine p_skip0 ?_
  change G _ _ _ _
  refine p_seq0 ?_
  refine p_plain0 (0 :: 1 :: 2 :: []) ?_
  refine go_q0 6 (.move (.tmp 0)) 82 (qv_move rfl) ?_
  refine go_s0 (some 7) (.call { callee := .value (.func 65), args := #[.tmp 6], argTypes := #[23] }) 3 ?_
  refine os_callP rfl en65 rfl (pu_Len64_0) ?_
  refine go_q0 2 (.assign (.tmp 7)) 3 (qv_assign rfl) ?_
  refine go_nil ?_
  change G _ _ _ _
  refine p_weaken [2] rfl ?_
  refine p_ret0 ?_
  try dsimp only [thenQ, inBlockQ]
  try rw [if_pos rfl]
  refine ret_now (.inr rfl) (.cons (res_tmp rfl) .nil) (by repeat constructor) ?_
  exact ⟨rfl, rfl⟩
end Go.Proofs.YtobmcpoejhhemaaGreat
