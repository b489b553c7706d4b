import Derived.Test.YtobmcpoejhhemaaGreatKCacS
namespace Go.Proofs.YtobmcpoejhhemaaGreat
open Go.E

theorem pu_Account0 (p : Pkt) (c t : Int) : Pu Tryz.prog 21 [.pointer none, .agg p.c, .int .u8 c, .int .u64 t] (.tuple #[.slice none 0 0, .int .i64 1]) := by
  refine ct_body (rv := [.tmp 8, .tmp 9]) [(0, _), (1, _), (2, _), (3, _)] Tryz.func21 (by kernel_rfl) Tryz.ntmps21 Tryz.results21 rfl rfl (fun w0 => ?_)
  refine p_seq0 ?_
  refine p_plain0 (0 :: 1 :: 2 :: []) ?_
  refine go_s0 (some 5) (.box 31 (.tmp 1)) 0 ?_
  refine os_boxA rfl rfl (fun b5 => ?_)
  refine go_q0 8 (.assign (.const (.slice none 0 0))) 55 (qv_assign rfl) ?_
  refine go_q0 9 (.assign (.const (.int .i64 0))) 44 (qv_assign rfl) ?_
  refine go_nil ?_
  change G _ _ _ _
  refine p_weaken [0, 2, 3, 5, 8, 9] rfl ?_
  refine p_seq0 ?_
  refine p_block 0 (by kernel_rfl) ?_
  refine p_seq0 ?_
  refine p_plain0 (0 :: 1 :: 2 :: []) ?_
  refine go_q0 17 (.move (.tmp 0)) 43 (qv_move rfl) ?_
  refine go_q0 18 (.binOp .eql 43 (.tmp 17) (.const (.pointer none)) 43) 4 (qv_eqlP un43 rfl) ?_
  refine go_q0 16 (.assign (.tmp 18)) 4 (qv_assign rfl) ?_
  refine go_nil ?_
  change G _ _ _ _
  refine p_weaken [0, 2, 3, 5, 8, 9, 16] rfl ?_
  refine p_condT (.tmp 16) (by kernel_rfl) rfl ?_
  refine p_seq0 ?_
  refine p_plain0 (0 :: 1 :: []) ?_
  refine go_q0 8 (.assign (.const (.slice none 0 0))) 55 (qv_assign rfl) ?_
  refine go_q0 9 (.assign (.const (.int .i64 1))) 44 (qv_assign rfl) ?_
  refine go_nil ?_
  change G _ _ _ _
  refine p_weaken [0, 2, 3, 5, 8, 9] rfl ?_
  refine p_ret0 ?_
  try dsimp only [thenQ, inBlockQ]
  try rw [if_pos rfl]
  refine ret_now (.inr rfl) (.cons (res_tmp rfl) (.cons (res_tmp rfl) .nil)) (by repeat constructor) ?_
  exact ⟨rfl, rfl⟩
theorem pu_Next0 : Pu Tryz.prog 27 [.pointer none] (.tuple #[.int .u64 0, .bool false]) := by
  refine ct_body (rv := [.tmp 2, .tmp 3]) [(0, _)] Tryz.func27 (by kernel_rfl) Tryz.ntmps27 Tryz.results27 rfl rfl (fun w0 => ?_)
  refine p_seq0 ?_
  refine p_plain0 (0 :: 1 :: []) ?_
  refine go_q0 2 (.assign (.const (.int .u64 0))) 23 (qv_assign rfl) ?_
  refine go_q0 3 (.assign (.const (.bool false))) 4 (qv_assign rfl) ?_
  refine go_nil ?_
  change G _ _ _ _
  refine p_seq0 ?_
  refine p_seq0 ?_
  refine p_plain0 (0 :: 1 :: []) ?_
  refine go_q0 7 (.move (.tmp 0)) 43 (qv_move rfl) ?_
  refine go_q0 8 (.binOp .eql 43 (.tmp 7) (.const (.pointer none)) 43) 4 (qv_eqlP un43 rfl) ?_
  refine go_nil ?_
  change G _ _ _ _
  refine p_weaken [0, 2, 3, 8] rfl ?_
  refine p_condT (.tmp 8) (by kernel_rfl) rfl ?_
  refine p_seq0 ?_
  refine p_plain0 (0 :: 1 :: []) ?_
  refine go_q0 2 (.assign (.const (.int .u64 0))) 23 (qv_assign rfl) ?_
  refine go_q0 3 (.assign (.const (.bool false))) 4 (qv_assign rfl) ?_
  refine go_nil ?_
  change G _ _ _ _
  refine p_weaken [0, 2, 3] rfl ?_
  refine p_ret0 ?_
  try dsimp only [thenQ, inBlockQ]
  try rw [if_pos rfl]
  refine ret_now (.inr rfl) (.cons (res_tmp rfl) (.cons (res_tmp rfl) .nil)) (by repeat constructor) ?_
  exact ⟨rfl, rfl⟩
theorem pu_CGet0 (k : Key) : Pu Tryz.prog 28 [.pointer none, .agg k.c] (.tuple #[.agg zeroR.c, .bool false]) := by
  refine ct_body (rv := [.cell 4 69, .tmp 5]) [(0, _), (1, _)] Tryz.func28 (by kernel_rfl) Tryz.ntmps28 Tryz.results28 rfl rfl (fun w0 => ?_)
  refine p_seq0 ?_
  refine p_plain0 (0 :: 1 :: 2 :: []) ?_
  refine go_s0 (some 3) (.box 29 (.tmp 1)) 0 ?_
  refine os_boxA rfl rfl (fun b3 => ?_)
  refine go_s0 (some 4) (.alloc 69) 0 ?_
  refine os_allocA rfl ze69 (fun b4 => ?_)
  refine go_q0 5 (.assign (.const (.bool false))) 4 (qv_assign rfl) ?_
  refine go_nil ?_
  change G _ _ _ _
  refine p_weaken [0, 3, 4, 5] rfl ?_
  refine p_seq0 ?_
  refine p_seq0 ?_
  refine p_plain0 (0 :: 1 :: []) ?_
  refine go_q0 8 (.move (.tmp 0)) 43 (qv_move rfl) ?_
  refine go_q0 9 (.binOp .eql 43 (.tmp 8) (.const (.pointer none)) 43) 4 (qv_eqlP un43 rfl) ?_
  refine go_nil ?_
  change G _ _ _ _
  refine p_weaken [0, 3, 4, 5, 9] rfl ?_
  refine p_condT (.tmp 9) (by kernel_rfl) rfl ?_
  refine p_seq0 ?_
  refine p_plain0 (0 :: 1 :: 2 :: []) ?_
  refine go_q0 10 (.build 69 #[]) 69 (qv_build (v := .agg zeroR.c) rfl (fun w => by kernel_rfl)) ?_
  refine go_s0 none (.store 69 (.tmp 4) (.tmp 10)) 0 ?_
  refine os_store rfl rfl sz69 rfl (one_Rec _) .auto (Nat.le_of_ble_eq_true rfl) (splw_Rec _ _ (siz_Rec _)) ?_
  refine go_q0 5 (.assign (.const (.bool false))) 4 (qv_assign rfl) ?_
  refine go_nil ?_
  change G _ _ _ _
  refine p_weaken [0, 3, 4, 5] rfl ?_
  refine p_ret0 ?_
  try dsimp only [thenQ, inBlockQ]
  try rw [if_pos rfl]
  refine ret_now (.inr rfl) (.cons (res_cell rfl (At.mem .auto) (ldv_agg agg69 (extw_Rec _) (Nat.le_of_ble_eq_true rfl))) (.cons (res_tmp rfl) .nil)) (by repeat constructor) ?_
  exact ⟨rfl, rfl⟩
theorem pu_Advance0 (t : Int) : Pu Tryz.prog 18 [.pointer none, .int .u64 t] (.slice none 0 0) := by
  refine ct_body (rv := [.tmp 4]) [(0, _), (1, _)] Tryz.func18 (by kernel_rfl) Tryz.ntmps18 Tryz.results18 rfl rfl (fun w0 => ?_)
  refine p_seq0 ?_
  refine p_plain0 (0 :: 1 :: []) ?_
  refine go_s0 (some 2) (.box 43 (.tmp 0)) 0 ?_
  refine os_box1 rfl rfl rfl (fun b2 => ?_)
  refine go_q0 4 (.assign (.const (.slice none 0 0))) 55 (qv_assign rfl) ?_
  refine go_nil ?_
  change G _ _ _ _
  refine p_weaken [1, 2, 4] rfl ?_
  refine p_seq0 ?_
  refine p_seq0 ?_
  refine p_plain0 (0 :: 1 :: 2 :: 3 :: 4 :: 5 :: 6 :: 7 :: 8 :: 9 :: []) ?_
  refine go_q0 8 (.load 43 (.tmp 2)) 43 (qv_load rfl .auto (ldv_sca sc43 (get_one _))) ?_
  refine go_q0 9 (.binOp .eql 43 (.tmp 8) (.const (.pointer none)) 43) 4 (qv_eqlP un43 rfl) ?_
  refine go_q0 10 (.move (.tmp 9)) 4 (qv_move rfl) ?_
  refine go_n (d := 11) (op := .move (.tmp 1)) (ty := 23) (g := some (2, false)) (by kernel_rfl) ⟨10, _, by kernel_rfl, rfl, rfl⟩ rfl ?_
  refine go_n (d := 12) (op := .load 43 (.tmp 2)) (ty := 43) (g := some (2, false)) (by kernel_rfl) ⟨10, _, by kernel_rfl, rfl, rfl⟩ rfl ?_
  refine go_n (d := 13) (op := .nilCheck (.tmp 12)) (ty := 0) (g := some (2, false)) (by kernel_rfl) ⟨10, _, by kernel_rfl, rfl, rfl⟩ rfl ?_
  refine go_n (d := 14) (op := .fieldAddr 84 (.tmp 13) 0) (ty := 0) (g := some (2, false)) (by kernel_rfl) ⟨10, _, by kernel_rfl, rfl, rfl⟩ rfl ?_
  refine go_n (d := 15) (op := .load 23 (.tmp 14)) (ty := 23) (g := some (2, false)) (by kernel_rfl) ⟨10, _, by kernel_rfl, rfl, rfl⟩ rfl ?_
  refine go_n (d := 16) (op := .binOp .lss 23 (.tmp 11) (.tmp 15) 23) (ty := 4) (g := some (2, false)) (by kernel_rfl) ⟨10, _, by kernel_rfl, rfl, rfl⟩ rfl ?_
  refine go_q0 17 (.pick (.tmp 10) (.const (.bool true)) (.tmp 16)) 4 (qv_pick_t rfl rfl) ?_
  refine go_nil ?_
  change G _ _ _ _
  refine p_weaken [1, 2, 4, 17] rfl ?_
  refine p_condT (.tmp 17) (by kernel_rfl) rfl ?_
  refine p_seq0 ?_
  refine p_plain0 (0 :: []) ?_
  refine go_q0 4 (.assign (.const (.slice none 0 0))) 55 (qv_assign rfl) ?_
  refine go_nil ?_
  change G _ _ _ _
  refine p_weaken [1, 2, 4] rfl ?_
  refine p_ret0 ?_
  try dsimp only [thenQ, inBlockQ]
  try rw [if_pos rfl]
  refine ret_now (.inr rfl) (.cons (res_tmp rfl) .nil) (by repeat constructor) ?_
  exact ⟨rfl, rfl⟩
theorem pu_All0 : Pu Tryz.prog 24 [.pointer none] (.slice none 0 0) := by
  refine ct_body (rv := [.tmp 2]) [(0, _)] Tryz.func24 (by kernel_rfl) Tryz.ntmps24 Tryz.results24 rfl rfl (fun w0 => ?_)
  refine p_seq0 ?_
  refine p_plain0 (0 :: []) ?_
  refine go_q0 2 (.assign (.const (.slice none 0 0))) 55 (qv_assign rfl) ?_
  refine go_nil ?_
  change G _ _ _ _
  refine p_seq0 ?_
  refine p_seq0 ?_
  refine p_plain0 (0 :: 1 :: []) ?_
  refine go_q0 3 (.move (.tmp 0)) 43 (qv_move rfl) ?_
  refine go_q0 4 (.binOp .eql 43 (.tmp 3) (.const (.pointer none)) 43) 4 (qv_eqlP un43 rfl) ?_
  refine go_nil ?_
  change G _ _ _ _
  refine p_weaken [0, 2, 4] rfl ?_
  refine p_condT (.tmp 4) (by kernel_rfl) rfl ?_
  refine p_seq0 ?_
  refine p_plain0 (0 :: []) ?_
  refine go_q0 2 (.assign (.const (.slice none 0 0))) 55 (qv_assign rfl) ?_
  refine go_nil ?_
  change G _ _ _ _
  refine p_weaken [0, 2] rfl ?_
  refine p_ret0 ?_
  try dsimp only [thenQ, inBlockQ]
  try rw [if_pos rfl]
  refine ret_now (.inr rfl) (.cons (res_tmp rfl) .nil) (by repeat constructor) ?_
  exact ⟨rfl, rfl⟩
theorem pu_Flush0 : Pu Tryz.prog 16 [.pointer none] (.slice none 0 0) := by
  refine ct_body (rv := [.tmp 2]) [(0, _)] Tryz.func16 (by kernel_rfl) Tryz.ntmps16 Tryz.results16 rfl rfl (fun w0 => ?_)
  refine p_seq0 ?_
  refine p_plain0 (0 :: []) ?_
  refine go_q0 2 (.assign (.const (.slice none 0 0))) 55 (qv_assign rfl) ?_
  refine go_nil ?_
  change G _ _ _ _
  refine p_seq0 ?_
  refine p_seq0 ?_
  refine p_plain0 (0 :: 1 :: []) ?_
  refine go_q0 3 (.move (.tmp 0)) 43 (qv_move rfl) ?_
  refine go_q0 4 (.binOp .eql 43 (.tmp 3) (.const (.pointer none)) 43) 4 (qv_eqlP un43 rfl) ?_
  refine go_nil ?_
  change G _ _ _ _
  refine p_weaken [0, 2, 4] rfl ?_
  refine p_condT (.tmp 4) (by kernel_rfl) rfl ?_
  refine p_seq0 ?_
  refine p_plain0 (0 :: []) ?_
  refine go_q0 2 (.assign (.const (.slice none 0 0))) 55 (qv_assign rfl) ?_
  refine go_nil ?_
  change G _ _ _ _
  refine p_weaken [0, 2] rfl ?_
  refine p_ret0 ?_
  try dsimp only [thenQ, inBlockQ]
  try rw [if_pos rfl]
  refine ret_now (.inr rfl) (.cons (res_tmp rfl) .nil) (by repeat constructor) ?_
  exact ⟨rfl, rfl⟩
theorem pu_Tick0 : Pu Tryz.prog 17 [.pointer none] (.int .u64 0) := by
  refine ct_body (rv := [.tmp 2]) [(0, _)] Tryz.func17 (by kernel_rfl) Tryz.ntmps17 Tryz.results17 rfl rfl (fun w0 => ?_)
  refine p_seq0 ?_
  refine p_plain0 (0 :: []) ?_
  refine go_q0 2 (.assign (.const (.int .u64 0))) 23 (qv_assign rfl) ?_
  refine go_nil ?_
  change G _ _ _ _
  refine p_seq0 ?_
  refine p_seq0 ?_
  refine p_plain0 (0 :: 1 :: []) ?_
  refine go_q0 3 (.move (.tmp 0)) 43 (qv_move rfl) ?_
  refine go_q0 4 (.binOp .eql 43 (.tmp 3) (.const (.pointer none)) 43) 4 (qv_eqlP un43 rfl) ?_
  refine go_nil ?_
  change G _ _ _ _
  refine p_weaken [0, 2, 4] rfl ?_
  refine p_condT (.tmp 4) (by kernel_rfl) rfl ?_
  refine p_seq0 ?_
  refine p_plain0 (0 :: []) ?_
  refine go_q0 2 (.assign (.const (.int .u64 0))) 23 (qv_assign rfl) ?_
  refine go_nil ?_
  change G _ _ _ _
  refine p_weaken [0, 2] rfl ?_
  refine p_ret0 ?_
  try dsimp only [thenQ, inBlockQ]
  try rw [if_pos rfl]
  refine ret_now (.inr rfl) (.cons (res_tmp rfl) .nil) (by repeat constructor) ?_
  exact ⟨rfl, rfl⟩
theorem pu_CClear0 : Pu Tryz.prog 29 [.pointer none] (.int .i64 0) := by
  refine ct_body (rv := [.tmp 2]) [(0, _)] Tryz.func29 (by kernel_rfl) Tryz.ntmps29 Tryz.results29 rfl rfl (fun w0 => ?_)
  refine p_seq0 ?_
  refine p_plain0 (0 :: []) ?_
  refine go_q0 2 (.assign (.const (.int .i64 0))) 3 (qv_assign rfl) ?_
  refine go_nil ?_
  change G _ _ _ _
  refine p_seq0 ?_
  refine p_seq0 ?_
  refine p_plain0 (0 :: 1 :: []) ?_
  refine go_q0 4 (.move (.tmp 0)) 43 (qv_move rfl) ?_
  refine go_q0 5 (.binOp .eql 43 (.tmp 4) (.const (.pointer none)) 43) 4 (qv_eqlP un43 rfl) ?_
  refine go_nil ?_
  change G _ _ _ _
  refine p_weaken [0, 2, 5] rfl ?_
  refine p_condT (.tmp 5) (by kernel_rfl) rfl ?_
  refine p_seq0 ?_
  refine p_plain0 (0 :: []) ?_
  refine go_q0 2 (.assign (.const (.int .i64 0))) 3 (qv_assign rfl) ?_
  refine go_nil ?_
  change G _ _ _ _
  refine p_weaken [0, 2] rfl ?_
  refine p_ret0 ?_
  try dsimp only [thenQ, inBlockQ]
  try rw [if_pos rfl]
  refine ret_now (.inr rfl) (.cons (res_tmp rfl) .nil) (by repeat constructor) ?_
  exact ⟨rfl, rfl⟩

def udpP (n : Int) : Pkt := { key := { zeroS.key with proto := 17, srcPort := n, dstPort := 53 }, length := 40, flags := 0, fragment := false }
theorem pu_udp1 (n : Int) : Pu Tryz.prog 30 [.int .u16 n] (.agg (udpP n).c) := by
  refine ct_body (rv := [.cell 2 31]) [(0, _)] Tryz.func30 (by kernel_rfl) Tryz.ntmps30 Tryz.results30 rfl rfl (fun w0 => ?_)
  refine p_seq0 ?_
  refine p_plain0 (0 :: []) ?_
  refine go_s0 (some 2) (.alloc 31) 0 ?_
  refine os_allocA rfl ze31 (fun b2 => ?_)
  refine go_nil ?_
  change G _ _ _ _
  refine p_seq0 ?_
  refine p_plain0 (0 :: 1 :: 2 :: 3 :: []) ?_
  refine go_q0 3 (.move (.tmp 0)) 27 (qv_move rfl) ?_
  refine go_q0 4 (.build 29 #[(2, .const (.int .u8 17)), (3, .tmp 3), (4, .const (.int .u16 53))]) 29 (qv_build (v := .agg (udpP n).key.c) rfl (fun w => by kernel_rfl)) ?_
  refine go_q0 5 (.build 31 #[(0, .tmp 4), (1, .const (.int .i64 40))]) 31 (qv_build (v := .agg (udpP n).c) rfl (fun w => by kernel_rfl)) ?_
  refine go_s0 none (.store 31 (.tmp 2) (.tmp 5)) 0 ?_
  refine os_store rfl rfl sz31 rfl (one_Pkt _) .auto (Nat.le_of_ble_eq_true rfl) (splw_Pkt _ _ (siz_Pkt _)) ?_
  refine go_nil ?_
  change G _ _ _ _
  refine p_weaken [2] rfl ?_
  refine p_ret0 ?_
  try dsimp only [thenQ, inBlockQ]
  try rw [if_pos rfl]
  refine ret_now (.inr rfl) (.cons (res_cell rfl (At.mem .auto) (ldv_agg agg31 (extw_Pkt _) (Nat.le_of_ble_eq_true rfl))) .nil) (by repeat constructor) ?_
  exact ⟨rfl, rfl⟩
theorem udpP_wf (n : Int) (h : InK .u16 n) : (udpP n).Wf :=
  ⟨⟨zeroS_wf.src_, zeroS_wf.dst_, ink17, h, ink53⟩, ⟨show IntKind.i64.min ≤ 40 by decide, show (40 : Int) ≤ IntKind.i64.max by decide⟩, z8⟩
def bW : Bnd := ⟨2, 5, 20, 3, 1000⟩
theorem bW_wf : bW.Wf := ⟨⟨by decide, by decide⟩, ⟨by decide, by decide⟩, ⟨by decide, by decide⟩, ⟨by decide, by decide⟩, ⟨by decide, by decide⟩⟩
def wA (n t : Int) : Rec := (startR (udpP n).key 0 t).with_ (udpP n) t
theorem acc_newW {n t t' : Int} {fl fl' out X : List Rec} (h : AccR bW t t' (udpP n) 0 fl fl' out) (hp : fl.Perm X) (ht : tickTo t t' = t') (hd : ∀ x ∈ X, ¬ dueR bW x ≤ t') (hk : (udpP n).key ∉ keysOf X) (hl : (X.length : Int) < 2) : out = [] ∧ fl'.Perm (wA n t' :: X) := by
  have hz : endZ bW (udpP n) (wA n t') = 0 := rfl
  have := acc_new h hp hd hk hl (by rw [ht]; exact hz)
  rw [ht] at this
  exact this
theorem i64k (n : Int) (h : 0 ≤ n ∧ n < 100) : InK .u64 n := ⟨h.1, by show n ≤ 18446744073709551615; omega⟩
def wB : Rec := (wA 1 1).with_ (udpP 1) 3
theorem wk1 : (udpP 1).Wf := udpP_wf 1 ⟨by decide, by decide⟩
theorem wk2 : (udpP 2).Wf := udpP_wf 2 ⟨by decide, by decide⟩
theorem wk3 : (udpP 3).Wf := udpP_wf 3 ⟨by decide, by decide⟩
theorem wr1 : (udpP 1).key.right = true := by decide
theorem wr2 : (udpP 2).key.right = true := by decide
theorem wr3 : (udpP 3).key.right = true := by decide
theorem pu_works24 : Pu Tryz.prog 9 [] (.bool true) := by
  refine ct_body (rv := [.tmp 0]) [] Tryz.func9 (by kernel_rfl) Tryz.ntmps9 Tryz.results9 rfl rfl (fun w0 => ?_)
  refine p_seq0 ?_
  refine p_plain0 (0 :: []) ?_
  refine go_q0 0 (.assign (.const (.bool false))) 4 (qv_assign rfl) ?_
  refine go_nil ?_
  change G _ _ _ _
  refine p_seq0 ?_
  refine p_plain0 (0 :: 1 :: 2 :: 3 :: 4 :: 5 :: 6 :: []) ?_
  refine go_q0 20 (.build 36 #[(0, .const (.int .i64 2)), (1, .const (.int .u64 5)), (2, .const (.int .u64 20)), (3, .const (.int .u64 3)), (4, .const (.int .u64 1000))]) 36 (qv_build (v := .agg bW.c) rfl (fun w => by kernel_rfl)) ?_
  refine go_s0 (some 21) (.call { callee := .value (.func 10), args := #[.const (.int .u64 0), .tmp 20], argTypes := #[23, 36] }) 45 ?_
  refine os_call (Nat.le_of_ble_eq_true rfl) en10 rfl .auto (ct_CNew (tick := 0) (b := bW) (by decide) bW_wf) ?_
  rintro v21 A21 ⟨bc, rfl, hM0⟩
  try dsimp only [List.nil_append, List.cons_append]
  refine go_q0 19 (.move (.tmp 21)) 45 (qv_move rfl) ?_
  refine go_q0 22 (.extract (.tmp 19) 0) 43 (qv_extract rfl rfl) ?_
  refine go_q0 23 (.extract (.tmp 19) 1) 44 (qv_extract rfl rfl) ?_
  refine go_q0 1 (.assign (.tmp 22)) 43 (qv_assign rfl) ?_
  refine go_q0 2 (.assign (.tmp 23)) 44 (qv_assign rfl) ?_
  refine go_nil ?_
  change G _ _ _ _
  refine p_weaken [0, 1, 2] rfl ?_
  refine p_seq0 ?_
  refine p_seq0 ?_
  refine p_plain0 (0 :: 1 :: []) ?_
  refine go_q0 24 (.move (.tmp 2)) 44 (qv_move rfl) ?_
  refine go_q0 25 (.binOp .neq 44 (.tmp 24) (.const (.int .i64 0)) 44) 4 (qv_neq (b := false) rfl rfl (by decide)) ?_
  refine go_nil ?_
  change G _ _ _ _
  refine p_weaken [0, 1, 25] rfl ?_
  refine p_condF (.tmp 25) (by kernel_rfl) rfl ?_
  refine p_skip0 ?_
  change G _ _ _ _
  refine p_weaken [0, 1] rfl ?_
  refine p_seq0 ?_
  refine p_plain0 (0 :: 1 :: 2 :: []) ?_
  refine go_s0 (some 26) (.call { callee := .value (.func 30), args := #[.const (.int .u16 1)], argTypes := #[27] }) 31 ?_
  refine os_callP rfl en30 rfl (pu_udp1 1) ?_
  refine go_s0 (some 3) (.alloc 31) 0 ?_
  refine os_allocA rfl ze31 (fun b3 => ?_)
  refine go_s0 none (.store 31 (.tmp 3) (.tmp 26)) 0 ?_
  refine os_store rfl rfl sz31 rfl (one_Pkt _) .auto (Nat.le_of_ble_eq_true rfl) (splw_Pkt _ _ (siz_Pkt _)) ?_
  refine go_nil ?_
  change G _ _ _ _
  refine p_weaken [0, 1, 3] rfl ?_
  refine p_seq0 ?_
  refine p_plain0 (0 :: 1 :: 2 :: 3 :: 4 :: 5 :: 6 :: 7 :: []) ?_
  refine go_q0 28 (.move (.tmp 1)) 43 (qv_move rfl) ?_
  refine go_q0 29 (.load 31 (.tmp 3)) 31 (qv_load rfl .auto (ldv_agg agg31 (extw_Pkt _) (Nat.le_of_ble_eq_true rfl))) ?_
  refine go_s0 (some 30) (.call { callee := .value (.func 21), args := #[.tmp 28, .tmp 29, .const (.int .u8 0), .const (.int .u64 1)], argTypes := #[43, 31, 5, 23] }) 61 ?_
  refine os_call (Nat.le_of_ble_eq_true rfl) en21 rfl .auto (ct_Account hM0 wk1 wr1 (i64k 0 (by decide)) (i64k 1 (by decide)) z8) ?_
  rintro v30 A30 ⟨fl1, out1, q1, k1, B1, M1, hA1, rfl, hO1, hM1, rfl⟩
  try dsimp only [List.nil_append, List.cons_append]
  obtain ⟨rfl, hP1⟩ := acc_newW hA1 (List.Perm.refl _) rfl (by decide) (by decide) (by decide)
  replace hM1 : CacM bc 1 bW fl1 M1 := hM1
  refine go_q0 27 (.move (.tmp 30)) 61 (qv_move rfl) ?_
  refine go_q0 31 (.extract (.tmp 27) 0) 55 (qv_extract rfl rfl) ?_
  refine go_q0 32 (.extract (.tmp 27) 1) 44 (qv_extract rfl rfl) ?_
  refine go_q0 4 (.assign (.tmp 31)) 55 (qv_assign rfl) ?_
  refine go_q0 5 (.assign (.tmp 32)) 44 (qv_assign rfl) ?_
  refine go_nil ?_
  change G _ _ _ _
  refine p_weaken [0, 1, 3, 4] rfl ?_
  refine p_seq0 ?_
  refine p_drop (M1 ++ [(b3, .cells (udpP 1).c 31 (0, 0))]) .auto ?_
  refine p_plain0 (0 :: 1 :: 2 :: 3 :: 4 :: 5 :: 6 :: 7 :: []) ?_
  refine go_q0 34 (.move (.tmp 1)) 43 (qv_move rfl) ?_
  refine go_q0 35 (.load 31 (.tmp 3)) 31 (qv_load rfl .auto (ldv_agg agg31 (extw_Pkt _) (Nat.le_of_ble_eq_true rfl))) ?_
  refine go_s0 (some 36) (.call { callee := .value (.func 21), args := #[.tmp 34, .tmp 35, .const (.int .u8 0), .const (.int .u64 3)], argTypes := #[43, 31, 5, 23] }) 61 ?_
  refine os_call (Nat.le_of_ble_eq_true rfl) en21 rfl .auto (ct_Account hM1 wk1 wr1 (i64k 1 (by decide)) (i64k 3 (by decide)) z8) ?_
  rintro v36 A36 ⟨fl2, out2, q2, k2, B2, M2, hA2, rfl, hO2, hM2, rfl⟩
  try dsimp only [List.nil_append, List.cons_append]
  obtain ⟨rfl, hP2⟩ := acc_more hA2 hP1 (by decide) rfl (by decide) rfl
  obtain rfl := List.perm_singleton.1 hP2
  replace hM2 : CacM bc 3 bW [wB] M2 := hM2
  have hN := ct_Next hM2
  rw [show nextS bW [wB] = some 8 from rfl] at hN
  refine go_q0 33 (.move (.tmp 36)) 61 (qv_move rfl) ?_
  refine go_q0 37 (.extract (.tmp 33) 0) 55 (qv_extract rfl rfl) ?_
  refine go_q0 38 (.extract (.tmp 33) 1) 44 (qv_extract rfl rfl) ?_
  refine go_q0 6 (.assign (.tmp 37)) 55 (qv_assign rfl) ?_
  refine go_q0 7 (.assign (.tmp 38)) 44 (qv_assign rfl) ?_
  refine go_nil ?_
  change G _ _ _ _
  refine p_weaken [0, 1, 3, 4, 6] rfl ?_
  refine p_seq0 ?_
  refine p_drop (M2 ++ [(b3, .cells (udpP 1).c 31 (0, 0))]) .auto ?_
  refine p_plain0 (0 :: 1 :: 2 :: 3 :: 4 :: 5 :: 6 :: []) ?_
  refine go_q0 40 (.move (.tmp 1)) 43 (qv_move rfl) ?_
  refine go_s0 (some 41) (.call { callee := .value (.func 27), args := #[.tmp 40], argTypes := #[43] }) 72 ?_
  refine os_pv rfl (pv_callR en27 rfl .auto (hN)) ?_
  refine go_q0 39 (.move (.tmp 41)) 72 (qv_move rfl) ?_
  refine go_q0 42 (.extract (.tmp 39) 0) 23 (qv_extract rfl rfl) ?_
  refine go_q0 43 (.extract (.tmp 39) 1) 4 (qv_extract rfl rfl) ?_
  refine go_q0 8 (.assign (.tmp 42)) 23 (qv_assign rfl) ?_
  refine go_q0 9 (.assign (.tmp 43)) 4 (qv_assign rfl) ?_
  refine go_nil ?_
  change G _ _ _ _
  refine p_weaken [0, 1, 3, 4, 6, 8, 9] rfl ?_
  refine p_seq0 ?_
  refine p_plain0 (0 :: 1 :: 2 :: []) ?_
  refine go_q0 44 (.move (.tmp 1)) 43 (qv_move rfl) ?_
  refine go_s0 (some 45) (.call { callee := .value (.func 18), args := #[.tmp 44, .const (.int .u64 8)], argTypes := #[43, 23] }) 55 ?_
  refine os_call (Nat.le_of_ble_eq_true rfl) en18 rfl .auto (ct_AdvanceAny 8 hM2) ?_
  rintro v45 A45 ⟨fl3, out3, q3, k3, B3, M3, hA3, rfl, hO3, hM3, rfl⟩
  try dsimp only [List.nil_append, List.cons_append]
  obtain ⟨rfl, rfl⟩ := adv_one hA3 (by decide) (List.Perm.refl _) (by decide)
  obtain ⟨g3, cur3, rfl, rfl, _, _, hc3, H3⟩ := hO3.some_ (by decide)
  replace hM3 : CacM bc 8 bW [] M3 := hM3
  refine go_q0 10 (.assign (.tmp 45)) 55 (qv_assign rfl) ?_
  refine go_nil ?_
  change G _ _ _ _
  refine p_weaken [0, 1, 3, 4, 6, 8, 9, 10] rfl ?_
  refine p_seq0 ?_
  refine p_plain0 (0 :: 1 :: 2 :: 3 :: 4 :: 5 :: 6 :: 7 :: 8 :: 9 :: 10 :: 11 :: 12 :: 13 :: 14 :: 15 :: 16 :: 17 :: 18 :: 19 :: 20 :: 21 :: 22 :: 23 :: 24 :: 25 :: 26 :: 27 :: 28 :: 29 :: 30 :: 31 :: 32 :: 33 :: 34 :: []) ?_
  refine go_q0 46 (.move (.tmp 4)) 55 (qv_move rfl) ?_
  refine go_q0 47 (.call { callee := .builtin .len, args := #[.tmp 46], argTypes := #[55] }) 3 (qv_lenS un55 rfl) ?_
  refine go_q0 48 (.binOp .eql 3 (.tmp 47) (.const (.int .i64 0)) 3) 4 (qv_eql (b := true) rfl rfl (by decide)) ?_
  refine go_q0 49 (.move (.tmp 48)) 4 (qv_move rfl) ?_
  refine go_q (d := 50) (op := .move (.tmp 6)) (ty := 55) (g := some (3, true)) (by kernel_rfl) ⟨49, by kernel_rfl, rfl⟩ rfl (qv_move rfl) ?_
  refine go_q (d := 51) (op := .call { callee := .builtin .len, args := #[.tmp 50], argTypes := #[55] }) (ty := 3) (g := some (3, true)) (by kernel_rfl) ⟨49, by kernel_rfl, rfl⟩ rfl (qv_lenS un55 rfl) ?_
  refine go_q (d := 52) (op := .binOp .eql 3 (.tmp 51) (.const (.int .i64 0)) 3) (ty := 4) (g := some (3, true)) (by kernel_rfl) ⟨49, by kernel_rfl, rfl⟩ rfl (qv_eql (b := true) rfl rfl (by decide)) ?_
  refine go_q0 53 (.pick (.tmp 49) (.tmp 52) (.const (.bool false))) 4 (qv_pick_t rfl rfl) ?_
  refine go_q0 54 (.move (.tmp 53)) 4 (qv_move rfl) ?_
  refine go_q (d := 55) (op := .move (.tmp 8)) (ty := 23) (g := some (8, true)) (by kernel_rfl) ⟨54, by kernel_rfl, rfl⟩ rfl (qv_move rfl) ?_
  refine go_q (d := 56) (op := .binOp .eql 23 (.tmp 55) (.const (.int .u64 8)) 23) (ty := 4) (g := some (8, true)) (by kernel_rfl) ⟨54, by kernel_rfl, rfl⟩ rfl (qv_eql (b := true) rfl rfl (by decide)) ?_
  refine go_q0 57 (.pick (.tmp 54) (.tmp 56) (.const (.bool false))) 4 (qv_pick_t rfl rfl) ?_
  refine go_q0 58 (.move (.tmp 57)) 4 (qv_move rfl) ?_
  refine go_q (d := 59) (op := .move (.tmp 9)) (ty := 4) (g := some (12, true)) (by kernel_rfl) ⟨58, by kernel_rfl, rfl⟩ rfl (qv_move rfl) ?_
  refine go_q0 60 (.pick (.tmp 58) (.tmp 59) (.const (.bool false))) 4 (qv_pick_t rfl rfl) ?_
  refine go_q0 61 (.move (.tmp 60)) 4 (qv_move rfl) ?_
  refine go_q (d := 62) (op := .move (.tmp 10)) (ty := 55) (g := some (15, true)) (by kernel_rfl) ⟨61, by kernel_rfl, rfl⟩ rfl (qv_move rfl) ?_
  refine go_q (d := 63) (op := .call { callee := .builtin .len, args := #[.tmp 62], argTypes := #[55] }) (ty := 3) (g := some (15, true)) (by kernel_rfl) ⟨61, by kernel_rfl, rfl⟩ rfl (qv_lenS un55 rfl) ?_
  refine go_q (d := 64) (op := .binOp .eql 3 (.tmp 63) (.const (.int .i64 1)) 3) (ty := 4) (g := some (15, true)) (by kernel_rfl) ⟨61, by kernel_rfl, rfl⟩ rfl (qv_eql (b := true) rfl rfl (by decide)) ?_
  refine go_q0 65 (.pick (.tmp 61) (.tmp 64) (.const (.bool false))) 4 (qv_pick_t rfl rfl) ?_
  refine go_q0 66 (.move (.tmp 65)) 4 (qv_move rfl) ?_
  refine go_q (d := 67) (op := .move (.tmp 10)) (ty := 55) (g := some (20, true)) (by kernel_rfl) ⟨66, by kernel_rfl, rfl⟩ rfl (qv_move rfl) ?_
  refine go_q (d := 68) (op := .indexAddr 55 (.tmp 67) (.const (.int .i64 0))) (ty := 0) (g := some (20, true)) (by kernel_rfl) ⟨66, by kernel_rfl, rfl⟩ rfl (qv_index un55 sz69 rfl rfl (j := 0) rfl (by decide)) ?_
  refine go_q (d := 69) (op := .fieldAddr 69 (.tmp 68) 1) (ty := 0) (g := some (20, true)) (by kernel_rfl) ⟨66, by kernel_rfl, rfl⟩ rfl (qv_field rfl fd69_1) ?_
  refine go_q (d := 70) (op := .load 23 (.tmp 69)) (ty := 23) (g := some (20, true)) (by kernel_rfl) ⟨66, by kernel_rfl, rfl⟩ rfl (qv_load rfl .auto (ldv_el (i := 0) H3 rfl sc23 (get_Rec_37 _) rfl)) ?_
  refine go_q (d := 71) (op := .binOp .eql 23 (.tmp 70) (.const (.int .u64 2)) 23) (ty := 4) (g := some (20, true)) (by kernel_rfl) ⟨66, by kernel_rfl, rfl⟩ rfl (qv_eql (b := true) rfl rfl (by decide)) ?_
  refine go_q0 72 (.pick (.tmp 66) (.tmp 71) (.const (.bool false))) 4 (qv_pick_t rfl rfl) ?_
  refine go_q0 73 (.move (.tmp 72)) 4 (qv_move rfl) ?_
  refine go_q (d := 74) (op := .move (.tmp 10)) (ty := 55) (g := some (27, true)) (by kernel_rfl) ⟨73, by kernel_rfl, rfl⟩ rfl (qv_move rfl) ?_
  refine go_q (d := 75) (op := .indexAddr 55 (.tmp 74) (.const (.int .i64 0))) (ty := 0) (g := some (27, true)) (by kernel_rfl) ⟨73, by kernel_rfl, rfl⟩ rfl (qv_index un55 sz69 rfl rfl (j := 0) rfl (by decide)) ?_
  refine go_q (d := 76) (op := .fieldAddr 69 (.tmp 75) 6) (ty := 0) (g := some (27, true)) (by kernel_rfl) ⟨73, by kernel_rfl, rfl⟩ rfl (qv_field rfl fd69_6) ?_
  refine go_q (d := 77) (op := .load 5 (.tmp 76)) (ty := 5) (g := some (27, true)) (by kernel_rfl) ⟨73, by kernel_rfl, rfl⟩ rfl (qv_load rfl .auto (ldv_el (i := 0) H3 rfl sc5 (get_Rec_42 _) rfl)) ?_
  refine go_q (d := 78) (op := .binOp .eql 5 (.tmp 77) (.const (.int .u8 1)) 5) (ty := 4) (g := some (27, true)) (by kernel_rfl) ⟨73, by kernel_rfl, rfl⟩ rfl (qv_eql (b := true) rfl rfl (by decide)) ?_
  refine go_q0 79 (.pick (.tmp 73) (.tmp 78) (.const (.bool false))) 4 (qv_pick_t rfl rfl) ?_
  refine go_q0 11 (.assign (.tmp 79)) 4 (qv_assign rfl) ?_
  refine go_nil ?_
  change G _ _ _ _
  refine p_weaken [0, 1, 3, 11] rfl ?_
  refine p_seq0 ?_
  refine p_drop (M3 ++ [(b3, .cells (udpP 1).c 31 (0, 0))]) .auto ?_
  refine p_plain0 (0 :: 1 :: 2 :: []) ?_
  refine go_q0 80 (.move (.tmp 1)) 43 (qv_move rfl) ?_
  refine go_q0 81 (.load 31 (.tmp 3)) 31 (qv_load rfl .auto (ldv_agg agg31 (extw_Pkt _) (Nat.le_of_ble_eq_true rfl))) ?_
  refine go_s0 (some 82) (.call { callee := .value (.func 21), args := #[.tmp 80, .tmp 81, .const (.int .u8 0), .const (.int .u64 9)], argTypes := #[43, 31, 5, 23] }) 61 ?_
  refine os_call (Nat.le_of_ble_eq_true rfl) en21 rfl .auto (ct_Account hM3 wk1 wr1 (i64k 8 (by decide)) (i64k 9 (by decide)) z8) ?_
  rintro v82 A82 ⟨fl4, out4, q4, k4, B4, M4, hA4, rfl, hO4, hM4, rfl⟩
  try dsimp only [List.nil_append, List.cons_append]
  obtain ⟨rfl, hP4⟩ := acc_newW hA4 (List.Perm.refl _) rfl (by decide) (by decide) (by decide)
  replace hM4 : CacM bc 9 bW fl4 M4 := hM4
  refine go_nil ?_
  change G _ _ _ _
  refine p_weaken [0, 1, 3, 11] rfl ?_
  refine p_seq0 ?_
  refine p_drop (M4 ++ [(b3, .cells (udpP 1).c 31 (0, 0))]) .auto ?_
  refine p_plain0 (0 :: 1 :: 2 :: []) ?_
  refine go_q0 83 (.move (.tmp 1)) 43 (qv_move rfl) ?_
  refine go_s0 (some 84) (.call { callee := .value (.func 30), args := #[.const (.int .u16 2)], argTypes := #[27] }) 31 ?_
  refine os_callP rfl en30 rfl (pu_udp1 2) ?_
  refine go_s0 (some 85) (.call { callee := .value (.func 21), args := #[.tmp 83, .tmp 84, .const (.int .u8 0), .const (.int .u64 10)], argTypes := #[43, 31, 5, 23] }) 61 ?_
  refine os_call (Nat.le_of_ble_eq_true rfl) en21 rfl .auto (ct_Account hM4 wk2 wr2 (i64k 9 (by decide)) (i64k 10 (by decide)) z8) ?_
  rintro v85 A85 ⟨fl5, out5, q5, k5, B5, M5, hA5, rfl, hO5, hM5, rfl⟩
  try dsimp only [List.nil_append, List.cons_append]
  obtain ⟨rfl, hP5⟩ := acc_newW hA5 hP4 rfl (by decide) (by decide) (by decide)
  replace hM5 : CacM bc 10 bW fl5 M5 := hM5
  refine go_nil ?_
  change G _ _ _ _
  refine p_weaken [0, 1, 3, 11] rfl ?_
  refine p_seq0 ?_
  refine p_drop (M5 ++ [(b3, .cells (udpP 1).c 31 (0, 0))]) .auto ?_
  refine p_plain0 (0 :: 1 :: 2 :: 3 :: 4 :: 5 :: 6 :: 7 :: []) ?_
  refine go_q0 87 (.move (.tmp 1)) 43 (qv_move rfl) ?_
  refine go_s0 (some 88) (.call { callee := .value (.func 30), args := #[.const (.int .u16 3)], argTypes := #[27] }) 31 ?_
  refine os_callP rfl en30 rfl (pu_udp1 3) ?_
  refine go_s0 (some 89) (.call { callee := .value (.func 21), args := #[.tmp 87, .tmp 88, .const (.int .u8 0), .const (.int .u64 11)], argTypes := #[43, 31, 5, 23] }) 61 ?_
  refine os_call (Nat.le_of_ble_eq_true rfl) en21 rfl .auto (ct_Account hM5 wk3 wr3 (i64k 10 (by decide)) (i64k 11 (by decide)) z8) ?_
  rintro v89 A89 ⟨fl6, out6, q6, k6, B6, M6, hA6, rfl, hO6, hM6, rfl⟩
  try dsimp only [List.nil_append, List.cons_append]
  obtain ⟨rfl, hP6⟩ := acc_full hA6 (hP5.trans (.swap _ _ _)) (by decide) (by decide) rfl (by decide) rfl
  replace hM6 : CacM bc 11 bW fl6 M6 := hM6
  replace hP6 : fl6.Perm [wA 3 11, wA 2 10] := hP6
  obtain ⟨g6, cur6, rfl, rfl, _, _, hc6, H6⟩ := hO6.some_ (by decide)
  refine go_q0 86 (.move (.tmp 89)) 61 (qv_move rfl) ?_
  refine go_q0 90 (.extract (.tmp 86) 0) 55 (qv_extract rfl rfl) ?_
  refine go_q0 91 (.extract (.tmp 86) 1) 44 (qv_extract rfl rfl) ?_
  refine go_q0 12 (.assign (.tmp 90)) 55 (qv_assign rfl) ?_
  refine go_q0 13 (.assign (.tmp 91)) 44 (qv_assign rfl) ?_
  refine go_nil ?_
  change G _ _ _ _
  refine p_weaken [0, 1, 3, 11, 12] rfl ?_
  refine p_seq0 ?_
  refine p_draw (by kernel_rfl) mixed 19 20 _ (fun _ h => h) (by kernel_rfl) ?_
  refine gd_all (0 :: 1 :: 2 :: 3 :: 4 :: 5 :: 6 :: 7 :: 8 :: 9 :: 10 :: 11 :: 12 :: 13 :: 14 :: 15 :: 16 :: 17 :: 18 :: []) _ rfl (by kernel_rfl) (by decide) (fun _ h => h) rfl ?_
  refine sq_q0 92 (.move (.tmp 12)) 55 (qv_move rfl) ?_
  refine sq_q0 93 (.call { callee := .builtin .len, args := #[.tmp 92], argTypes := #[55] }) 3 (qv_lenS un55 rfl) ?_
  refine sq_q0 94 (.binOp .eql 3 (.tmp 93) (.const (.int .i64 1)) 3) 4 (qv_eql (b := true) rfl rfl (by decide)) ?_
  refine sq_q0 95 (.move (.tmp 94)) 4 (qv_move rfl) ?_
  refine sq_q (d := 96) (op := .move (.tmp 12)) (ty := 55) (g := some (3, true)) (by kernel_rfl) ⟨95, by kernel_rfl, rfl⟩ (fun _ h => nomatch h) (qv_move rfl) ?_
  refine sq_q (d := 97) (op := .indexAddr 55 (.tmp 96) (.const (.int .i64 0))) (ty := 0) (g := some (3, true)) (by kernel_rfl) ⟨95, by kernel_rfl, rfl⟩ (fun _ h => nomatch h) (qv_index un55 sz69 rfl rfl (j := 0) rfl (by decide)) ?_
  refine sq_q (d := 98) (op := .fieldAddr 69 (.tmp 97) 0) (ty := 0) (g := some (3, true)) (by kernel_rfl) ⟨95, by kernel_rfl, rfl⟩ (fun _ h => nomatch h) (qv_field rfl fd69_0) ?_
  refine sq_q (d := 99) (op := .load 29 (.tmp 98)) (ty := 29) (g := some (3, true)) (by kernel_rfl) ⟨95, by kernel_rfl, rfl⟩ (fun _ h => nomatch h) (qv_load rfl .auto (ldv_elp (i := 0) H6 rfl agg29 (ext_Rec_0_37 _) (by decide) (by decide) rfl)) ?_
  refine sq_q (d := 100) (op := .fieldAddr 31 (.tmp 3) 0) (ty := 0) (g := some (3, true)) (by kernel_rfl) ⟨95, by kernel_rfl, rfl⟩ (fun _ h => nomatch h) (qv_field rfl fd31_0) ?_
  refine sq_q (d := 101) (op := .load 29 (.tmp 100)) (ty := 29) (g := some (3, true)) (by kernel_rfl) ⟨95, by kernel_rfl, rfl⟩ (fun _ h => nomatch h) (qv_load rfl .auto (ldv_agg agg29 (ext_Pkt_0_37 _) (Nat.le_of_ble_eq_true rfl))) ?_
  refine sq_q (d := 102) (op := .binOp .eql 29 (.tmp 99) (.tmp 101) 29) (ty := 4) (g := some (3, true)) (by kernel_rfl) ⟨95, by kernel_rfl, rfl⟩ (fun _ h => nomatch h) (qv_eql_29 (b := true) rfl rfl (by decide)) ?_
  refine sq_q0 103 (.pick (.tmp 95) (.tmp 102) (.const (.bool false))) 4 (qv_pick_t rfl rfl) ?_
  refine sq_q0 104 (.move (.tmp 103)) 4 (qv_move rfl) ?_
  refine sq_q (d := 105) (op := .move (.tmp 12)) (ty := 55) (g := some (12, true)) (by kernel_rfl) ⟨104, by kernel_rfl, rfl⟩ (fun _ h => nomatch h) (qv_move rfl) ?_
  refine sq_q (d := 106) (op := .indexAddr 55 (.tmp 105) (.const (.int .i64 0))) (ty := 0) (g := some (12, true)) (by kernel_rfl) ⟨104, by kernel_rfl, rfl⟩ (fun _ h => nomatch h) (qv_index un55 sz69 rfl rfl (j := 0) rfl (by decide)) ?_
  refine sq_q (d := 107) (op := .fieldAddr 69 (.tmp 106) 6) (ty := 0) (g := some (12, true)) (by kernel_rfl) ⟨104, by kernel_rfl, rfl⟩ (fun _ h => nomatch h) (qv_field rfl fd69_6) ?_
  refine sq_q (d := 108) (op := .load 5 (.tmp 107)) (ty := 5) (g := some (12, true)) (by kernel_rfl) ⟨104, by kernel_rfl, rfl⟩ (fun _ h => nomatch h) (qv_load rfl .auto (ldv_el (i := 0) H6 rfl sc5 (get_Rec_42 _) rfl)) ?_
  refine sq_q (d := 109) (op := .binOp .eql 5 (.tmp 108) (.const (.int .u8 5)) 5) (ty := 4) (g := some (12, true)) (by kernel_rfl) ⟨104, by kernel_rfl, rfl⟩ (fun _ h => nomatch h) (qv_eql (b := true) rfl rfl (by decide)) ?_
  refine sq_q0 110 (.pick (.tmp 104) (.tmp 109) (.const (.bool false))) 4 (qv_pick_t rfl rfl) ?_
  refine SeqK.nil (fun β => ?_)
  refine gd_tail [19] rfl (by kernel_rfl) (by kernel_rfl) ?_
  refine go_q0 14 (.assign (.tmp 110)) 4 (qv_assign rfl) ?_
  refine go_nil ?_
  change G _ _ _ _
  refine p_weaken [0, 1, 11, 14] rfl ?_
  refine p_seq0 ?_
  refine p_drop (M6) .auto ?_
  refine p_plain0 (0 :: 1 :: 2 :: 3 :: 4 :: 5 :: 6 :: 7 :: []) ?_
  refine go_q0 112 (.move (.tmp 1)) 43 (qv_move rfl) ?_
  refine go_s0 (some 113) (.call { callee := .value (.func 30), args := #[.const (.int .u16 2)], argTypes := #[27] }) 31 ?_
  refine os_callP rfl en30 rfl (pu_udp1 2) ?_
  refine go_s0 (some 114) (.call { callee := .value (.func 21), args := #[.tmp 112, .tmp 113, .const (.int .u8 0), .const (.int .u64 12)], argTypes := #[43, 31, 5, 23] }) 61 ?_
  refine os_call (Nat.le_of_ble_eq_true rfl) en21 rfl .auto (ct_Account hM6 wk2 wr2 (i64k 11 (by decide)) (i64k 12 (by decide)) z8) ?_
  rintro v114 A114 ⟨fl7, out7, q7, k7, B7, M7, hA7, rfl, hO7, hM7, rfl⟩
  try dsimp only [List.nil_append, List.cons_append]
  obtain ⟨rfl, hP7⟩ := acc_more hA7 (hP6.trans (.swap _ _ _)) (by decide) rfl (by decide) rfl
  replace hM7 : CacM bc 12 bW fl7 M7 := hM7
  refine go_q0 111 (.move (.tmp 114)) 61 (qv_move rfl) ?_
  refine go_q0 115 (.extract (.tmp 111) 0) 55 (qv_extract rfl rfl) ?_
  refine go_q0 116 (.extract (.tmp 111) 1) 44 (qv_extract rfl rfl) ?_
  refine go_q0 15 (.assign (.tmp 115)) 55 (qv_assign rfl) ?_
  refine go_q0 16 (.assign (.tmp 116)) 44 (qv_assign rfl) ?_
  refine go_nil ?_
  change G _ _ _ _
  refine p_weaken [0, 1, 11, 14, 15] rfl ?_
  refine p_seq0 ?_
  refine p_drop (M7) .auto ?_
  refine p_plain0 (0 :: 1 :: 2 :: 3 :: 4 :: 5 :: 6 :: 7 :: []) ?_
  refine go_q0 118 (.move (.tmp 1)) 43 (qv_move rfl) ?_
  refine go_s0 (some 119) (.call { callee := .value (.func 30), args := #[.const (.int .u16 2)], argTypes := #[27] }) 31 ?_
  refine os_callP rfl en30 rfl (pu_udp1 2) ?_
  refine go_s0 (some 120) (.call { callee := .value (.func 21), args := #[.tmp 118, .tmp 119, .const (.int .u8 0), .const (.int .u64 12)], argTypes := #[43, 31, 5, 23] }) 61 ?_
  refine os_call (Nat.le_of_ble_eq_true rfl) en21 rfl .auto (ct_Account hM7 wk2 wr2 (i64k 12 (by decide)) (i64k 12 (by decide)) z8) ?_
  rintro v120 A120 ⟨fl8, out8, q8, k8, B8, M8, hA8, rfl, hO8, hM8, rfl⟩
  try dsimp only [List.nil_append, List.cons_append]
  obtain ⟨rfl, hP8⟩ := acc_done hA8 hP7 (by decide) rfl (by decide) (by decide)
  obtain ⟨g8, cur8, rfl, rfl, _, _, hc8, H8⟩ := hO8.some_ (by decide)
  refine go_q0 117 (.move (.tmp 120)) 61 (qv_move rfl) ?_
  refine go_q0 121 (.extract (.tmp 117) 0) 55 (qv_extract rfl rfl) ?_
  refine go_q0 122 (.extract (.tmp 117) 1) 44 (qv_extract rfl rfl) ?_
  refine go_q0 17 (.assign (.tmp 121)) 55 (qv_assign rfl) ?_
  refine go_q0 18 (.assign (.tmp 122)) 44 (qv_assign rfl) ?_
  refine go_nil ?_
  change G _ _ _ _
  refine p_weaken [0, 11, 14, 15, 17] rfl ?_
  refine p_seq0 ?_
  refine p_plain0 (0 :: 1 :: 2 :: 3 :: 4 :: 5 :: 6 :: 7 :: 8 :: 9 :: 10 :: 11 :: 12 :: 13 :: 14 :: 15 :: 16 :: 17 :: 18 :: 19 :: 20 :: 21 :: 22 :: 23 :: 24 :: 25 :: 26 :: 27 :: 28 :: []) ?_
  refine go_q0 123 (.move (.tmp 11)) 4 (qv_move rfl) ?_
  refine go_q0 124 (.move (.tmp 123)) 4 (qv_move rfl) ?_
  refine go_q (d := 125) (op := .move (.tmp 14)) (ty := 4) (g := some (1, true)) (by kernel_rfl) ⟨124, by kernel_rfl, rfl⟩ rfl (qv_move rfl) ?_
  refine go_q0 126 (.pick (.tmp 124) (.tmp 125) (.const (.bool false))) 4 (qv_pick_t rfl rfl) ?_
  refine go_q0 127 (.move (.tmp 126)) 4 (qv_move rfl) ?_
  refine go_q (d := 128) (op := .move (.tmp 15)) (ty := 55) (g := some (4, true)) (by kernel_rfl) ⟨127, by kernel_rfl, rfl⟩ rfl (qv_move rfl) ?_
  refine go_q (d := 129) (op := .call { callee := .builtin .len, args := #[.tmp 128], argTypes := #[55] }) (ty := 3) (g := some (4, true)) (by kernel_rfl) ⟨127, by kernel_rfl, rfl⟩ rfl (qv_lenS un55 rfl) ?_
  refine go_q (d := 130) (op := .binOp .eql 3 (.tmp 129) (.const (.int .i64 0)) 3) (ty := 4) (g := some (4, true)) (by kernel_rfl) ⟨127, by kernel_rfl, rfl⟩ rfl (qv_eql (b := true) rfl rfl (by decide)) ?_
  refine go_q0 131 (.pick (.tmp 127) (.tmp 130) (.const (.bool false))) 4 (qv_pick_t rfl rfl) ?_
  refine go_q0 132 (.move (.tmp 131)) 4 (qv_move rfl) ?_
  refine go_q (d := 133) (op := .move (.tmp 17)) (ty := 55) (g := some (9, true)) (by kernel_rfl) ⟨132, by kernel_rfl, rfl⟩ rfl (qv_move rfl) ?_
  refine go_q (d := 134) (op := .call { callee := .builtin .len, args := #[.tmp 133], argTypes := #[55] }) (ty := 3) (g := some (9, true)) (by kernel_rfl) ⟨132, by kernel_rfl, rfl⟩ rfl (qv_lenS un55 rfl) ?_
  refine go_q (d := 135) (op := .binOp .eql 3 (.tmp 134) (.const (.int .i64 1)) 3) (ty := 4) (g := some (9, true)) (by kernel_rfl) ⟨132, by kernel_rfl, rfl⟩ rfl (qv_eql (b := true) rfl rfl (by decide)) ?_
  refine go_q0 136 (.pick (.tmp 132) (.tmp 135) (.const (.bool false))) 4 (qv_pick_t rfl rfl) ?_
  refine go_q0 137 (.move (.tmp 136)) 4 (qv_move rfl) ?_
  refine go_q (d := 138) (op := .move (.tmp 17)) (ty := 55) (g := some (14, true)) (by kernel_rfl) ⟨137, by kernel_rfl, rfl⟩ rfl (qv_move rfl) ?_
  refine go_q (d := 139) (op := .indexAddr 55 (.tmp 138) (.const (.int .i64 0))) (ty := 0) (g := some (14, true)) (by kernel_rfl) ⟨137, by kernel_rfl, rfl⟩ rfl (qv_index un55 sz69 rfl rfl (j := 0) rfl (by decide)) ?_
  refine go_q (d := 140) (op := .fieldAddr 69 (.tmp 139) 1) (ty := 0) (g := some (14, true)) (by kernel_rfl) ⟨137, by kernel_rfl, rfl⟩ rfl (qv_field rfl fd69_1) ?_
  refine go_q (d := 141) (op := .load 23 (.tmp 140)) (ty := 23) (g := some (14, true)) (by kernel_rfl) ⟨137, by kernel_rfl, rfl⟩ rfl (qv_load rfl .auto (ldv_el (i := 0) H8 rfl sc23 (get_Rec_37 _) rfl)) ?_
  refine go_q (d := 142) (op := .binOp .eql 23 (.tmp 141) (.const (.int .u64 3)) 23) (ty := 4) (g := some (14, true)) (by kernel_rfl) ⟨137, by kernel_rfl, rfl⟩ rfl (qv_eql (b := true) rfl rfl (by decide)) ?_
  refine go_q0 143 (.pick (.tmp 137) (.tmp 142) (.const (.bool false))) 4 (qv_pick_t rfl rfl) ?_
  refine go_q0 144 (.move (.tmp 143)) 4 (qv_move rfl) ?_
  refine go_q (d := 145) (op := .move (.tmp 17)) (ty := 55) (g := some (21, true)) (by kernel_rfl) ⟨144, by kernel_rfl, rfl⟩ rfl (qv_move rfl) ?_
  refine go_q (d := 146) (op := .indexAddr 55 (.tmp 145) (.const (.int .i64 0))) (ty := 0) (g := some (21, true)) (by kernel_rfl) ⟨144, by kernel_rfl, rfl⟩ rfl (qv_index un55 sz69 rfl rfl (j := 0) rfl (by decide)) ?_
  refine go_q (d := 147) (op := .fieldAddr 69 (.tmp 146) 6) (ty := 0) (g := some (21, true)) (by kernel_rfl) ⟨144, by kernel_rfl, rfl⟩ rfl (qv_field rfl fd69_6) ?_
  refine go_q (d := 148) (op := .load 5 (.tmp 147)) (ty := 5) (g := some (21, true)) (by kernel_rfl) ⟨144, by kernel_rfl, rfl⟩ rfl (qv_load rfl .auto (ldv_el (i := 0) H8 rfl sc5 (get_Rec_42 _) rfl)) ?_
  refine go_q (d := 149) (op := .binOp .eql 5 (.tmp 148) (.const (.int .u8 4)) 5) (ty := 4) (g := some (21, true)) (by kernel_rfl) ⟨144, by kernel_rfl, rfl⟩ rfl (qv_eql (b := true) rfl rfl (by decide)) ?_
  refine go_q0 150 (.pick (.tmp 144) (.tmp 149) (.const (.bool false))) 4 (qv_pick_t rfl rfl) ?_
  refine go_q0 0 (.assign (.tmp 150)) 4 (qv_assign rfl) ?_
  refine go_nil ?_
  change G _ _ _ _
  refine p_weaken [0] rfl ?_
  refine p_ret0 ?_
  try dsimp only [thenQ, inBlockQ]
  try rw [if_pos rfl]
  refine ret_now (.inr rfl) (.cons (res_tmp rfl) .nil) (by repeat constructor) ?_
  exact ⟨rfl, rfl⟩
end Go.Proofs.YtobmcpoejhhemaaGreat
