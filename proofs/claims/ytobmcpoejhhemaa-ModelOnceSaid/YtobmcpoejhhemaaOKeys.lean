import Derived.Test.YtobmcpoejhhemaaOFlow
namespace Go.Proofs.Ytobmcpoejhhemaa
open Go.E

def b4 (b : B16) : B16 := { x0 := b.x0, x1 := b.x1, x2 := b.x2, x3 := b.x3, x4 := 0, x5 := 0, x6 := 0, x7 := 0, x8 := 0, x9 := 0, x10 := 0, x11 := 0, x12 := 0, x13 := 0, x14 := 0, x15 := 0 }
def Adr.right (a : Adr) : Bool := a.six || decide (a.b = b4 a.b)
def B16.at (b : B16) : Nat → Int
  | 0 => b.x0 | 1 => b.x1 | 2 => b.x2 | 3 => b.x3 | 4 => b.x4 | 5 => b.x5 | 6 => b.x6 | 7 => b.x7 | 8 => b.x8 | 9 => b.x9 | 10 => b.x10 | 11 => b.x11 | 12 => b.x12 | 13 => b.x13 | 14 => b.x14 | 15 => b.x15 | _ => 0
theorem pu_size6 (b : B16) : Pu Try.prog 147 [.agg (⟨true, b⟩ : Adr).c] (.int .i64 16) := by
  refine ct_body (rv := [.tmp 2]) [(0, _)] Try.func147 (by kernel_rfl) Try.ntmps147 Try.results147 rfl rfl (fun w0 => ?_)
  refine p_seq0 ?_
  refine p_plain0 (0 :: 1 :: []) ?_
  refine go_s0 (some 1) (.box 24 (.tmp 0)) 0 ?_
  refine os_boxA rfl rfl (fun b1 => ?_)
  refine go_q0 2 (.assign (.const (.int .i64 0))) 3 (qv_assign rfl) ?_
  refine go_nil ?_
  change G _ _ _ _
  refine p_weaken [1, 2] rfl ?_
  refine p_seq0 ?_
  refine p_seq0 ?_
  refine p_plain0 (0 :: 1 :: []) ?_
  refine go_q0 3 (.fieldAddr 24 (.tmp 1) 0) 0 (qv_field rfl fd24_0) ?_
  refine go_q0 4 (.load 4 (.tmp 3)) 4 (qv_load rfl .auto (ldv_sca sc4 (get_Adr_0 _))) ?_
  refine go_nil ?_
  change G _ _ _ _
  refine p_weaken [2, 4] rfl ?_
  refine p_cond (.tmp 4) (by kernel_rfl) rfl (fun h4 => ?_) (fun h4 => ?_)
  rotate_left
  · replace h4 := kn h4
    cases h4
  replace h4 := kn h4
  refine p_seq0 ?_
  refine p_plain0 (0 :: []) ?_
  refine go_q0 2 (.assign (.const (.int .i64 16))) 3 (qv_assign rfl) ?_
  refine go_nil ?_
  change G _ _ _ _
  refine p_weaken [2] rfl ?_
  refine p_ret0 ?_
  try dsimp only [thenQ, inBlockQ]
  try rw [if_pos rfl]
  refine ret_now (.inr rfl) (.cons (res_tmp rfl) .nil) (by repeat constructor) ?_
  exact ⟨rfl, rfl⟩
theorem pu_size4 (b : B16) : Pu Try.prog 147 [.agg (⟨false, b⟩ : Adr).c] (.int .i64 4) := by
  refine ct_body (rv := [.tmp 2]) [(0, _)] Try.func147 (by kernel_rfl) Try.ntmps147 Try.results147 rfl rfl (fun w0 => ?_)
  refine p_seq0 ?_
  refine p_plain0 (0 :: 1 :: []) ?_
  refine go_s0 (some 1) (.box 24 (.tmp 0)) 0 ?_
  refine os_boxA rfl rfl (fun b1 => ?_)
  refine go_q0 2 (.assign (.const (.int .i64 0))) 3 (qv_assign rfl) ?_
  refine go_nil ?_
  change G _ _ _ _
  refine p_weaken [1, 2] rfl ?_
  refine p_seq0 ?_
  refine p_seq0 ?_
  refine p_plain0 (0 :: 1 :: []) ?_
  refine go_q0 3 (.fieldAddr 24 (.tmp 1) 0) 0 (qv_field rfl fd24_0) ?_
  refine go_q0 4 (.load 4 (.tmp 3)) 4 (qv_load rfl .auto (ldv_sca sc4 (get_Adr_0 _))) ?_
  refine go_nil ?_
  change G _ _ _ _
  refine p_weaken [2, 4] rfl ?_
  refine p_cond (.tmp 4) (by kernel_rfl) rfl (fun h4 => ?_) (fun h4 => ?_)
  · replace h4 := kn h4
    cases h4
  replace h4 := kn h4
  refine p_skip0 ?_
  change G _ _ _ _
  refine p_weaken [2] rfl ?_
  refine p_seq0 ?_
  refine p_plain0 (0 :: []) ?_
  refine go_q0 2 (.assign (.const (.int .i64 4))) 3 (qv_assign rfl) ?_
  refine go_nil ?_
  change G _ _ _ _
  refine p_ret0 ?_
  try dsimp only [thenQ, inBlockQ]
  try rw [if_pos rfl]
  refine ret_now (.inr rfl) (.cons (res_tmp rfl) .nil) (by repeat constructor) ?_
  exact ⟨rfl, rfl⟩
theorem pu_Right6 (b : B16) : Pu Try.prog 96 [.agg (⟨true, b⟩ : Adr).c] (.bool true) := by
  refine ct_body (rv := [.tmp 2]) [(0, _)] Try.func96 (by kernel_rfl) Try.ntmps96 Try.results96 rfl rfl (fun w0 => ?_)
  refine p_seq0 ?_
  refine p_plain0 (0 :: 1 :: []) ?_
  refine go_s0 (some 1) (.box 24 (.tmp 0)) 0 ?_
  refine os_boxA rfl rfl (fun b1 => ?_)
  refine go_q0 2 (.assign (.const (.bool false))) 4 (qv_assign rfl) ?_
  refine go_nil ?_
  change G _ _ _ _
  refine p_weaken [1, 2] rfl ?_
  refine p_seq0 ?_
  refine p_plain0 (0 :: []) ?_
  refine go_s0 (some 3) (.alloc 22) 0 ?_
  refine os_allocA rfl ze22 (fun b3 => ?_)
  refine go_nil ?_
  change G _ _ _ _
  refine p_seq0 ?_
  refine p_draw (by kernel_rfl) mixed 5 6 _ (fun _ h => h) (by kernel_rfl) ?_
  refine gd_all (0 :: 1 :: 2 :: 3 :: 4 :: []) _ rfl (by kernel_rfl) (by decide) (fun _ h => h) rfl ?_
  refine sq_q0 4 (.load 24 (.tmp 1)) 24 (qv_load rfl .auto (ldv_agg agg24 (extw_Adr _) (Nat.le_of_ble_eq_true rfl))) ?_
  refine sq_p (d := 5) (op := .call { callee := .value (.func 147), args := #[.tmp 4], argTypes := #[24] }) (ty := 3) (g := none) (by kernel_rfl) trivial (pv_call en147 rfl (pu_size6 b)) ?_
  refine sq_q0 6 (.slice 22 (.tmp 3) none (some (.tmp 5)) none) 74 (qv_slA0 un22 sz5 rfl rfl (bd_some (n := 16) rfl rfl) (by omega)) ?_
  refine sq_q0 7 (.fieldAddr 24 (.tmp 1) 1) 0 (qv_field rfl fd24_1) ?_
  refine sq_q0 8 (.slice 22 (.tmp 7) none none none) 74 (qv_slA0 un22 sz5 rfl rfl bd_none (Nat.le_refl _)) ?_
  refine SeqK.nil (fun β => ?_)
  refine gd_tail [5] rfl (by kernel_rfl) (by kernel_rfl) ?_
  refine go_s0 (some 9) (.call { callee := .builtin .copy, args := #[.tmp 6, .tmp 8], argTypes := #[74, 74] }) 3 ?_
  refine os_copy (n := 16) (cur' := b.c) (fz := (0, 0)) rfl un74 (by kernel_rfl) rfl rfl (by decide) (by repeat constructor) (Nat.le_of_ble_eq_true rfl) (one_Adr _) (by repeat constructor) (Nat.le_of_ble_eq_true rfl) (by kernel_rfl) ?_
  refine go_nil ?_
  change G _ _ _ _
  refine p_weaken [1, 2, 3] rfl ?_
  refine p_seq0 ?_
  refine p_plain0 (0 :: 1 :: 2 :: 3 :: 4 :: []) ?_
  refine go_q0 10 (.fieldAddr 24 (.tmp 1) 1) 0 (qv_field rfl fd24_1) ?_
  refine go_q0 11 (.load 22 (.tmp 10)) 22 (qv_load rfl .auto (ldv_agg agg22 (ext_Adr_1_16 _) (Nat.le_of_ble_eq_true rfl))) ?_
  refine go_q0 12 (.load 22 (.tmp 3)) 22 (qv_load rfl .auto (ldv_agg agg22 (extw_B16 _) (Nat.le_of_ble_eq_true rfl))) ?_
  refine go_q0 13 (.binOp .eql 22 (.tmp 11) (.tmp 12) 22) 4 (qv_eql_22 (b := true) rfl rfl (by simp)) ?_
  refine go_q0 2 (.assign (.tmp 13)) 4 (qv_assign rfl) ?_
  refine go_nil ?_
  change G _ _ _ _
  refine p_weaken [2] rfl ?_
  refine p_ret0 ?_
  try dsimp only [thenQ, inBlockQ]
  try rw [if_pos rfl]
  refine ret_now (.inr rfl) (.cons (res_tmp rfl) .nil) (by repeat constructor) ?_
  exact ⟨rfl, rfl⟩
theorem pu_Right4 (b : B16) : Pu Try.prog 96 [.agg (⟨false, b⟩ : Adr).c] (.bool (decide (b = b4 b))) := by
  refine ct_body (rv := [.tmp 2]) [(0, _)] Try.func96 (by kernel_rfl) Try.ntmps96 Try.results96 rfl rfl (fun w0 => ?_)
  refine p_seq0 ?_
  refine p_plain0 (0 :: 1 :: []) ?_
  refine go_s0 (some 1) (.box 24 (.tmp 0)) 0 ?_
  refine os_boxA rfl rfl (fun b1 => ?_)
  refine go_q0 2 (.assign (.const (.bool false))) 4 (qv_assign rfl) ?_
  refine go_nil ?_
  change G _ _ _ _
  refine p_weaken [1, 2] rfl ?_
  refine p_seq0 ?_
  refine p_plain0 (0 :: []) ?_
  refine go_s0 (some 3) (.alloc 22) 0 ?_
  refine os_allocA rfl ze22 (fun b3 => ?_)
  refine go_nil ?_
  change G _ _ _ _
  refine p_seq0 ?_
  refine p_draw (by kernel_rfl) mixed 5 6 _ (fun _ h => h) (by kernel_rfl) ?_
  refine gd_all (0 :: 1 :: 2 :: 3 :: 4 :: []) _ rfl (by kernel_rfl) (by decide) (fun _ h => h) rfl ?_
  refine sq_q0 4 (.load 24 (.tmp 1)) 24 (qv_load rfl .auto (ldv_agg agg24 (extw_Adr _) (Nat.le_of_ble_eq_true rfl))) ?_
  refine sq_p (d := 5) (op := .call { callee := .value (.func 147), args := #[.tmp 4], argTypes := #[24] }) (ty := 3) (g := none) (by kernel_rfl) trivial (pv_call en147 rfl (pu_size4 b)) ?_
  refine sq_q0 6 (.slice 22 (.tmp 3) none (some (.tmp 5)) none) 74 (qv_slA0 un22 sz5 rfl rfl (bd_some (n := 4) rfl rfl) (by omega)) ?_
  refine sq_q0 7 (.fieldAddr 24 (.tmp 1) 1) 0 (qv_field rfl fd24_1) ?_
  refine sq_q0 8 (.slice 22 (.tmp 7) none none none) 74 (qv_slA0 un22 sz5 rfl rfl bd_none (Nat.le_refl _)) ?_
  refine SeqK.nil (fun β => ?_)
  refine gd_tail [5] rfl (by kernel_rfl) (by kernel_rfl) ?_
  refine go_s0 (some 9) (.call { callee := .builtin .copy, args := #[.tmp 6, .tmp 8], argTypes := #[74, 74] }) 3 ?_
  refine os_copy (n := 4) (cur' := (b4 b).c) (fz := (0, 0)) rfl un74 (by kernel_rfl) rfl rfl (by decide) (by repeat constructor) (Nat.le_of_ble_eq_true rfl) (one_Adr _) (by repeat constructor) (Nat.le_of_ble_eq_true rfl) (by kernel_rfl) ?_
  refine go_nil ?_
  change G _ _ _ _
  refine p_weaken [1, 2, 3] rfl ?_
  refine p_seq0 ?_
  refine p_plain0 (0 :: 1 :: 2 :: 3 :: 4 :: []) ?_
  refine go_q0 10 (.fieldAddr 24 (.tmp 1) 1) 0 (qv_field rfl fd24_1) ?_
  refine go_q0 11 (.load 22 (.tmp 10)) 22 (qv_load rfl .auto (ldv_agg agg22 (ext_Adr_1_16 _) (Nat.le_of_ble_eq_true rfl))) ?_
  refine go_q0 12 (.load 22 (.tmp 3)) 22 (qv_load rfl .auto (ldv_agg agg22 (extw_B16 _) (Nat.le_of_ble_eq_true rfl))) ?_
  refine go_q0 13 (.binOp .eql 22 (.tmp 11) (.tmp 12) 22) 4 (qv_eql_22 rfl rfl rfl) ?_
  refine go_q0 2 (.assign (.tmp 13)) 4 (qv_assign rfl) ?_
  refine go_nil ?_
  change G _ _ _ _
  refine p_weaken [2] rfl ?_
  refine p_ret0 ?_
  try dsimp only [thenQ, inBlockQ]
  try rw [if_pos rfl]
  refine ret_now (.inr rfl) (.cons (res_tmp rfl) .nil) (by repeat constructor) ?_
  exact ⟨rfl, rfl⟩
theorem pu_AdrRight (a : Adr) : Pu Try.prog 96 [.agg a.c] (.bool a.right) := by
  obtain ⟨six, b⟩ := a
  cases six with
  | true => exact pu_Right6 b
  | false => simpa [Adr.right] using pu_Right4 b
def ports (x : Int) : Bool := decide (x = 6) || decide (x = 17)
def icmp (x : Int) : Bool := decide (x = 1) || decide (x = 58)

theorem pu_ports (x : Int) : Pu Try.prog 94 [.int .u8 x] (.bool (ports x)) := by
  refine ct_body (rv := [.tmp 2]) [(0, _)] Try.func94 (by kernel_rfl) Try.ntmps94 Try.results94 rfl rfl (fun w0 => ?_)
  refine p_seq0 ?_
  refine p_plain0 (0 :: []) ?_
  refine go_q0 2 (.assign (.const (.bool false))) 4 (qv_assign rfl) ?_
  refine go_nil ?_
  change G _ _ _ _
  refine p_seq0 ?_
  refine p_plain0 (0 :: 1 :: 2 :: 3 :: 4 :: 5 :: 6 :: []) ?_
  refine go_q0 3 (.move (.tmp 0)) 5 (qv_move rfl) ?_
  refine go_q0 4 (.binOp .eql 5 (.tmp 3) (.const (.int .u8 6)) 5) 4 (qv_eql rfl rfl rfl) ?_
  refine go_q0 5 (.move (.tmp 4)) 4 (qv_move rfl) ?_
  refine go_case (d := 5) rfl (fun g5 => ?_) (fun g5 => ?_)
  · replace g5 := kn g5
    refine go_n (d := 6) (op := .move (.tmp 0)) (ty := 5) (g := some (2, false)) (by kernel_rfl) ⟨5, _, by kernel_rfl, rfl, rfl⟩ rfl ?_
    refine go_n (d := 7) (op := .binOp .eql 5 (.tmp 6) (.const (.int .u8 17)) 5) (ty := 4) (g := some (2, false)) (by kernel_rfl) ⟨5, _, by kernel_rfl, rfl, rfl⟩ rfl ?_
    refine go_q0 8 (.pick (.tmp 5) (.const (.bool true)) (.tmp 7)) 4 (qv_pick_t rfl rfl) ?_
    refine go_q0 2 (.assign (.tmp 8)) 4 (qv_assign rfl) ?_
    refine go_nil ?_
    change G _ _ _ _
    refine p_weaken [2] rfl ?_
    refine p_ret0 ?_
    try dsimp only [thenQ, inBlockQ]
    try rw [if_pos rfl]
    refine ret_now (.inr rfl) (.cons (res_tmp rfl) .nil) (by repeat constructor) ?_
    refine ⟨congrArg Value.bool (?_ : (_ : Bool) = _), rfl⟩; unfold ports; (try simp [*]); try rfl
  replace g5 := kn g5
  refine go_q (d := 6) (op := .move (.tmp 0)) (ty := 5) (g := some (2, false)) (by kernel_rfl) ⟨5, by kernel_rfl, rfl⟩ rfl (qv_move rfl) ?_
  refine go_q (d := 7) (op := .binOp .eql 5 (.tmp 6) (.const (.int .u8 17)) 5) (ty := 4) (g := some (2, false)) (by kernel_rfl) ⟨5, by kernel_rfl, rfl⟩ rfl (qv_eql rfl rfl rfl) ?_
  refine go_q0 8 (.pick (.tmp 5) (.const (.bool true)) (.tmp 7)) 4 (qv_pick_f rfl rfl) ?_
  refine go_q0 2 (.assign (.tmp 8)) 4 (qv_assign rfl) ?_
  refine go_nil ?_
  change G _ _ _ _
  refine p_weaken [2] rfl ?_
  refine p_ret0 ?_
  try dsimp only [thenQ, inBlockQ]
  try rw [if_pos rfl]
  refine ret_now (.inr rfl) (.cons (res_tmp rfl) .nil) (by repeat constructor) ?_
  refine ⟨congrArg Value.bool (?_ : (_ : Bool) = _), rfl⟩; unfold ports; (try simp [*]); try rfl

theorem pu_icmp (x : Int) : Pu Try.prog 95 [.int .u8 x] (.bool (icmp x)) := by
  refine ct_body (rv := [.tmp 2]) [(0, _)] Try.func95 (by kernel_rfl) Try.ntmps95 Try.results95 rfl rfl (fun w0 => ?_)
  refine p_seq0 ?_
  refine p_plain0 (0 :: []) ?_
  refine go_q0 2 (.assign (.const (.bool false))) 4 (qv_assign rfl) ?_
  refine go_nil ?_
  change G _ _ _ _
  refine p_seq0 ?_
  refine p_plain0 (0 :: 1 :: 2 :: 3 :: 4 :: 5 :: 6 :: []) ?_
  refine go_q0 3 (.move (.tmp 0)) 5 (qv_move rfl) ?_
  refine go_q0 4 (.binOp .eql 5 (.tmp 3) (.const (.int .u8 1)) 5) 4 (qv_eql rfl rfl rfl) ?_
  refine go_q0 5 (.move (.tmp 4)) 4 (qv_move rfl) ?_
  refine go_case (d := 5) rfl (fun g5 => ?_) (fun g5 => ?_)
  · replace g5 := kn g5
    refine go_n (d := 6) (op := .move (.tmp 0)) (ty := 5) (g := some (2, false)) (by kernel_rfl) ⟨5, _, by kernel_rfl, rfl, rfl⟩ rfl ?_
    refine go_n (d := 7) (op := .binOp .eql 5 (.tmp 6) (.const (.int .u8 58)) 5) (ty := 4) (g := some (2, false)) (by kernel_rfl) ⟨5, _, by kernel_rfl, rfl, rfl⟩ rfl ?_
    refine go_q0 8 (.pick (.tmp 5) (.const (.bool true)) (.tmp 7)) 4 (qv_pick_t rfl rfl) ?_
    refine go_q0 2 (.assign (.tmp 8)) 4 (qv_assign rfl) ?_
    refine go_nil ?_
    change G _ _ _ _
    refine p_weaken [2] rfl ?_
    refine p_ret0 ?_
    try dsimp only [thenQ, inBlockQ]
    try rw [if_pos rfl]
    refine ret_now (.inr rfl) (.cons (res_tmp rfl) .nil) (by repeat constructor) ?_
    refine ⟨congrArg Value.bool (?_ : (_ : Bool) = _), rfl⟩; unfold icmp; (try simp [*]); try rfl
  replace g5 := kn g5
  refine go_q (d := 6) (op := .move (.tmp 0)) (ty := 5) (g := some (2, false)) (by kernel_rfl) ⟨5, by kernel_rfl, rfl⟩ rfl (qv_move rfl) ?_
  refine go_q (d := 7) (op := .binOp .eql 5 (.tmp 6) (.const (.int .u8 58)) 5) (ty := 4) (g := some (2, false)) (by kernel_rfl) ⟨5, by kernel_rfl, rfl⟩ rfl (qv_eql rfl rfl rfl) ?_
  refine go_q0 8 (.pick (.tmp 5) (.const (.bool true)) (.tmp 7)) 4 (qv_pick_f rfl rfl) ?_
  refine go_q0 2 (.assign (.tmp 8)) 4 (qv_assign rfl) ?_
  refine go_nil ?_
  change G _ _ _ _
  refine p_weaken [2] rfl ?_
  refine p_ret0 ?_
  try dsimp only [thenQ, inBlockQ]
  try rw [if_pos rfl]
  refine ret_now (.inr rfl) (.cons (res_tmp rfl) .nil) (by repeat constructor) ?_
  refine ⟨congrArg Value.bool (?_ : (_ : Bool) = _), rfl⟩; unfold icmp; (try simp [*]); try rfl

def Key.right (k : Key) : Bool := k.src.right && k.dst.right && decide (k.src.six = k.dst.six) && (ports k.proto || decide (k.srcPort = 0) && (icmp k.proto || decide (k.dstPort = 0)))
def Rec.right (r : Rec) : Bool := r.key.right && decide (1 ≤ r.packets) && decide (r.first ≤ r.last) && decide (1 ≤ r.reason) && decide (r.reason ≤ 5)
theorem pu_KeyRight (k : Key) : Pu Try.prog 43 [.agg k.c] (.bool k.right) := by
  refine ct_body (rv := [.tmp 2]) [(0, _)] Try.func43 (by kernel_rfl) Try.ntmps43 Try.results43 rfl rfl (fun w0 => ?_)
  refine p_seq0 ?_
  refine p_plain0 (0 :: 1 :: []) ?_
  refine go_s0 (some 1) (.box 27 (.tmp 0)) 0 ?_
  refine os_boxA rfl rfl (fun b1 => ?_)
  refine go_q0 2 (.assign (.const (.bool false))) 4 (qv_assign rfl) ?_
  refine go_nil ?_
  change G _ _ _ _
  refine p_weaken [1, 2] rfl ?_
  refine p_seq0 ?_
  refine p_plain0 (0 :: 1 :: 2 :: []) ?_
  refine go_q0 4 (.load 27 (.tmp 1)) 27 (qv_load rfl .auto (ldv_agg agg27 (extw_Key _) (Nat.le_of_ble_eq_true rfl))) ?_
  refine go_s0 (some 3) (.alloc 27) 0 ?_
  refine os_allocA rfl ze27 (fun b3 => ?_)
  refine go_s0 none (.store 27 (.tmp 3) (.tmp 4)) 0 ?_
  refine os_store rfl rfl sz27 rfl (one_Key _) .auto (Nat.le_of_ble_eq_true rfl) (splw_Key _ _ (siz_Key _)) ?_
  refine go_nil ?_
  change G _ _ _ _
  refine p_weaken [1, 2, 3] rfl ?_
  refine p_seq0 ?_
  refine p_seq0 ?_
  refine p_plain0 (0 :: 1 :: 2 :: 3 :: []) ?_
  refine go_q0 5 (.fieldAddr 27 (.tmp 1) 2) 0 (qv_field rfl fd27_2) ?_
  refine go_q0 6 (.load 5 (.tmp 5)) 5 (qv_load rfl .auto (ldv_sca sc5 (get_Key_34 _))) ?_
  refine go_s0 (some 7) (.call { callee := .value (.func 94), args := #[.tmp 6], argTypes := #[5] }) 4 ?_
  refine os_callP rfl en94 rfl (pu_ports k.proto) ?_
  refine go_q0 8 (.unOp .not 4 (.tmp 7)) 4 (qv_not rfl) ?_
  refine go_nil ?_
  change G _ _ _ _
  refine p_weaken [1, 2, 3, 8] rfl ?_
  refine p_cond (.tmp 8) (by kernel_rfl) rfl (fun h8 => ?_) (fun h8 => ?_)
  rotate_left
  · replace h8 := kn h8
    refine p_skip0 ?_
    change G _ _ _ _
    refine p_weaken [1, 2, 3] rfl ?_
    refine p_seq0 ?_
    refine p_plain0 (0 :: 1 :: 2 :: 3 :: 4 :: 5 :: 6 :: 7 :: 8 :: 9 :: 10 :: 11 :: 12 :: 13 :: 14 :: 15 :: 16 :: 17 :: 18 :: 19 :: 20 :: 21 :: 22 :: []) ?_
    refine go_q0 15 (.fieldAddr 27 (.tmp 1) 0) 0 (qv_field rfl fd27_0) ?_
    refine go_q0 16 (.load 24 (.tmp 15)) 24 (qv_load rfl .auto (ldv_agg agg24 (ext_Key_0_17 _) (Nat.le_of_ble_eq_true rfl))) ?_
    refine go_s0 (some 17) (.call { callee := .value (.func 96), args := #[.tmp 16], argTypes := #[24] }) 4 ?_
    refine os_callP rfl en96 rfl (pu_AdrRight k.src) ?_
    refine go_q0 18 (.move (.tmp 17)) 4 (qv_move rfl) ?_
    refine go_case (d := 18) rfl (fun g18 => ?_) (fun g18 => ?_)
    rotate_left
    · replace g18 := kn g18
      refine go_n (d := 19) (op := .fieldAddr 27 (.tmp 1) 1) (ty := 0) (g := some (3, true)) (by kernel_rfl) ⟨18, _, by kernel_rfl, rfl, rfl⟩ rfl ?_
      refine go_n (d := 20) (op := .load 24 (.tmp 19)) (ty := 24) (g := some (3, true)) (by kernel_rfl) ⟨18, _, by kernel_rfl, rfl, rfl⟩ rfl ?_
      refine go_n (d := 21) (op := .call { callee := .value (.func 96), args := #[.tmp 20], argTypes := #[24] }) (ty := 4) (g := some (3, true)) (by kernel_rfl) ⟨18, _, by kernel_rfl, rfl, rfl⟩ rfl ?_
      refine go_q0 22 (.pick (.tmp 18) (.tmp 21) (.const (.bool false))) 4 (qv_pick_f rfl rfl) ?_
      refine go_q0 23 (.move (.tmp 22)) 4 (qv_move rfl) ?_
      refine go_n (d := 24) (op := .fieldAddr 27 (.tmp 1) 0) (ty := 0) (g := some (8, true)) (by kernel_rfl) ⟨23, _, by kernel_rfl, rfl, rfl⟩ rfl ?_
      refine go_n (d := 25) (op := .fieldAddr 24 (.tmp 24) 0) (ty := 0) (g := some (8, true)) (by kernel_rfl) ⟨23, _, by kernel_rfl, rfl, rfl⟩ rfl ?_
      refine go_n (d := 26) (op := .load 4 (.tmp 25)) (ty := 4) (g := some (8, true)) (by kernel_rfl) ⟨23, _, by kernel_rfl, rfl, rfl⟩ rfl ?_
      refine go_n (d := 27) (op := .fieldAddr 27 (.tmp 1) 1) (ty := 0) (g := some (8, true)) (by kernel_rfl) ⟨23, _, by kernel_rfl, rfl, rfl⟩ rfl ?_
      refine go_n (d := 28) (op := .fieldAddr 24 (.tmp 27) 0) (ty := 0) (g := some (8, true)) (by kernel_rfl) ⟨23, _, by kernel_rfl, rfl, rfl⟩ rfl ?_
      refine go_n (d := 29) (op := .load 4 (.tmp 28)) (ty := 4) (g := some (8, true)) (by kernel_rfl) ⟨23, _, by kernel_rfl, rfl, rfl⟩ rfl ?_
      refine go_n (d := 30) (op := .binOp .eql 4 (.tmp 26) (.tmp 29) 4) (ty := 4) (g := some (8, true)) (by kernel_rfl) ⟨23, _, by kernel_rfl, rfl, rfl⟩ rfl ?_
      refine go_q0 31 (.pick (.tmp 23) (.tmp 30) (.const (.bool false))) 4 (qv_pick_f rfl rfl) ?_
      refine go_q0 32 (.move (.tmp 31)) 4 (qv_move rfl) ?_
      refine go_n (d := 33) (op := .load 27 (.tmp 1)) (ty := 27) (g := some (17, true)) (by kernel_rfl) ⟨32, _, by kernel_rfl, rfl, rfl⟩ rfl ?_
      refine go_n (d := 34) (op := .load 27 (.tmp 3)) (ty := 27) (g := some (17, true)) (by kernel_rfl) ⟨32, _, by kernel_rfl, rfl, rfl⟩ rfl ?_
      refine go_n (d := 35) (op := .binOp .eql 27 (.tmp 33) (.tmp 34) 27) (ty := 4) (g := some (17, true)) (by kernel_rfl) ⟨32, _, by kernel_rfl, rfl, rfl⟩ rfl ?_
      refine go_q0 36 (.pick (.tmp 32) (.tmp 35) (.const (.bool false))) 4 (qv_pick_f rfl rfl) ?_
      refine go_q0 2 (.assign (.tmp 36)) 4 (qv_assign rfl) ?_
      refine go_nil ?_
      change G _ _ _ _
      refine p_weaken [2] rfl ?_
      refine p_ret0 ?_
      try dsimp only [thenQ, inBlockQ]
      try rw [if_pos rfl]
      refine ret_now (.inr rfl) (.cons (res_tmp rfl) .nil) (by repeat constructor) ?_
      refine ⟨congrArg Value.bool (?_ : (_ : Bool) = _), rfl⟩; obtain ⟨ksrc, kdst, kproto, ksp, kdp⟩ := k; (try simp_all [Key.right]); try rfl
    replace g18 := kn g18
    refine go_q (d := 19) (op := .fieldAddr 27 (.tmp 1) 1) (ty := 0) (g := some (3, true)) (by kernel_rfl) ⟨18, by kernel_rfl, rfl⟩ rfl (qv_field rfl fd27_1) ?_
    refine go_q (d := 20) (op := .load 24 (.tmp 19)) (ty := 24) (g := some (3, true)) (by kernel_rfl) ⟨18, by kernel_rfl, rfl⟩ rfl (qv_load rfl .auto (ldv_agg agg24 (ext_Key_17_17 _) (Nat.le_of_ble_eq_true rfl))) ?_
    refine go_s (d := some 21) (op := .call { callee := .value (.func 96), args := #[.tmp 20], argTypes := #[24] }) (ty := 4) (g := some (3, true)) (by kernel_rfl) ⟨18, by kernel_rfl, rfl⟩ ?_
    refine os_callP rfl en96 rfl (pu_AdrRight k.dst) ?_
    refine go_q0 22 (.pick (.tmp 18) (.tmp 21) (.const (.bool false))) 4 (qv_pick_t rfl rfl) ?_
    refine go_q0 23 (.move (.tmp 22)) 4 (qv_move rfl) ?_
    refine go_case (d := 23) rfl (fun g23 => ?_) (fun g23 => ?_)
    rotate_left
    · replace g23 := kn g23
      refine go_n (d := 24) (op := .fieldAddr 27 (.tmp 1) 0) (ty := 0) (g := some (8, true)) (by kernel_rfl) ⟨23, _, by kernel_rfl, rfl, rfl⟩ rfl ?_
      refine go_n (d := 25) (op := .fieldAddr 24 (.tmp 24) 0) (ty := 0) (g := some (8, true)) (by kernel_rfl) ⟨23, _, by kernel_rfl, rfl, rfl⟩ rfl ?_
      refine go_n (d := 26) (op := .load 4 (.tmp 25)) (ty := 4) (g := some (8, true)) (by kernel_rfl) ⟨23, _, by kernel_rfl, rfl, rfl⟩ rfl ?_
      refine go_n (d := 27) (op := .fieldAddr 27 (.tmp 1) 1) (ty := 0) (g := some (8, true)) (by kernel_rfl) ⟨23, _, by kernel_rfl, rfl, rfl⟩ rfl ?_
      refine go_n (d := 28) (op := .fieldAddr 24 (.tmp 27) 0) (ty := 0) (g := some (8, true)) (by kernel_rfl) ⟨23, _, by kernel_rfl, rfl, rfl⟩ rfl ?_
      refine go_n (d := 29) (op := .load 4 (.tmp 28)) (ty := 4) (g := some (8, true)) (by kernel_rfl) ⟨23, _, by kernel_rfl, rfl, rfl⟩ rfl ?_
      refine go_n (d := 30) (op := .binOp .eql 4 (.tmp 26) (.tmp 29) 4) (ty := 4) (g := some (8, true)) (by kernel_rfl) ⟨23, _, by kernel_rfl, rfl, rfl⟩ rfl ?_
      refine go_q0 31 (.pick (.tmp 23) (.tmp 30) (.const (.bool false))) 4 (qv_pick_f rfl rfl) ?_
      refine go_q0 32 (.move (.tmp 31)) 4 (qv_move rfl) ?_
      refine go_n (d := 33) (op := .load 27 (.tmp 1)) (ty := 27) (g := some (17, true)) (by kernel_rfl) ⟨32, _, by kernel_rfl, rfl, rfl⟩ rfl ?_
      refine go_n (d := 34) (op := .load 27 (.tmp 3)) (ty := 27) (g := some (17, true)) (by kernel_rfl) ⟨32, _, by kernel_rfl, rfl, rfl⟩ rfl ?_
      refine go_n (d := 35) (op := .binOp .eql 27 (.tmp 33) (.tmp 34) 27) (ty := 4) (g := some (17, true)) (by kernel_rfl) ⟨32, _, by kernel_rfl, rfl, rfl⟩ rfl ?_
      refine go_q0 36 (.pick (.tmp 32) (.tmp 35) (.const (.bool false))) 4 (qv_pick_f rfl rfl) ?_
      refine go_q0 2 (.assign (.tmp 36)) 4 (qv_assign rfl) ?_
      refine go_nil ?_
      change G _ _ _ _
      refine p_weaken [2] rfl ?_
      refine p_ret0 ?_
      try dsimp only [thenQ, inBlockQ]
      try rw [if_pos rfl]
      refine ret_now (.inr rfl) (.cons (res_tmp rfl) .nil) (by repeat constructor) ?_
      refine ⟨congrArg Value.bool (?_ : (_ : Bool) = _), rfl⟩; obtain ⟨ksrc, kdst, kproto, ksp, kdp⟩ := k; (try simp_all [Key.right]); try rfl
    replace g23 := kn g23
    refine go_q (d := 24) (op := .fieldAddr 27 (.tmp 1) 0) (ty := 0) (g := some (8, true)) (by kernel_rfl) ⟨23, by kernel_rfl, rfl⟩ rfl (qv_field rfl fd27_0) ?_
    refine go_q (d := 25) (op := .fieldAddr 24 (.tmp 24) 0) (ty := 0) (g := some (8, true)) (by kernel_rfl) ⟨23, by kernel_rfl, rfl⟩ rfl (qv_field rfl fd24_0) ?_
    refine go_q (d := 26) (op := .load 4 (.tmp 25)) (ty := 4) (g := some (8, true)) (by kernel_rfl) ⟨23, by kernel_rfl, rfl⟩ rfl (qv_load rfl .auto (ldv_sca sc4 (get_Key_0 _))) ?_
    refine go_q (d := 27) (op := .fieldAddr 27 (.tmp 1) 1) (ty := 0) (g := some (8, true)) (by kernel_rfl) ⟨23, by kernel_rfl, rfl⟩ rfl (qv_field rfl fd27_1) ?_
    refine go_q (d := 28) (op := .fieldAddr 24 (.tmp 27) 0) (ty := 0) (g := some (8, true)) (by kernel_rfl) ⟨23, by kernel_rfl, rfl⟩ rfl (qv_field rfl fd24_0) ?_
    refine go_q (d := 29) (op := .load 4 (.tmp 28)) (ty := 4) (g := some (8, true)) (by kernel_rfl) ⟨23, by kernel_rfl, rfl⟩ rfl (qv_load rfl .auto (ldv_sca sc4 (get_Key_17 _))) ?_
    refine go_q (d := 30) (op := .binOp .eql 4 (.tmp 26) (.tmp 29) 4) (ty := 4) (g := some (8, true)) (by kernel_rfl) ⟨23, by kernel_rfl, rfl⟩ rfl (qv_eqlB un4 rfl rfl) ?_
    refine go_q0 31 (.pick (.tmp 23) (.tmp 30) (.const (.bool false))) 4 (qv_pick_t rfl rfl) ?_
    refine go_q0 32 (.move (.tmp 31)) 4 (qv_move rfl) ?_
    refine go_case (d := 32) rfl (fun g32 => ?_) (fun g32 => ?_)
    · replace g32 := kn g32
      refine go_q (d := 33) (op := .load 27 (.tmp 1)) (ty := 27) (g := some (17, true)) (by kernel_rfl) ⟨32, by kernel_rfl, rfl⟩ rfl (qv_load rfl .auto (ldv_agg agg27 (extw_Key _) (Nat.le_of_ble_eq_true rfl))) ?_
      refine go_q (d := 34) (op := .load 27 (.tmp 3)) (ty := 27) (g := some (17, true)) (by kernel_rfl) ⟨32, by kernel_rfl, rfl⟩ rfl (qv_load rfl .auto (ldv_agg agg27 (extw_Key _) (Nat.le_of_ble_eq_true rfl))) ?_
      refine go_q (d := 35) (op := .binOp .eql 27 (.tmp 33) (.tmp 34) 27) (ty := 4) (g := some (17, true)) (by kernel_rfl) ⟨32, by kernel_rfl, rfl⟩ rfl (qv_eql_27 rfl rfl rfl) ?_
      refine go_q0 36 (.pick (.tmp 32) (.tmp 35) (.const (.bool false))) 4 (qv_pick_t rfl rfl) ?_
      refine go_q0 2 (.assign (.tmp 36)) 4 (qv_assign rfl) ?_
      refine go_nil ?_
      change G _ _ _ _
      refine p_weaken [2] rfl ?_
      refine p_ret0 ?_
      try dsimp only [thenQ, inBlockQ]
      try rw [if_pos rfl]
      refine ret_now (.inr rfl) (.cons (res_tmp rfl) .nil) (by repeat constructor) ?_
      refine ⟨congrArg Value.bool (?_ : (_ : Bool) = _), rfl⟩; obtain ⟨ksrc, kdst, kproto, ksp, kdp⟩ := k; (try simp_all [Key.right]); try rfl
    replace g32 := kn g32
    refine go_n (d := 33) (op := .load 27 (.tmp 1)) (ty := 27) (g := some (17, true)) (by kernel_rfl) ⟨32, _, by kernel_rfl, rfl, rfl⟩ rfl ?_
    refine go_n (d := 34) (op := .load 27 (.tmp 3)) (ty := 27) (g := some (17, true)) (by kernel_rfl) ⟨32, _, by kernel_rfl, rfl, rfl⟩ rfl ?_
    refine go_n (d := 35) (op := .binOp .eql 27 (.tmp 33) (.tmp 34) 27) (ty := 4) (g := some (17, true)) (by kernel_rfl) ⟨32, _, by kernel_rfl, rfl, rfl⟩ rfl ?_
    refine go_q0 36 (.pick (.tmp 32) (.tmp 35) (.const (.bool false))) 4 (qv_pick_f rfl rfl) ?_
    refine go_q0 2 (.assign (.tmp 36)) 4 (qv_assign rfl) ?_
    refine go_nil ?_
    change G _ _ _ _
    refine p_weaken [2] rfl ?_
    refine p_ret0 ?_
    try dsimp only [thenQ, inBlockQ]
    try rw [if_pos rfl]
    refine ret_now (.inr rfl) (.cons (res_tmp rfl) .nil) (by repeat constructor) ?_
    refine ⟨congrArg Value.bool (?_ : (_ : Bool) = _), rfl⟩; obtain ⟨ksrc, kdst, kproto, ksp, kdp⟩ := k; (try simp_all [Key.right]); try rfl
  replace h8 := kn h8
  refine p_seq0 ?_
  refine p_plain0 (0 :: 1 :: []) ?_
  refine go_q0 9 (.fieldAddr 27 (.tmp 3) 3) 0 (qv_field rfl fd27_3) ?_
  refine go_s0 none (.store 25 (.tmp 9) (.const (.int .u16 0))) 0 ?_
  refine os_store1 rfl rfl sz25 rfl rfl .auto (Nat.le_of_ble_eq_true rfl) (set_Key_35 _ _) ?_
  refine go_nil ?_
  change G _ _ _ _
  refine p_weaken [1, 2, 3] rfl ?_
  refine p_seq0 ?_
  refine p_plain0 (0 :: 1 :: 2 :: 3 :: []) ?_
  refine go_q0 10 (.fieldAddr 27 (.tmp 1) 2) 0 (qv_field rfl fd27_2) ?_
  refine go_q0 11 (.load 5 (.tmp 10)) 5 (qv_load rfl .auto (ldv_sca sc5 (get_Key_34 _))) ?_
  refine go_s0 (some 12) (.call { callee := .value (.func 95), args := #[.tmp 11], argTypes := #[5] }) 4 ?_
  refine os_callP rfl en95 rfl (pu_icmp k.proto) ?_
  refine go_q0 13 (.unOp .not 4 (.tmp 12)) 4 (qv_not rfl) ?_
  refine go_nil ?_
  change G _ _ _ _
  refine p_weaken [1, 2, 3, 13] rfl ?_
  refine p_cond (.tmp 13) (by kernel_rfl) rfl (fun h13 => ?_) (fun h13 => ?_)
  rotate_left
  · replace h13 := kn h13
    refine p_skip0 ?_
    change G _ _ _ _
    refine p_weaken [1, 2, 3] rfl ?_
    refine p_seq0 ?_
    refine p_plain0 (0 :: 1 :: 2 :: 3 :: 4 :: 5 :: 6 :: 7 :: 8 :: 9 :: 10 :: 11 :: 12 :: 13 :: 14 :: 15 :: 16 :: 17 :: 18 :: 19 :: 20 :: 21 :: 22 :: []) ?_
    refine go_q0 15 (.fieldAddr 27 (.tmp 1) 0) 0 (qv_field rfl fd27_0) ?_
    refine go_q0 16 (.load 24 (.tmp 15)) 24 (qv_load rfl .auto (ldv_agg agg24 (ext_Key_0_17 _) (Nat.le_of_ble_eq_true rfl))) ?_
    refine go_s0 (some 17) (.call { callee := .value (.func 96), args := #[.tmp 16], argTypes := #[24] }) 4 ?_
    refine os_callP rfl en96 rfl (pu_AdrRight k.src) ?_
    refine go_q0 18 (.move (.tmp 17)) 4 (qv_move rfl) ?_
    refine go_case (d := 18) rfl (fun g18 => ?_) (fun g18 => ?_)
    rotate_left
    · replace g18 := kn g18
      refine go_n (d := 19) (op := .fieldAddr 27 (.tmp 1) 1) (ty := 0) (g := some (3, true)) (by kernel_rfl) ⟨18, _, by kernel_rfl, rfl, rfl⟩ rfl ?_
      refine go_n (d := 20) (op := .load 24 (.tmp 19)) (ty := 24) (g := some (3, true)) (by kernel_rfl) ⟨18, _, by kernel_rfl, rfl, rfl⟩ rfl ?_
      refine go_n (d := 21) (op := .call { callee := .value (.func 96), args := #[.tmp 20], argTypes := #[24] }) (ty := 4) (g := some (3, true)) (by kernel_rfl) ⟨18, _, by kernel_rfl, rfl, rfl⟩ rfl ?_
      refine go_q0 22 (.pick (.tmp 18) (.tmp 21) (.const (.bool false))) 4 (qv_pick_f rfl rfl) ?_
      refine go_q0 23 (.move (.tmp 22)) 4 (qv_move rfl) ?_
      refine go_n (d := 24) (op := .fieldAddr 27 (.tmp 1) 0) (ty := 0) (g := some (8, true)) (by kernel_rfl) ⟨23, _, by kernel_rfl, rfl, rfl⟩ rfl ?_
      refine go_n (d := 25) (op := .fieldAddr 24 (.tmp 24) 0) (ty := 0) (g := some (8, true)) (by kernel_rfl) ⟨23, _, by kernel_rfl, rfl, rfl⟩ rfl ?_
      refine go_n (d := 26) (op := .load 4 (.tmp 25)) (ty := 4) (g := some (8, true)) (by kernel_rfl) ⟨23, _, by kernel_rfl, rfl, rfl⟩ rfl ?_
      refine go_n (d := 27) (op := .fieldAddr 27 (.tmp 1) 1) (ty := 0) (g := some (8, true)) (by kernel_rfl) ⟨23, _, by kernel_rfl, rfl, rfl⟩ rfl ?_
      refine go_n (d := 28) (op := .fieldAddr 24 (.tmp 27) 0) (ty := 0) (g := some (8, true)) (by kernel_rfl) ⟨23, _, by kernel_rfl, rfl, rfl⟩ rfl ?_
      refine go_n (d := 29) (op := .load 4 (.tmp 28)) (ty := 4) (g := some (8, true)) (by kernel_rfl) ⟨23, _, by kernel_rfl, rfl, rfl⟩ rfl ?_
      refine go_n (d := 30) (op := .binOp .eql 4 (.tmp 26) (.tmp 29) 4) (ty := 4) (g := some (8, true)) (by kernel_rfl) ⟨23, _, by kernel_rfl, rfl, rfl⟩ rfl ?_
      refine go_q0 31 (.pick (.tmp 23) (.tmp 30) (.const (.bool false))) 4 (qv_pick_f rfl rfl) ?_
      refine go_q0 32 (.move (.tmp 31)) 4 (qv_move rfl) ?_
      refine go_n (d := 33) (op := .load 27 (.tmp 1)) (ty := 27) (g := some (17, true)) (by kernel_rfl) ⟨32, _, by kernel_rfl, rfl, rfl⟩ rfl ?_
      refine go_n (d := 34) (op := .load 27 (.tmp 3)) (ty := 27) (g := some (17, true)) (by kernel_rfl) ⟨32, _, by kernel_rfl, rfl, rfl⟩ rfl ?_
      refine go_n (d := 35) (op := .binOp .eql 27 (.tmp 33) (.tmp 34) 27) (ty := 4) (g := some (17, true)) (by kernel_rfl) ⟨32, _, by kernel_rfl, rfl, rfl⟩ rfl ?_
      refine go_q0 36 (.pick (.tmp 32) (.tmp 35) (.const (.bool false))) 4 (qv_pick_f rfl rfl) ?_
      refine go_q0 2 (.assign (.tmp 36)) 4 (qv_assign rfl) ?_
      refine go_nil ?_
      change G _ _ _ _
      refine p_weaken [2] rfl ?_
      refine p_ret0 ?_
      try dsimp only [thenQ, inBlockQ]
      try rw [if_pos rfl]
      refine ret_now (.inr rfl) (.cons (res_tmp rfl) .nil) (by repeat constructor) ?_
      refine ⟨congrArg Value.bool (?_ : (_ : Bool) = _), rfl⟩; obtain ⟨ksrc, kdst, kproto, ksp, kdp⟩ := k; (try simp_all [Key.right]); try rfl
    replace g18 := kn g18
    refine go_q (d := 19) (op := .fieldAddr 27 (.tmp 1) 1) (ty := 0) (g := some (3, true)) (by kernel_rfl) ⟨18, by kernel_rfl, rfl⟩ rfl (qv_field rfl fd27_1) ?_
    refine go_q (d := 20) (op := .load 24 (.tmp 19)) (ty := 24) (g := some (3, true)) (by kernel_rfl) ⟨18, by kernel_rfl, rfl⟩ rfl (qv_load rfl .auto (ldv_agg agg24 (ext_Key_17_17 _) (Nat.le_of_ble_eq_true rfl))) ?_
    refine go_s (d := some 21) (op := .call { callee := .value (.func 96), args := #[.tmp 20], argTypes := #[24] }) (ty := 4) (g := some (3, true)) (by kernel_rfl) ⟨18, by kernel_rfl, rfl⟩ ?_
    refine os_callP rfl en96 rfl (pu_AdrRight k.dst) ?_
    refine go_q0 22 (.pick (.tmp 18) (.tmp 21) (.const (.bool false))) 4 (qv_pick_t rfl rfl) ?_
    refine go_q0 23 (.move (.tmp 22)) 4 (qv_move rfl) ?_
    refine go_case (d := 23) rfl (fun g23 => ?_) (fun g23 => ?_)
    rotate_left
    · replace g23 := kn g23
      refine go_n (d := 24) (op := .fieldAddr 27 (.tmp 1) 0) (ty := 0) (g := some (8, true)) (by kernel_rfl) ⟨23, _, by kernel_rfl, rfl, rfl⟩ rfl ?_
      refine go_n (d := 25) (op := .fieldAddr 24 (.tmp 24) 0) (ty := 0) (g := some (8, true)) (by kernel_rfl) ⟨23, _, by kernel_rfl, rfl, rfl⟩ rfl ?_
      refine go_n (d := 26) (op := .load 4 (.tmp 25)) (ty := 4) (g := some (8, true)) (by kernel_rfl) ⟨23, _, by kernel_rfl, rfl, rfl⟩ rfl ?_
      refine go_n (d := 27) (op := .fieldAddr 27 (.tmp 1) 1) (ty := 0) (g := some (8, true)) (by kernel_rfl) ⟨23, _, by kernel_rfl, rfl, rfl⟩ rfl ?_
      refine go_n (d := 28) (op := .fieldAddr 24 (.tmp 27) 0) (ty := 0) (g := some (8, true)) (by kernel_rfl) ⟨23, _, by kernel_rfl, rfl, rfl⟩ rfl ?_
      refine go_n (d := 29) (op := .load 4 (.tmp 28)) (ty := 4) (g := some (8, true)) (by kernel_rfl) ⟨23, _, by kernel_rfl, rfl, rfl⟩ rfl ?_
      refine go_n (d := 30) (op := .binOp .eql 4 (.tmp 26) (.tmp 29) 4) (ty := 4) (g := some (8, true)) (by kernel_rfl) ⟨23, _, by kernel_rfl, rfl, rfl⟩ rfl ?_
      refine go_q0 31 (.pick (.tmp 23) (.tmp 30) (.const (.bool false))) 4 (qv_pick_f rfl rfl) ?_
      refine go_q0 32 (.move (.tmp 31)) 4 (qv_move rfl) ?_
      refine go_n (d := 33) (op := .load 27 (.tmp 1)) (ty := 27) (g := some (17, true)) (by kernel_rfl) ⟨32, _, by kernel_rfl, rfl, rfl⟩ rfl ?_
      refine go_n (d := 34) (op := .load 27 (.tmp 3)) (ty := 27) (g := some (17, true)) (by kernel_rfl) ⟨32, _, by kernel_rfl, rfl, rfl⟩ rfl ?_
      refine go_n (d := 35) (op := .binOp .eql 27 (.tmp 33) (.tmp 34) 27) (ty := 4) (g := some (17, true)) (by kernel_rfl) ⟨32, _, by kernel_rfl, rfl, rfl⟩ rfl ?_
      refine go_q0 36 (.pick (.tmp 32) (.tmp 35) (.const (.bool false))) 4 (qv_pick_f rfl rfl) ?_
      refine go_q0 2 (.assign (.tmp 36)) 4 (qv_assign rfl) ?_
      refine go_nil ?_
      change G _ _ _ _
      refine p_weaken [2] rfl ?_
      refine p_ret0 ?_
      try dsimp only [thenQ, inBlockQ]
      try rw [if_pos rfl]
      refine ret_now (.inr rfl) (.cons (res_tmp rfl) .nil) (by repeat constructor) ?_
      refine ⟨congrArg Value.bool (?_ : (_ : Bool) = _), rfl⟩; obtain ⟨ksrc, kdst, kproto, ksp, kdp⟩ := k; (try simp_all [Key.right]); try rfl
    replace g23 := kn g23
    refine go_q (d := 24) (op := .fieldAddr 27 (.tmp 1) 0) (ty := 0) (g := some (8, true)) (by kernel_rfl) ⟨23, by kernel_rfl, rfl⟩ rfl (qv_field rfl fd27_0) ?_
    refine go_q (d := 25) (op := .fieldAddr 24 (.tmp 24) 0) (ty := 0) (g := some (8, true)) (by kernel_rfl) ⟨23, by kernel_rfl, rfl⟩ rfl (qv_field rfl fd24_0) ?_
    refine go_q (d := 26) (op := .load 4 (.tmp 25)) (ty := 4) (g := some (8, true)) (by kernel_rfl) ⟨23, by kernel_rfl, rfl⟩ rfl (qv_load rfl .auto (ldv_sca sc4 (get_Key_0 _))) ?_
    refine go_q (d := 27) (op := .fieldAddr 27 (.tmp 1) 1) (ty := 0) (g := some (8, true)) (by kernel_rfl) ⟨23, by kernel_rfl, rfl⟩ rfl (qv_field rfl fd27_1) ?_
    refine go_q (d := 28) (op := .fieldAddr 24 (.tmp 27) 0) (ty := 0) (g := some (8, true)) (by kernel_rfl) ⟨23, by kernel_rfl, rfl⟩ rfl (qv_field rfl fd24_0) ?_
    refine go_q (d := 29) (op := .load 4 (.tmp 28)) (ty := 4) (g := some (8, true)) (by kernel_rfl) ⟨23, by kernel_rfl, rfl⟩ rfl (qv_load rfl .auto (ldv_sca sc4 (get_Key_17 _))) ?_
    refine go_q (d := 30) (op := .binOp .eql 4 (.tmp 26) (.tmp 29) 4) (ty := 4) (g := some (8, true)) (by kernel_rfl) ⟨23, by kernel_rfl, rfl⟩ rfl (qv_eqlB un4 rfl rfl) ?_
    refine go_q0 31 (.pick (.tmp 23) (.tmp 30) (.const (.bool false))) 4 (qv_pick_t rfl rfl) ?_
    refine go_q0 32 (.move (.tmp 31)) 4 (qv_move rfl) ?_
    refine go_case (d := 32) rfl (fun g32 => ?_) (fun g32 => ?_)
    · replace g32 := kn g32
      refine go_q (d := 33) (op := .load 27 (.tmp 1)) (ty := 27) (g := some (17, true)) (by kernel_rfl) ⟨32, by kernel_rfl, rfl⟩ rfl (qv_load rfl .auto (ldv_agg agg27 (extw_Key _) (Nat.le_of_ble_eq_true rfl))) ?_
      refine go_q (d := 34) (op := .load 27 (.tmp 3)) (ty := 27) (g := some (17, true)) (by kernel_rfl) ⟨32, by kernel_rfl, rfl⟩ rfl (qv_load rfl .auto (ldv_agg agg27 (extw_Key _) (Nat.le_of_ble_eq_true rfl))) ?_
      refine go_q (d := 35) (op := .binOp .eql 27 (.tmp 33) (.tmp 34) 27) (ty := 4) (g := some (17, true)) (by kernel_rfl) ⟨32, by kernel_rfl, rfl⟩ rfl (qv_eql_27 rfl rfl rfl) ?_
      refine go_q0 36 (.pick (.tmp 32) (.tmp 35) (.const (.bool false))) 4 (qv_pick_t rfl rfl) ?_
      refine go_q0 2 (.assign (.tmp 36)) 4 (qv_assign rfl) ?_
      refine go_nil ?_
      change G _ _ _ _
      refine p_weaken [2] rfl ?_
      refine p_ret0 ?_
      try dsimp only [thenQ, inBlockQ]
      try rw [if_pos rfl]
      refine ret_now (.inr rfl) (.cons (res_tmp rfl) .nil) (by repeat constructor) ?_
      refine ⟨congrArg Value.bool (?_ : (_ : Bool) = _), rfl⟩; obtain ⟨ksrc, kdst, kproto, ksp, kdp⟩ := k; (try simp_all [Key.right]); try rfl
    replace g32 := kn g32
    refine go_n (d := 33) (op := .load 27 (.tmp 1)) (ty := 27) (g := some (17, true)) (by kernel_rfl) ⟨32, _, by kernel_rfl, rfl, rfl⟩ rfl ?_
    refine go_n (d := 34) (op := .load 27 (.tmp 3)) (ty := 27) (g := some (17, true)) (by kernel_rfl) ⟨32, _, by kernel_rfl, rfl, rfl⟩ rfl ?_
    refine go_n (d := 35) (op := .binOp .eql 27 (.tmp 33) (.tmp 34) 27) (ty := 4) (g := some (17, true)) (by kernel_rfl) ⟨32, _, by kernel_rfl, rfl, rfl⟩ rfl ?_
    refine go_q0 36 (.pick (.tmp 32) (.tmp 35) (.const (.bool false))) 4 (qv_pick_f rfl rfl) ?_
    refine go_q0 2 (.assign (.tmp 36)) 4 (qv_assign rfl) ?_
    refine go_nil ?_
    change G _ _ _ _
    refine p_weaken [2] rfl ?_
    refine p_ret0 ?_
    try dsimp only [thenQ, inBlockQ]
    try rw [if_pos rfl]
    refine ret_now (.inr rfl) (.cons (res_tmp rfl) .nil) (by repeat constructor) ?_
    refine ⟨congrArg Value.bool (?_ : (_ : Bool) = _), rfl⟩; obtain ⟨ksrc, kdst, kproto, ksp, kdp⟩ := k; (try simp_all [Key.right]); try rfl
  replace h13 := kn h13
  refine p_plain0 (0 :: 1 :: []) ?_
  refine go_q0 14 (.fieldAddr 27 (.tmp 3) 4) 0 (qv_field rfl fd27_4) ?_
  refine go_s0 none (.store 25 (.tmp 14) (.const (.int .u16 0))) 0 ?_
  refine os_store1 rfl rfl sz25 rfl rfl .auto (Nat.le_of_ble_eq_true rfl) (set_Key_36 _ _) ?_
  refine go_nil ?_
  change G _ _ _ _
  refine p_weaken [1, 2, 3] rfl ?_
  refine p_seq0 ?_
  refine p_plain0 (0 :: 1 :: 2 :: 3 :: 4 :: 5 :: 6 :: 7 :: 8 :: 9 :: 10 :: 11 :: 12 :: 13 :: 14 :: 15 :: 16 :: 17 :: 18 :: 19 :: 20 :: 21 :: 22 :: []) ?_
  refine go_q0 15 (.fieldAddr 27 (.tmp 1) 0) 0 (qv_field rfl fd27_0) ?_
  refine go_q0 16 (.load 24 (.tmp 15)) 24 (qv_load rfl .auto (ldv_agg agg24 (ext_Key_0_17 _) (Nat.le_of_ble_eq_true rfl))) ?_
  refine go_s0 (some 17) (.call { callee := .value (.func 96), args := #[.tmp 16], argTypes := #[24] }) 4 ?_
  refine os_callP rfl en96 rfl (pu_AdrRight k.src) ?_
  refine go_q0 18 (.move (.tmp 17)) 4 (qv_move rfl) ?_
  refine go_case (d := 18) rfl (fun g18 => ?_) (fun g18 => ?_)
  rotate_left
  · replace g18 := kn g18
    refine go_n (d := 19) (op := .fieldAddr 27 (.tmp 1) 1) (ty := 0) (g := some (3, true)) (by kernel_rfl) ⟨18, _, by kernel_rfl, rfl, rfl⟩ rfl ?_
    refine go_n (d := 20) (op := .load 24 (.tmp 19)) (ty := 24) (g := some (3, true)) (by kernel_rfl) ⟨18, _, by kernel_rfl, rfl, rfl⟩ rfl ?_
    refine go_n (d := 21) (op := .call { callee := .value (.func 96), args := #[.tmp 20], argTypes := #[24] }) (ty := 4) (g := some (3, true)) (by kernel_rfl) ⟨18, _, by kernel_rfl, rfl, rfl⟩ rfl ?_
    refine go_q0 22 (.pick (.tmp 18) (.tmp 21) (.const (.bool false))) 4 (qv_pick_f rfl rfl) ?_
    refine go_q0 23 (.move (.tmp 22)) 4 (qv_move rfl) ?_
    refine go_n (d := 24) (op := .fieldAddr 27 (.tmp 1) 0) (ty := 0) (g := some (8, true)) (by kernel_rfl) ⟨23, _, by kernel_rfl, rfl, rfl⟩ rfl ?_
    refine go_n (d := 25) (op := .fieldAddr 24 (.tmp 24) 0) (ty := 0) (g := some (8, true)) (by kernel_rfl) ⟨23, _, by kernel_rfl, rfl, rfl⟩ rfl ?_
    refine go_n (d := 26) (op := .load 4 (.tmp 25)) (ty := 4) (g := some (8, true)) (by kernel_rfl) ⟨23, _, by kernel_rfl, rfl, rfl⟩ rfl ?_
    refine go_n (d := 27) (op := .fieldAddr 27 (.tmp 1) 1) (ty := 0) (g := some (8, true)) (by kernel_rfl) ⟨23, _, by kernel_rfl, rfl, rfl⟩ rfl ?_
    refine go_n (d := 28) (op := .fieldAddr 24 (.tmp 27) 0) (ty := 0) (g := some (8, true)) (by kernel_rfl) ⟨23, _, by kernel_rfl, rfl, rfl⟩ rfl ?_
    refine go_n (d := 29) (op := .load 4 (.tmp 28)) (ty := 4) (g := some (8, true)) (by kernel_rfl) ⟨23, _, by kernel_rfl, rfl, rfl⟩ rfl ?_
    refine go_n (d := 30) (op := .binOp .eql 4 (.tmp 26) (.tmp 29) 4) (ty := 4) (g := some (8, true)) (by kernel_rfl) ⟨23, _, by kernel_rfl, rfl, rfl⟩ rfl ?_
    refine go_q0 31 (.pick (.tmp 23) (.tmp 30) (.const (.bool false))) 4 (qv_pick_f rfl rfl) ?_
    refine go_q0 32 (.move (.tmp 31)) 4 (qv_move rfl) ?_
    refine go_n (d := 33) (op := .load 27 (.tmp 1)) (ty := 27) (g := some (17, true)) (by kernel_rfl) ⟨32, _, by kernel_rfl, rfl, rfl⟩ rfl ?_
    refine go_n (d := 34) (op := .load 27 (.tmp 3)) (ty := 27) (g := some (17, true)) (by kernel_rfl) ⟨32, _, by kernel_rfl, rfl, rfl⟩ rfl ?_
    refine go_n (d := 35) (op := .binOp .eql 27 (.tmp 33) (.tmp 34) 27) (ty := 4) (g := some (17, true)) (by kernel_rfl) ⟨32, _, by kernel_rfl, rfl, rfl⟩ rfl ?_
    refine go_q0 36 (.pick (.tmp 32) (.tmp 35) (.const (.bool false))) 4 (qv_pick_f rfl rfl) ?_
    refine go_q0 2 (.assign (.tmp 36)) 4 (qv_assign rfl) ?_
    refine go_nil ?_
    change G _ _ _ _
    refine p_weaken [2] rfl ?_
    refine p_ret0 ?_
    try dsimp only [thenQ, inBlockQ]
    try rw [if_pos rfl]
    refine ret_now (.inr rfl) (.cons (res_tmp rfl) .nil) (by repeat constructor) ?_
    refine ⟨congrArg Value.bool (?_ : (_ : Bool) = _), rfl⟩; obtain ⟨ksrc, kdst, kproto, ksp, kdp⟩ := k; (try simp_all [Key.right]); try rfl
  replace g18 := kn g18
  refine go_q (d := 19) (op := .fieldAddr 27 (.tmp 1) 1) (ty := 0) (g := some (3, true)) (by kernel_rfl) ⟨18, by kernel_rfl, rfl⟩ rfl (qv_field rfl fd27_1) ?_
  refine go_q (d := 20) (op := .load 24 (.tmp 19)) (ty := 24) (g := some (3, true)) (by kernel_rfl) ⟨18, by kernel_rfl, rfl⟩ rfl (qv_load rfl .auto (ldv_agg agg24 (ext_Key_17_17 _) (Nat.le_of_ble_eq_true rfl))) ?_
  refine go_s (d := some 21) (op := .call { callee := .value (.func 96), args := #[.tmp 20], argTypes := #[24] }) (ty := 4) (g := some (3, true)) (by kernel_rfl) ⟨18, by kernel_rfl, rfl⟩ ?_
  refine os_callP rfl en96 rfl (pu_AdrRight k.dst) ?_
  refine go_q0 22 (.pick (.tmp 18) (.tmp 21) (.const (.bool false))) 4 (qv_pick_t rfl rfl) ?_
  refine go_q0 23 (.move (.tmp 22)) 4 (qv_move rfl) ?_
  refine go_case (d := 23) rfl (fun g23 => ?_) (fun g23 => ?_)
  rotate_left
  · replace g23 := kn g23
    refine go_n (d := 24) (op := .fieldAddr 27 (.tmp 1) 0) (ty := 0) (g := some (8, true)) (by kernel_rfl) ⟨23, _, by kernel_rfl, rfl, rfl⟩ rfl ?_
    refine go_n (d := 25) (op := .fieldAddr 24 (.tmp 24) 0) (ty := 0) (g := some (8, true)) (by kernel_rfl) ⟨23, _, by kernel_rfl, rfl, rfl⟩ rfl ?_
    refine go_n (d := 26) (op := .load 4 (.tmp 25)) (ty := 4) (g := some (8, true)) (by kernel_rfl) ⟨23, _, by kernel_rfl, rfl, rfl⟩ rfl ?_
    refine go_n (d := 27) (op := .fieldAddr 27 (.tmp 1) 1) (ty := 0) (g := some (8, true)) (by kernel_rfl) ⟨23, _, by kernel_rfl, rfl, rfl⟩ rfl ?_
    refine go_n (d := 28) (op := .fieldAddr 24 (.tmp 27) 0) (ty := 0) (g := some (8, true)) (by kernel_rfl) ⟨23, _, by kernel_rfl, rfl, rfl⟩ rfl ?_
    refine go_n (d := 29) (op := .load 4 (.tmp 28)) (ty := 4) (g := some (8, true)) (by kernel_rfl) ⟨23, _, by kernel_rfl, rfl, rfl⟩ rfl ?_
    refine go_n (d := 30) (op := .binOp .eql 4 (.tmp 26) (.tmp 29) 4) (ty := 4) (g := some (8, true)) (by kernel_rfl) ⟨23, _, by kernel_rfl, rfl, rfl⟩ rfl ?_
    refine go_q0 31 (.pick (.tmp 23) (.tmp 30) (.const (.bool false))) 4 (qv_pick_f rfl rfl) ?_
    refine go_q0 32 (.move (.tmp 31)) 4 (qv_move rfl) ?_
    refine go_n (d := 33) (op := .load 27 (.tmp 1)) (ty := 27) (g := some (17, true)) (by kernel_rfl) ⟨32, _, by kernel_rfl, rfl, rfl⟩ rfl ?_
    refine go_n (d := 34) (op := .load 27 (.tmp 3)) (ty := 27) (g := some (17, true)) (by kernel_rfl) ⟨32, _, by kernel_rfl, rfl, rfl⟩ rfl ?_
    refine go_n (d := 35) (op := .binOp .eql 27 (.tmp 33) (.tmp 34) 27) (ty := 4) (g := some (17, true)) (by kernel_rfl) ⟨32, _, by kernel_rfl, rfl, rfl⟩ rfl ?_
    refine go_q0 36 (.pick (.tmp 32) (.tmp 35) (.const (.bool false))) 4 (qv_pick_f rfl rfl) ?_
    refine go_q0 2 (.assign (.tmp 36)) 4 (qv_assign rfl) ?_
    refine go_nil ?_
    change G _ _ _ _
    refine p_weaken [2] rfl ?_
    refine p_ret0 ?_
    try dsimp only [thenQ, inBlockQ]
    try rw [if_pos rfl]
    refine ret_now (.inr rfl) (.cons (res_tmp rfl) .nil) (by repeat constructor) ?_
    refine ⟨congrArg Value.bool (?_ : (_ : Bool) = _), rfl⟩; obtain ⟨ksrc, kdst, kproto, ksp, kdp⟩ := k; (try simp_all [Key.right]); try rfl
  replace g23 := kn g23
  refine go_q (d := 24) (op := .fieldAddr 27 (.tmp 1) 0) (ty := 0) (g := some (8, true)) (by kernel_rfl) ⟨23, by kernel_rfl, rfl⟩ rfl (qv_field rfl fd27_0) ?_
  refine go_q (d := 25) (op := .fieldAddr 24 (.tmp 24) 0) (ty := 0) (g := some (8, true)) (by kernel_rfl) ⟨23, by kernel_rfl, rfl⟩ rfl (qv_field rfl fd24_0) ?_
  refine go_q (d := 26) (op := .load 4 (.tmp 25)) (ty := 4) (g := some (8, true)) (by kernel_rfl) ⟨23, by kernel_rfl, rfl⟩ rfl (qv_load rfl .auto (ldv_sca sc4 (get_Key_0 _))) ?_
  refine go_q (d := 27) (op := .fieldAddr 27 (.tmp 1) 1) (ty := 0) (g := some (8, true)) (by kernel_rfl) ⟨23, by kernel_rfl, rfl⟩ rfl (qv_field rfl fd27_1) ?_
  refine go_q (d := 28) (op := .fieldAddr 24 (.tmp 27) 0) (ty := 0) (g := some (8, true)) (by kernel_rfl) ⟨23, by kernel_rfl, rfl⟩ rfl (qv_field rfl fd24_0) ?_
  refine go_q (d := 29) (op := .load 4 (.tmp 28)) (ty := 4) (g := some (8, true)) (by kernel_rfl) ⟨23, by kernel_rfl, rfl⟩ rfl (qv_load rfl .auto (ldv_sca sc4 (get_Key_17 _))) ?_
  refine go_q (d := 30) (op := .binOp .eql 4 (.tmp 26) (.tmp 29) 4) (ty := 4) (g := some (8, true)) (by kernel_rfl) ⟨23, by kernel_rfl, rfl⟩ rfl (qv_eqlB un4 rfl rfl) ?_
  refine go_q0 31 (.pick (.tmp 23) (.tmp 30) (.const (.bool false))) 4 (qv_pick_t rfl rfl) ?_
  refine go_q0 32 (.move (.tmp 31)) 4 (qv_move rfl) ?_
  refine go_case (d := 32) rfl (fun g32 => ?_) (fun g32 => ?_)
  · replace g32 := kn g32
    refine go_q (d := 33) (op := .load 27 (.tmp 1)) (ty := 27) (g := some (17, true)) (by kernel_rfl) ⟨32, by kernel_rfl, rfl⟩ rfl (qv_load rfl .auto (ldv_agg agg27 (extw_Key _) (Nat.le_of_ble_eq_true rfl))) ?_
    refine go_q (d := 34) (op := .load 27 (.tmp 3)) (ty := 27) (g := some (17, true)) (by kernel_rfl) ⟨32, by kernel_rfl, rfl⟩ rfl (qv_load rfl .auto (ldv_agg agg27 (extw_Key _) (Nat.le_of_ble_eq_true rfl))) ?_
    refine go_q (d := 35) (op := .binOp .eql 27 (.tmp 33) (.tmp 34) 27) (ty := 4) (g := some (17, true)) (by kernel_rfl) ⟨32, by kernel_rfl, rfl⟩ rfl (qv_eql_27 rfl rfl rfl) ?_
    refine go_q0 36 (.pick (.tmp 32) (.tmp 35) (.const (.bool false))) 4 (qv_pick_t rfl rfl) ?_
    refine go_q0 2 (.assign (.tmp 36)) 4 (qv_assign rfl) ?_
    refine go_nil ?_
    change G _ _ _ _
    refine p_weaken [2] rfl ?_
    refine p_ret0 ?_
    try dsimp only [thenQ, inBlockQ]
    try rw [if_pos rfl]
    refine ret_now (.inr rfl) (.cons (res_tmp rfl) .nil) (by repeat constructor) ?_
    refine ⟨congrArg Value.bool (?_ : (_ : Bool) = _), rfl⟩; obtain ⟨ksrc, kdst, kproto, ksp, kdp⟩ := k; (try simp_all [Key.right]); try rfl
  replace g32 := kn g32
  refine go_n (d := 33) (op := .load 27 (.tmp 1)) (ty := 27) (g := some (17, true)) (by kernel_rfl) ⟨32, _, by kernel_rfl, rfl, rfl⟩ rfl ?_
  refine go_n (d := 34) (op := .load 27 (.tmp 3)) (ty := 27) (g := some (17, true)) (by kernel_rfl) ⟨32, _, by kernel_rfl, rfl, rfl⟩ rfl ?_
  refine go_n (d := 35) (op := .binOp .eql 27 (.tmp 33) (.tmp 34) 27) (ty := 4) (g := some (17, true)) (by kernel_rfl) ⟨32, _, by kernel_rfl, rfl, rfl⟩ rfl ?_
  refine go_q0 36 (.pick (.tmp 32) (.tmp 35) (.const (.bool false))) 4 (qv_pick_f rfl rfl) ?_
  refine go_q0 2 (.assign (.tmp 36)) 4 (qv_assign rfl) ?_
  refine go_nil ?_
  change G _ _ _ _
  refine p_weaken [2] rfl ?_
  refine p_ret0 ?_
  try dsimp only [thenQ, inBlockQ]
  try rw [if_pos rfl]
  refine ret_now (.inr rfl) (.cons (res_tmp rfl) .nil) (by repeat constructor) ?_
  refine ⟨congrArg Value.bool (?_ : (_ : Bool) = _), rfl⟩; obtain ⟨ksrc, kdst, kproto, ksp, kdp⟩ := k; (try simp_all [Key.right]); try rfl
theorem pu_RecRight (r : Rec) : Pu Try.prog 21 [.agg r.c] (.bool r.right) := by
  refine ct_body (rv := [.tmp 2]) [(0, _)] Try.func21 (by kernel_rfl) Try.ntmps21 Try.results21 rfl rfl (fun w0 => ?_)
  refine p_seq0 ?_
  refine p_plain0 (0 :: 1 :: []) ?_
  refine go_s0 (some 1) (.box 35 (.tmp 0)) 0 ?_
  refine os_boxA rfl rfl (fun b1 => ?_)
  refine go_q0 2 (.assign (.const (.bool false))) 4 (qv_assign rfl) ?_
  refine go_nil ?_
  change G _ _ _ _
  refine p_weaken [1, 2] rfl ?_
  refine p_seq0 ?_
  refine p_plain0 (0 :: 1 :: 2 :: 3 :: 4 :: 5 :: 6 :: 7 :: 8 :: 9 :: 10 :: 11 :: 12 :: 13 :: 14 :: 15 :: 16 :: 17 :: 18 :: 19 :: 20 :: 21 :: 22 :: 23 :: 24 :: 25 :: []) ?_
  refine go_q0 3 (.fieldAddr 35 (.tmp 1) 0) 0 (qv_field rfl fd35_0) ?_
  refine go_q0 4 (.load 27 (.tmp 3)) 27 (qv_load rfl .auto (ldv_agg agg27 (ext_Rec_0_37 _) (Nat.le_of_ble_eq_true rfl))) ?_
  refine go_s0 (some 5) (.call { callee := .value (.func 43), args := #[.tmp 4], argTypes := #[27] }) 4 ?_
  refine os_callP rfl en43 rfl (pu_KeyRight r.key) ?_
  refine go_q0 6 (.move (.tmp 5)) 4 (qv_move rfl) ?_
  refine go_case (d := 6) rfl (fun g6 => ?_) (fun g6 => ?_)
  rotate_left
  · replace g6 := kn g6
    refine go_n (d := 7) (op := .fieldAddr 35 (.tmp 1) 1) (ty := 0) (g := some (3, true)) (by kernel_rfl) ⟨6, _, by kernel_rfl, rfl, rfl⟩ rfl ?_
    refine go_n (d := 8) (op := .load 30 (.tmp 7)) (ty := 30) (g := some (3, true)) (by kernel_rfl) ⟨6, _, by kernel_rfl, rfl, rfl⟩ rfl ?_
    refine go_n (d := 9) (op := .binOp .gtr 30 (.tmp 8) (.const (.int .u64 0)) 30) (ty := 4) (g := some (3, true)) (by kernel_rfl) ⟨6, _, by kernel_rfl, rfl, rfl⟩ rfl ?_
    refine go_q0 10 (.pick (.tmp 6) (.tmp 9) (.const (.bool false))) 4 (qv_pick_f rfl rfl) ?_
    refine go_q0 11 (.move (.tmp 10)) 4 (qv_move rfl) ?_
    refine go_n (d := 12) (op := .fieldAddr 35 (.tmp 1) 3) (ty := 0) (g := some (8, true)) (by kernel_rfl) ⟨11, _, by kernel_rfl, rfl, rfl⟩ rfl ?_
    refine go_n (d := 13) (op := .load 30 (.tmp 12)) (ty := 30) (g := some (8, true)) (by kernel_rfl) ⟨11, _, by kernel_rfl, rfl, rfl⟩ rfl ?_
    refine go_n (d := 14) (op := .fieldAddr 35 (.tmp 1) 4) (ty := 0) (g := some (8, true)) (by kernel_rfl) ⟨11, _, by kernel_rfl, rfl, rfl⟩ rfl ?_
    refine go_n (d := 15) (op := .load 30 (.tmp 14)) (ty := 30) (g := some (8, true)) (by kernel_rfl) ⟨11, _, by kernel_rfl, rfl, rfl⟩ rfl ?_
    refine go_n (d := 16) (op := .binOp .leq 30 (.tmp 13) (.tmp 15) 30) (ty := 4) (g := some (8, true)) (by kernel_rfl) ⟨11, _, by kernel_rfl, rfl, rfl⟩ rfl ?_
    refine go_q0 17 (.pick (.tmp 11) (.tmp 16) (.const (.bool false))) 4 (qv_pick_f rfl rfl) ?_
    refine go_q0 18 (.move (.tmp 17)) 4 (qv_move rfl) ?_
    refine go_n (d := 19) (op := .fieldAddr 35 (.tmp 1) 6) (ty := 0) (g := some (15, true)) (by kernel_rfl) ⟨18, _, by kernel_rfl, rfl, rfl⟩ rfl ?_
    refine go_n (d := 20) (op := .load 5 (.tmp 19)) (ty := 5) (g := some (15, true)) (by kernel_rfl) ⟨18, _, by kernel_rfl, rfl, rfl⟩ rfl ?_
    refine go_n (d := 21) (op := .binOp .geq 5 (.tmp 20) (.const (.int .u8 1)) 5) (ty := 4) (g := some (15, true)) (by kernel_rfl) ⟨18, _, by kernel_rfl, rfl, rfl⟩ rfl ?_
    refine go_q0 22 (.pick (.tmp 18) (.tmp 21) (.const (.bool false))) 4 (qv_pick_f rfl rfl) ?_
    refine go_q0 23 (.move (.tmp 22)) 4 (qv_move rfl) ?_
    refine go_n (d := 24) (op := .fieldAddr 35 (.tmp 1) 6) (ty := 0) (g := some (20, true)) (by kernel_rfl) ⟨23, _, by kernel_rfl, rfl, rfl⟩ rfl ?_
    refine go_n (d := 25) (op := .load 5 (.tmp 24)) (ty := 5) (g := some (20, true)) (by kernel_rfl) ⟨23, _, by kernel_rfl, rfl, rfl⟩ rfl ?_
    refine go_n (d := 26) (op := .binOp .leq 5 (.tmp 25) (.const (.int .u8 5)) 5) (ty := 4) (g := some (20, true)) (by kernel_rfl) ⟨23, _, by kernel_rfl, rfl, rfl⟩ rfl ?_
    refine go_q0 27 (.pick (.tmp 23) (.tmp 26) (.const (.bool false))) 4 (qv_pick_f rfl rfl) ?_
    refine go_q0 2 (.assign (.tmp 27)) 4 (qv_assign rfl) ?_
    refine go_nil ?_
    change G _ _ _ _
    refine p_weaken [2] rfl ?_
    refine p_ret0 ?_
    try dsimp only [thenQ, inBlockQ]
    try rw [if_pos rfl]
    refine ret_now (.inr rfl) (.cons (res_tmp rfl) .nil) (by repeat constructor) ?_
    refine ⟨congrArg Value.bool (?_ : (_ : Bool) = _), rfl⟩; (try simp_all [Rec.right]); try omega
  replace g6 := kn g6
  refine go_q (d := 7) (op := .fieldAddr 35 (.tmp 1) 1) (ty := 0) (g := some (3, true)) (by kernel_rfl) ⟨6, by kernel_rfl, rfl⟩ rfl (qv_field rfl fd35_1) ?_
  refine go_q (d := 8) (op := .load 30 (.tmp 7)) (ty := 30) (g := some (3, true)) (by kernel_rfl) ⟨6, by kernel_rfl, rfl⟩ rfl (qv_load rfl .auto (ldv_sca sc30 (get_Rec_37 _))) ?_
  refine go_q (d := 9) (op := .binOp .gtr 30 (.tmp 8) (.const (.int .u64 0)) 30) (ty := 4) (g := some (3, true)) (by kernel_rfl) ⟨6, by kernel_rfl, rfl⟩ rfl (qv_gtr rfl rfl rfl) ?_
  refine go_q0 10 (.pick (.tmp 6) (.tmp 9) (.const (.bool false))) 4 (qv_pick_t rfl rfl) ?_
  refine go_q0 11 (.move (.tmp 10)) 4 (qv_move rfl) ?_
  refine go_case (d := 11) rfl (fun g11 => ?_) (fun g11 => ?_)
  rotate_left
  · replace g11 := kn g11
    refine go_n (d := 12) (op := .fieldAddr 35 (.tmp 1) 3) (ty := 0) (g := some (8, true)) (by kernel_rfl) ⟨11, _, by kernel_rfl, rfl, rfl⟩ rfl ?_
    refine go_n (d := 13) (op := .load 30 (.tmp 12)) (ty := 30) (g := some (8, true)) (by kernel_rfl) ⟨11, _, by kernel_rfl, rfl, rfl⟩ rfl ?_
    refine go_n (d := 14) (op := .fieldAddr 35 (.tmp 1) 4) (ty := 0) (g := some (8, true)) (by kernel_rfl) ⟨11, _, by kernel_rfl, rfl, rfl⟩ rfl ?_
    refine go_n (d := 15) (op := .load 30 (.tmp 14)) (ty := 30) (g := some (8, true)) (by kernel_rfl) ⟨11, _, by kernel_rfl, rfl, rfl⟩ rfl ?_
    refine go_n (d := 16) (op := .binOp .leq 30 (.tmp 13) (.tmp 15) 30) (ty := 4) (g := some (8, true)) (by kernel_rfl) ⟨11, _, by kernel_rfl, rfl, rfl⟩ rfl ?_
    refine go_q0 17 (.pick (.tmp 11) (.tmp 16) (.const (.bool false))) 4 (qv_pick_f rfl rfl) ?_
    refine go_q0 18 (.move (.tmp 17)) 4 (qv_move rfl) ?_
    refine go_n (d := 19) (op := .fieldAddr 35 (.tmp 1) 6) (ty := 0) (g := some (15, true)) (by kernel_rfl) ⟨18, _, by kernel_rfl, rfl, rfl⟩ rfl ?_
    refine go_n (d := 20) (op := .load 5 (.tmp 19)) (ty := 5) (g := some (15, true)) (by kernel_rfl) ⟨18, _, by kernel_rfl, rfl, rfl⟩ rfl ?_
    refine go_n (d := 21) (op := .binOp .geq 5 (.tmp 20) (.const (.int .u8 1)) 5) (ty := 4) (g := some (15, true)) (by kernel_rfl) ⟨18, _, by kernel_rfl, rfl, rfl⟩ rfl ?_
    refine go_q0 22 (.pick (.tmp 18) (.tmp 21) (.const (.bool false))) 4 (qv_pick_f rfl rfl) ?_
    refine go_q0 23 (.move (.tmp 22)) 4 (qv_move rfl) ?_
    refine go_n (d := 24) (op := .fieldAddr 35 (.tmp 1) 6) (ty := 0) (g := some (20, true)) (by kernel_rfl) ⟨23, _, by kernel_rfl, rfl, rfl⟩ rfl ?_
    refine go_n (d := 25) (op := .load 5 (.tmp 24)) (ty := 5) (g := some (20, true)) (by kernel_rfl) ⟨23, _, by kernel_rfl, rfl, rfl⟩ rfl ?_
    refine go_n (d := 26) (op := .binOp .leq 5 (.tmp 25) (.const (.int .u8 5)) 5) (ty := 4) (g := some (20, true)) (by kernel_rfl) ⟨23, _, by kernel_rfl, rfl, rfl⟩ rfl ?_
    refine go_q0 27 (.pick (.tmp 23) (.tmp 26) (.const (.bool false))) 4 (qv_pick_f rfl rfl) ?_
    refine go_q0 2 (.assign (.tmp 27)) 4 (qv_assign rfl) ?_
    refine go_nil ?_
    change G _ _ _ _
    refine p_weaken [2] rfl ?_
    refine p_ret0 ?_
    try dsimp only [thenQ, inBlockQ]
    try rw [if_pos rfl]
    refine ret_now (.inr rfl) (.cons (res_tmp rfl) .nil) (by repeat constructor) ?_
    refine ⟨congrArg Value.bool (?_ : (_ : Bool) = _), rfl⟩; (try simp_all [Rec.right]); try omega
  replace g11 := kn g11
  refine go_q (d := 12) (op := .fieldAddr 35 (.tmp 1) 3) (ty := 0) (g := some (8, true)) (by kernel_rfl) ⟨11, by kernel_rfl, rfl⟩ rfl (qv_field rfl fd35_3) ?_
  refine go_q (d := 13) (op := .load 30 (.tmp 12)) (ty := 30) (g := some (8, true)) (by kernel_rfl) ⟨11, by kernel_rfl, rfl⟩ rfl (qv_load rfl .auto (ldv_sca sc30 (get_Rec_39 _))) ?_
  refine go_q (d := 14) (op := .fieldAddr 35 (.tmp 1) 4) (ty := 0) (g := some (8, true)) (by kernel_rfl) ⟨11, by kernel_rfl, rfl⟩ rfl (qv_field rfl fd35_4) ?_
  refine go_q (d := 15) (op := .load 30 (.tmp 14)) (ty := 30) (g := some (8, true)) (by kernel_rfl) ⟨11, by kernel_rfl, rfl⟩ rfl (qv_load rfl .auto (ldv_sca sc30 (get_Rec_40 _))) ?_
  refine go_q (d := 16) (op := .binOp .leq 30 (.tmp 13) (.tmp 15) 30) (ty := 4) (g := some (8, true)) (by kernel_rfl) ⟨11, by kernel_rfl, rfl⟩ rfl (qv_leq rfl rfl rfl) ?_
  refine go_q0 17 (.pick (.tmp 11) (.tmp 16) (.const (.bool false))) 4 (qv_pick_t rfl rfl) ?_
  refine go_q0 18 (.move (.tmp 17)) 4 (qv_move rfl) ?_
  refine go_case (d := 18) rfl (fun g18 => ?_) (fun g18 => ?_)
  rotate_left
  · replace g18 := kn g18
    refine go_n (d := 19) (op := .fieldAddr 35 (.tmp 1) 6) (ty := 0) (g := some (15, true)) (by kernel_rfl) ⟨18, _, by kernel_rfl, rfl, rfl⟩ rfl ?_
    refine go_n (d := 20) (op := .load 5 (.tmp 19)) (ty := 5) (g := some (15, true)) (by kernel_rfl) ⟨18, _, by kernel_rfl, rfl, rfl⟩ rfl ?_
    refine go_n (d := 21) (op := .binOp .geq 5 (.tmp 20) (.const (.int .u8 1)) 5) (ty := 4) (g := some (15, true)) (by kernel_rfl) ⟨18, _, by kernel_rfl, rfl, rfl⟩ rfl ?_
    refine go_q0 22 (.pick (.tmp 18) (.tmp 21) (.const (.bool false))) 4 (qv_pick_f rfl rfl) ?_
    refine go_q0 23 (.move (.tmp 22)) 4 (qv_move rfl) ?_
    refine go_n (d := 24) (op := .fieldAddr 35 (.tmp 1) 6) (ty := 0) (g := some (20, true)) (by kernel_rfl) ⟨23, _, by kernel_rfl, rfl, rfl⟩ rfl ?_
    refine go_n (d := 25) (op := .load 5 (.tmp 24)) (ty := 5) (g := some (20, true)) (by kernel_rfl) ⟨23, _, by kernel_rfl, rfl, rfl⟩ rfl ?_
    refine go_n (d := 26) (op := .binOp .leq 5 (.tmp 25) (.const (.int .u8 5)) 5) (ty := 4) (g := some (20, true)) (by kernel_rfl) ⟨23, _, by kernel_rfl, rfl, rfl⟩ rfl ?_
    refine go_q0 27 (.pick (.tmp 23) (.tmp 26) (.const (.bool false))) 4 (qv_pick_f rfl rfl) ?_
    refine go_q0 2 (.assign (.tmp 27)) 4 (qv_assign rfl) ?_
    refine go_nil ?_
    change G _ _ _ _
    refine p_weaken [2] rfl ?_
    refine p_ret0 ?_
    try dsimp only [thenQ, inBlockQ]
    try rw [if_pos rfl]
    refine ret_now (.inr rfl) (.cons (res_tmp rfl) .nil) (by repeat constructor) ?_
    refine ⟨congrArg Value.bool (?_ : (_ : Bool) = _), rfl⟩; (try simp_all [Rec.right]); try omega
  replace g18 := kn g18
  refine go_q (d := 19) (op := .fieldAddr 35 (.tmp 1) 6) (ty := 0) (g := some (15, true)) (by kernel_rfl) ⟨18, by kernel_rfl, rfl⟩ rfl (qv_field rfl fd35_6) ?_
  refine go_q (d := 20) (op := .load 5 (.tmp 19)) (ty := 5) (g := some (15, true)) (by kernel_rfl) ⟨18, by kernel_rfl, rfl⟩ rfl (qv_load rfl .auto (ldv_sca sc5 (get_Rec_42 _))) ?_
  refine go_q (d := 21) (op := .binOp .geq 5 (.tmp 20) (.const (.int .u8 1)) 5) (ty := 4) (g := some (15, true)) (by kernel_rfl) ⟨18, by kernel_rfl, rfl⟩ rfl (qv_geq rfl rfl rfl) ?_
  refine go_q0 22 (.pick (.tmp 18) (.tmp 21) (.const (.bool false))) 4 (qv_pick_t rfl rfl) ?_
  refine go_q0 23 (.move (.tmp 22)) 4 (qv_move rfl) ?_
  refine go_case (d := 23) rfl (fun g23 => ?_) (fun g23 => ?_)
  · replace g23 := kn g23
    refine go_q (d := 24) (op := .fieldAddr 35 (.tmp 1) 6) (ty := 0) (g := some (20, true)) (by kernel_rfl) ⟨23, by kernel_rfl, rfl⟩ rfl (qv_field rfl fd35_6) ?_
    refine go_q (d := 25) (op := .load 5 (.tmp 24)) (ty := 5) (g := some (20, true)) (by kernel_rfl) ⟨23, by kernel_rfl, rfl⟩ rfl (qv_load rfl .auto (ldv_sca sc5 (get_Rec_42 _))) ?_
    refine go_q (d := 26) (op := .binOp .leq 5 (.tmp 25) (.const (.int .u8 5)) 5) (ty := 4) (g := some (20, true)) (by kernel_rfl) ⟨23, by kernel_rfl, rfl⟩ rfl (qv_leq rfl rfl rfl) ?_
    refine go_q0 27 (.pick (.tmp 23) (.tmp 26) (.const (.bool false))) 4 (qv_pick_t rfl rfl) ?_
    refine go_q0 2 (.assign (.tmp 27)) 4 (qv_assign rfl) ?_
    refine go_nil ?_
    change G _ _ _ _
    refine p_weaken [2] rfl ?_
    refine p_ret0 ?_
    try dsimp only [thenQ, inBlockQ]
    try rw [if_pos rfl]
    refine ret_now (.inr rfl) (.cons (res_tmp rfl) .nil) (by repeat constructor) ?_
    refine ⟨congrArg Value.bool (?_ : (_ : Bool) = _), rfl⟩; (try simp_all [Rec.right]); try omega
  replace g23 := kn g23
  refine go_n (d := 24) (op := .fieldAddr 35 (.tmp 1) 6) (ty := 0) (g := some (20, true)) (by kernel_rfl) ⟨23, _, by kernel_rfl, rfl, rfl⟩ rfl ?_
  refine go_n (d := 25) (op := .load 5 (.tmp 24)) (ty := 5) (g := some (20, true)) (by kernel_rfl) ⟨23, _, by kernel_rfl, rfl, rfl⟩ rfl ?_
  refine go_n (d := 26) (op := .binOp .leq 5 (.tmp 25) (.const (.int .u8 5)) 5) (ty := 4) (g := some (20, true)) (by kernel_rfl) ⟨23, _, by kernel_rfl, rfl, rfl⟩ rfl ?_
  refine go_q0 27 (.pick (.tmp 23) (.tmp 26) (.const (.bool false))) 4 (qv_pick_f rfl rfl) ?_
  refine go_q0 2 (.assign (.tmp 27)) 4 (qv_assign rfl) ?_
  refine go_nil ?_
  change G _ _ _ _
  refine p_weaken [2] rfl ?_
  refine p_ret0 ?_
  try dsimp only [thenQ, inBlockQ]
  try rw [if_pos rfl]
  refine ret_now (.inr rfl) (.cons (res_tmp rfl) .nil) (by repeat constructor) ?_
  refine ⟨congrArg Value.bool (?_ : (_ : Bool) = _), rfl⟩; (try simp_all [Rec.right]); try omega
end Go.Proofs.Ytobmcpoejhhemaa
