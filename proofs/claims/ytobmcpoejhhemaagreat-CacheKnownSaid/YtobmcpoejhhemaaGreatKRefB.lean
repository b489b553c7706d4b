import Derived.Test.YtobmcpoejhhemaaGreatKCmp
import Derived.Laws.Externs
namespace Go.Proofs.YtobmcpoejhhemaaGreat
open Go.E

theorem pu_refSize (a : Adr) : Pu Tryz.prog 131 [.bool a.six] (.int .i64 ((adrBytes a).length : Nat)) := by
  refine ct_body (rv := [.tmp 2]) [(0, _)] Tryz.func131 (by kernel_rfl) Tryz.ntmps131 Tryz.results131 rfl rfl (fun w0 => ?_)
  refine p_seq0 ?_
  refine p_plain0 (0 :: []) ?_
  refine go_q0 2 (.assign (.const (.int .i64 0))) 3 (qv_assign rfl) ?_
  refine go_nil ?_
  change G _ _ _ _
  refine p_seq0 ?_
  refine p_seq0 ?_
  refine p_plain0 (0 :: []) ?_
  refine go_q0 3 (.move (.tmp 0)) 4 (qv_move rfl) ?_
  refine go_nil ?_
  change G _ _ _ _
  refine p_weaken [2, 3] rfl ?_
  refine p_cond (.tmp 3) (by kernel_rfl) rfl (fun h3 => ?_) (fun h3 => ?_)
  · replace h3 := kn h3
    have hl := len_adrBytes a
    rw [h3] at hl
    refine p_seq0 ?_
    refine p_plain0 (0 :: []) ?_
    refine go_q0 2 (.assign (.const (.int .i64 16))) 3 (qv_assign rfl) ?_
    refine go_nil ?_
    change G _ _ _ _
    refine p_weaken [2] rfl ?_
    refine p_ret0 ?_
    try dsimp only [thenQ, inBlockQ]
    try rw [if_pos rfl]
    refine ret_now (.inr rfl) (.cons (res_tmp rfl) .nil) (by repeat constructor) ?_
    exact ⟨by rw [hl]; rfl, rfl⟩
  replace h3 := kn h3
  have hl := len_adrBytes a
  rw [h3] at hl
  refine p_skip0 ?_
  change G _ _ _ _
  refine p_weaken [2] rfl ?_
  refine p_seq0 ?_
  refine p_plain0 (0 :: []) ?_
  refine go_q0 2 (.assign (.const (.int .i64 4))) 3 (qv_assign rfl) ?_
  refine go_nil ?_
  change G _ _ _ _
  refine p_ret0 ?_
  try dsimp only [thenQ, inBlockQ]
  try rw [if_pos rfl]
  refine ret_now (.inr rfl) (.cons (res_tmp rfl) .nil) (by repeat constructor) ?_
  exact ⟨by rw [hl]; rfl, rfl⟩
theorem adr_byte (a : Adr) {i : Nat} (hi : i < (adrBytes a).length) : (adrBytes a)[i]? = some (a.b.at i) := by
  obtain ⟨six, b⟩ := a
  have := adr_le ⟨six, b⟩
  cases six with
  | true =>
    have : i = 0 ∨ i = 1 ∨ i = 2 ∨ i = 3 ∨ i = 4 ∨ i = 5 ∨ i = 6 ∨ i = 7 ∨ i = 8 ∨ i = 9 ∨ i = 10 ∨ i = 11 ∨ i = 12 ∨ i = 13 ∨ i = 14 ∨ i = 15 := by omega
    rcases this with rfl | rfl | rfl | rfl | rfl | rfl | rfl | rfl | rfl | rfl | rfl | rfl | rfl | rfl | rfl | rfl <;> rfl
  | false =>
    have hl := len_adrBytes ⟨false, b⟩
    simp only [Bool.false_eq_true, if_false] at hl
    have : i = 0 ∨ i = 1 ∨ i = 2 ∨ i = 3 := by omega
    rcases this with rfl | rfl | rfl | rfl <;> rfl
theorem ct_refAdrBytes (a : Adr) : Ct Tryz.prog 121 [.agg a.c].toArray [] (fun v A => OwnB v (adrBytes a) A) := by
  refine ct_body (rv := [.tmp 2]) [(0, _)] Tryz.func121 (by kernel_rfl) Tryz.ntmps121 Tryz.results121 rfl rfl (fun w0 => ?_)
  have ha := adr_le a
  refine p_seq0 ?_
  refine p_plain0 (0 :: 1 :: []) ?_
  refine go_s0 (some 1) (.box 90 (.tmp 0)) 0 ?_
  refine os_boxA rfl rfl (fun b1 => ?_)
  refine go_q0 2 (.assign (.const (.slice none 0 0))) 143 (qv_assign rfl) ?_
  refine go_nil ?_
  change G _ _ _ _
  refine p_weaken [1, 2] rfl ?_
  refine p_seq0 ?_
  refine p_plain0 (0 :: []) ?_
  refine go_q0 3 (.assign (.const (.slice none 0 0))) 143 (qv_assign rfl) ?_
  refine go_nil ?_
  change G _ _ _ _
  refine p_seq0 ?_
  refine p_seq0 ?_
  refine p_plain0 (0 :: []) ?_
  refine go_q0 4 (.assign (.const (.int .i64 0))) 3 (qv_assign rfl) ?_
  refine go_nil ?_
  change G _ _ _ _
  refine p_block 0 (by kernel_rfl) ?_
  refine p_loopE (by kernel_rfl) (fun s m => ∃ (i : Nat) (l : List Int) (p : Option Addr) (c : Nat) (A : Mem), (i ≤ (adrBytes a).length) ∧ (l = (adrBytes a).take i) ∧ (OwnL (eI .u8) 5 p c l A) ∧ Ge s ⟨[], [(1, .pointer (some ⟨b1, 0, none⟩)), (3, .slice p l.length c), (4, .int .i64 i)], A ++ [(b1, .cells a.c 90 (0, 0))]⟩ ∧ m = 17 - i) ?_ ?_
  · exact ⟨_, ⟨0, [], none, 0, [], by omega, rfl, OwnL.nil, ⟨rfl, ⟨[1, 3, 4], rfl⟩, .auto⟩, rfl⟩⟩
  rintro s m ⟨i, l, p, c, A, hi, hl, hO, hs, rfl⟩
  refine ge_ok hs ?_
  refine p_seq0 ?_
  refine p_seq0 ?_
  refine p_plain0 (0 :: 1 :: 2 :: 3 :: 4 :: []) ?_
  refine go_q0 5 (.move (.tmp 4)) 3 (qv_move rfl) ?_
  refine go_q0 6 (.fieldAddr 90 (.tmp 1) 0) 0 (qv_field rfl fd90_0) ?_
  refine go_q0 7 (.load 4 (.tmp 6)) 4 (qv_load rfl .auto (ldv_sca sc4 (get_Adr_0 _))) ?_
  refine go_s0 (some 8) (.call { callee := .value (.func 131), args := #[.tmp 7], argTypes := #[4] }) 3 ?_
  refine os_callP rfl en131 rfl (pu_refSize a) ?_
  refine go_q0 9 (.binOp .lss 3 (.tmp 5) (.tmp 8) 3) 4 (qv_lss rfl rfl rfl) ?_
  refine go_nil ?_
  change G _ _ _ _
  refine p_weaken [1, 3, 4, 9] rfl ?_
  refine p_cond (.tmp 9) (by kernel_rfl) rfl (fun h9 => ?_) (fun h9 => ?_)
  rotate_left
  · replace h9 := kn h9
    refine p_exit 0 (by kernel_rfl) ?_
    change G _ _ _ _
    refine p_weaken [3] rfl ?_
    refine p_seq0 ?_
    refine p_plain0 (0 :: 1 :: []) ?_
    refine go_q0 19 (.move (.tmp 3)) 143 (qv_move rfl) ?_
    refine go_q0 2 (.assign (.tmp 19)) 143 (qv_assign rfl) ?_
    refine go_nil ?_
    change G _ _ _ _
    refine p_weaken [2] rfl ?_
    refine p_ret0 ?_
    try dsimp only [thenQ, inBlockQ]
    try rw [if_pos rfl]
    refine ret_left (A) (.inr rfl) (.cons (res_tmp rfl) .nil) .auto ?_
    have hi' : i = (adrBytes a).length := by omega
    subst hi'
    rw [List.take_length] at hl
    subst hl
    exact ⟨p, c, rfl, hO⟩
  replace h9 := kn h9
  refine p_skip0 ?_
  change G _ _ _ _
  refine p_weaken [1, 3, 4] rfl ?_
  refine p_seq0 ?_
  refine p_block 1 (by kernel_rfl) ?_
  have hi' : i < (adrBytes a).length := by omega
  have hll : l.length = i := by rw [hl]; simp; omega
  refine p_plain0 (0 :: 1 :: 2 :: 3 :: 4 :: 5 :: 6 :: 7 :: []) ?_
  refine go_q0 12 (.move (.tmp 3)) 143 (qv_move rfl) ?_
  refine go_q0 13 (.move (.tmp 4)) 3 (qv_move rfl) ?_
  refine go_q0 14 (.fieldAddr 90 (.tmp 1) 1) 0 (qv_field rfl fd90_1) ?_
  refine go_q0 15 (.indexAddr 24 (.tmp 14) (.tmp 13)) 0 (qv_indexA un24 sz5 rfl rfl (j := i) rfl (by omega)) ?_
  refine go_q0 16 (.load 5 (.tmp 15)) 5 (qv_load rfl .auto (ldv_sca sc5 (adr_at a (by omega)))) ?_
  refine go_s0 (some 17) (.buildSlice 143 1 #[(0, .tmp 16)]) 143 ?_
  refine os_buildSlice (Nat.le_of_ble_eq_true rfl) rfl (bls143_1 _) (fun b17 => ?_)
  refine go_s0 (some 18) (.call { callee := .builtin .append, args := #[.tmp 12, .tmp 17], argTypes := #[143, 143] }) 143 ?_
  refine os_appendK (E := eI .u8) (l := l) (l2 := [a.b.at i]) rfl el143 rfl rfl rfl rfl (hO) .auto .auto (Go.E.holds_one _) (eI_one _) (by simp [maxLen] <;> omega) (by simp <;> omega) (fun p18 c18 A18 h18 => ?_)
  refine go_q0 3 (.assign (.tmp 18)) 143 (qv_assign rfl) ?_
  refine go_nil ?_
  change G _ _ _ _
  refine p_weaken [1, 3, 4] rfl ?_
  refine p_plain0 (0 :: 1 :: 2 :: []) ?_
  refine go_q0 10 (.move (.tmp 4)) 3 (qv_move rfl) ?_
  refine go_q0 11 (.binOp .add 3 (.tmp 10) (.const (.int .i64 1)) 3) 3 (qv_add rfl rfl (by first | exact IntWalk.i64_in _ (by omega) | exact IntWalk.i64_in _ (by dsimp only; omega) | rfl)) ?_
  refine go_q0 4 (.assign (.tmp 11)) 3 (qv_assign rfl) ?_
  refine go_nil ?_
  exact ⟨_, ⟨i + 1, _, _, _, _, by omega, by rw [hl, List.take_add_one, adr_byte a hi']; rfl, h18, ⟨rfl, ⟨[1, 3, 4], rfl⟩, .auto⟩, rfl⟩, by omega⟩

theorem ct_refPut0 (v : Int) : Ct Tryz.prog 122 [.int .u64 v, .int .i64 0].toArray [] (fun u A => OwnB u [] A) := by
  refine ct_body (rv := [.tmp 4]) [(0, _), (1, _)] Tryz.func122 (by kernel_rfl) Tryz.ntmps122 Tryz.results122 rfl rfl (fun w0 => ?_)
  refine p_seq0 ?_
  refine p_plain0 (0 :: []) ?_
  refine go_q0 4 (.assign (.const (.slice none 0 0))) 143 (qv_assign rfl) ?_
  refine go_nil ?_
  change G _ _ _ _
  refine p_seq0 ?_
  refine p_seq0 ?_
  refine p_plain0 (0 :: 1 :: []) ?_
  refine go_q0 5 (.move (.tmp 1)) 3 (qv_move rfl) ?_
  refine go_q0 6 (.binOp .eql 3 (.tmp 5) (.const (.int .i64 0)) 3) 4 (qv_eql (b := true) rfl rfl (by decide)) ?_
  refine go_nil ?_
  change G _ _ _ _
  refine p_weaken [0, 1, 4, 6] rfl ?_
  refine p_condT (.tmp 6) (by kernel_rfl) rfl ?_
  refine p_seq0 ?_
  refine p_plain0 (0 :: []) ?_
  refine go_q0 4 (.assign (.const (.slice none 0 0))) 143 (qv_assign rfl) ?_
  refine go_nil ?_
  change G _ _ _ _
  refine p_weaken [0, 1, 4] rfl ?_
  refine p_ret0 ?_
  try dsimp only [thenQ, inBlockQ]
  try rw [if_pos rfl]
  refine ret_now (.inr rfl) (.cons (res_tmp rfl) .nil) (by repeat constructor) ?_
  exact ⟨none, 0, rfl, OwnL.nil⟩
theorem ct_refPut1 {v : Int} (h0 : 0 ≤ v) (h1 : v ≤ 255) : Ct Tryz.prog 122 [.int .u64 v, .int .i64 1].toArray [] (fun u A => OwnB u [v] A) := by
  refine ct_body (rv := [.tmp 4]) [(0, _), (1, _)] Tryz.func122 (by kernel_rfl) Tryz.ntmps122 Tryz.results122 rfl rfl (fun w0 => ?_)
  refine p_seq0 ?_
  refine p_plain0 (0 :: []) ?_
  refine go_q0 4 (.assign (.const (.slice none 0 0))) 143 (qv_assign rfl) ?_
  refine go_nil ?_
  change G _ _ _ _
  refine p_seq0 ?_
  refine p_seq0 ?_
  refine p_plain0 (0 :: 1 :: []) ?_
  refine go_q0 5 (.move (.tmp 1)) 3 (qv_move rfl) ?_
  refine go_q0 6 (.binOp .eql 3 (.tmp 5) (.const (.int .i64 0)) 3) 4 (qv_eql (b := false) rfl rfl (by decide)) ?_
  refine go_nil ?_
  change G _ _ _ _
  refine p_weaken [0, 1, 4, 6] rfl ?_
  refine p_condF (.tmp 6) (by kernel_rfl) rfl ?_
  refine p_skip0 ?_
  change G _ _ _ _
  refine p_weaken [0, 1, 4] rfl ?_
  refine p_seq0 ?_
  refine p_plain0 (0 :: 1 :: 2 :: 3 :: 4 :: 5 :: 6 :: 7 :: 8 :: 9 :: 10 :: []) ?_
  refine go_q0 7 (.move (.tmp 0)) 23 (qv_move rfl) ?_
  refine go_q0 8 (.binOp .quo 23 (.tmp 7) (.const (.int .u64 256)) 23) 23 (qv_quo rfl rfl (by omega) ((by rw [Int.tdiv_eq_ediv_of_nonneg h0]; exact IntWalk.u64_in _ (by omega) : IntKind.u64.wrap (v.tdiv 256) = v / 256))) ?_
  refine go_q0 9 (.move (.tmp 1)) 3 (qv_move rfl) ?_
  refine go_q0 10 (.binOp .sub 3 (.tmp 9) (.const (.int .i64 1)) 3) 3 (qv_sub rfl rfl (by first | exact IntWalk.i64_in _ (by omega) | exact IntWalk.i64_in _ (by dsimp only; omega) | rfl)) ?_
  refine go_s0 (some 11) (.call { callee := .value (.func 122), args := #[.tmp 8, .tmp 10], argTypes := #[23, 3] }) 143 ?_
  refine os_call (Nat.le_of_ble_eq_true rfl) en122 rfl .auto (ct_refPut0 (v / 256)) ?_
  rintro v11 A11 ⟨p11, c11, rfl, h11⟩
  try dsimp only [List.nil_append, List.cons_append]
  try dsimp only [List.nil_append, List.cons_append]
  refine go_q0 12 (.move (.tmp 0)) 23 (qv_move rfl) ?_
  refine go_q0 13 (.binOp .rem 23 (.tmp 12) (.const (.int .u64 256)) 23) 23 (qv_rem rfl rfl (by omega) ((by rw [Int.tmod_eq_emod_of_nonneg h0]; omega : v.tmod 256 = v))) ?_
  refine go_q0 14 (.convert 23 5 (.tmp 13)) 5 (qv_conv un23 un5 rfl (by first | exact IntWalk.u8_in _ (by omega) | rfl)) ?_
  refine go_s0 (some 15) (.buildSlice 143 1 #[(0, .tmp 14)]) 143 ?_
  refine os_buildSlice (Nat.le_of_ble_eq_true rfl) rfl (bls143_1 _) (fun b15 => ?_)
  refine go_s0 (some 16) (.call { callee := .builtin .append, args := #[.tmp 11, .tmp 15], argTypes := #[143, 143] }) 143 ?_
  refine os_appendK (E := eI .u8) (l := []) (l2 := [v]) rfl el143 rfl rfl rfl rfl (h11) .auto .auto (Go.E.holds_one _) (eI_one _) (by simp [maxLen] <;> omega) (by simp <;> omega) (fun p16 c16 A16 h16 => ?_)
  refine go_q0 4 (.assign (.tmp 16)) 143 (qv_assign rfl) ?_
  refine go_nil ?_
  change G _ _ _ _
  refine p_weaken [4] rfl ?_
  refine p_ret0 ?_
  try dsimp only [thenQ, inBlockQ]
  try rw [if_pos rfl]
  refine ret_left (A16) (.inr rfl) (.cons (res_tmp rfl) .nil) .auto ?_
  exact ⟨p16, c16, rfl, h16⟩
theorem ct_refPut2 {v : Int} (h0 : 0 ≤ v) (h1 : v ≤ 65535) : Ct Tryz.prog 122 [.int .u64 v, .int .i64 2].toArray [] (fun u A => OwnB u [v / 256, v % 256] A) := by
  refine ct_body (rv := [.tmp 4]) [(0, _), (1, _)] Tryz.func122 (by kernel_rfl) Tryz.ntmps122 Tryz.results122 rfl rfl (fun w0 => ?_)
  refine p_seq0 ?_
  refine p_plain0 (0 :: []) ?_
  refine go_q0 4 (.assign (.const (.slice none 0 0))) 143 (qv_assign rfl) ?_
  refine go_nil ?_
  change G _ _ _ _
  refine p_seq0 ?_
  refine p_seq0 ?_
  refine p_plain0 (0 :: 1 :: []) ?_
  refine go_q0 5 (.move (.tmp 1)) 3 (qv_move rfl) ?_
  refine go_q0 6 (.binOp .eql 3 (.tmp 5) (.const (.int .i64 0)) 3) 4 (qv_eql (b := false) rfl rfl (by decide)) ?_
  refine go_nil ?_
  change G _ _ _ _
  refine p_weaken [0, 1, 4, 6] rfl ?_
  refine p_condF (.tmp 6) (by kernel_rfl) rfl ?_
  refine p_skip0 ?_
  change G _ _ _ _
  refine p_weaken [0, 1, 4] rfl ?_
  refine p_seq0 ?_
  refine p_plain0 (0 :: 1 :: 2 :: 3 :: 4 :: 5 :: 6 :: 7 :: 8 :: 9 :: 10 :: []) ?_
  refine go_q0 7 (.move (.tmp 0)) 23 (qv_move rfl) ?_
  refine go_q0 8 (.binOp .quo 23 (.tmp 7) (.const (.int .u64 256)) 23) 23 (qv_quo rfl rfl (by omega) ((by rw [Int.tdiv_eq_ediv_of_nonneg h0]; exact IntWalk.u64_in _ (by omega) : IntKind.u64.wrap (v.tdiv 256) = v / 256))) ?_
  refine go_q0 9 (.move (.tmp 1)) 3 (qv_move rfl) ?_
  refine go_q0 10 (.binOp .sub 3 (.tmp 9) (.const (.int .i64 1)) 3) 3 (qv_sub rfl rfl (by first | exact IntWalk.i64_in _ (by omega) | exact IntWalk.i64_in _ (by dsimp only; omega) | rfl)) ?_
  refine go_s0 (some 11) (.call { callee := .value (.func 122), args := #[.tmp 8, .tmp 10], argTypes := #[23, 3] }) 143 ?_
  refine os_call (Nat.le_of_ble_eq_true rfl) en122 rfl .auto (ct_refPut1 (v := v / 256) (by omega) (by omega)) ?_
  rintro v11 A11 ⟨p11, c11, rfl, h11⟩
  try dsimp only [List.nil_append, List.cons_append]
  try dsimp only [List.nil_append, List.cons_append]
  refine go_q0 12 (.move (.tmp 0)) 23 (qv_move rfl) ?_
  refine go_q0 13 (.binOp .rem 23 (.tmp 12) (.const (.int .u64 256)) 23) 23 (qv_rem rfl rfl (by omega) ((by rw [Int.tmod_eq_emod_of_nonneg h0] : v.tmod 256 = v % 256))) ?_
  refine go_q0 14 (.convert 23 5 (.tmp 13)) 5 (qv_conv un23 un5 rfl (by first | exact IntWalk.u8_in _ (by omega) | rfl)) ?_
  refine go_s0 (some 15) (.buildSlice 143 1 #[(0, .tmp 14)]) 143 ?_
  refine os_buildSlice (Nat.le_of_ble_eq_true rfl) rfl (bls143_1 _) (fun b15 => ?_)
  refine go_s0 (some 16) (.call { callee := .builtin .append, args := #[.tmp 11, .tmp 15], argTypes := #[143, 143] }) 143 ?_
  refine os_appendK (E := eI .u8) (l := [v / 256]) (l2 := [v % 256]) rfl el143 rfl rfl rfl rfl (h11) .auto .auto (Go.E.holds_one _) (eI_one _) (by simp [maxLen] <;> omega) (by simp <;> omega) (fun p16 c16 A16 h16 => ?_)
  refine go_q0 4 (.assign (.tmp 16)) 143 (qv_assign rfl) ?_
  refine go_nil ?_
  change G _ _ _ _
  refine p_weaken [4] rfl ?_
  refine p_ret0 ?_
  try dsimp only [thenQ, inBlockQ]
  try rw [if_pos rfl]
  refine ret_left (A16) (.inr rfl) (.cons (res_tmp rfl) .nil) .auto ?_
  exact ⟨p16, c16, rfl, h16⟩
theorem ct_refKeyBytes (k : Key) (hk : k.Wf) : Ct Tryz.prog 108 [.agg k.c].toArray [] (fun v A => OwnB v (keyBytes k) A) := by
  refine ct_body (rv := [.tmp 2]) [(0, _)] Tryz.func108 (by kernel_rfl) Tryz.ntmps108 Tryz.results108 rfl rfl (fun w0 => ?_)
  obtain ⟨hs0, hs1⟩ : InP k.srcPort := hk.srcPort_
  obtain ⟨hd0, hd1⟩ : InP k.dstPort := hk.dstPort_
  have hsrc := adr_le k.src
  have hdst := adr_le k.dst
  refine p_seq0 ?_
  refine p_plain0 (0 :: 1 :: []) ?_
  refine go_s0 (some 1) (.box 92 (.tmp 0)) 0 ?_
  refine os_boxA rfl rfl (fun b1 => ?_)
  refine go_q0 2 (.assign (.const (.slice none 0 0))) 143 (qv_assign rfl) ?_
  refine go_nil ?_
  change G _ _ _ _
  refine p_weaken [1, 2] rfl ?_
  refine p_seq0 ?_
  refine p_seq0 ?_
  refine p_plain0 (0 :: 1 :: 2 :: []) ?_
  refine go_q0 4 (.load 92 (.tmp 1)) 92 (qv_load rfl .auto (ldv_agg agg92 (extw_Key _) (Nat.le_of_ble_eq_true rfl))) ?_
  refine go_s0 (some 5) (.call { callee := .value (.func 66), args := #[.tmp 4], argTypes := #[92] }) 4 ?_
  refine os_callP rfl en66 rfl (pu_refKeyRight k) ?_
  refine go_q0 6 (.unOp .not 4 (.tmp 5)) 4 (qv_not rfl) ?_
  refine go_nil ?_
  change G _ _ _ _
  refine p_weaken [1, 2, 6] rfl ?_
  refine p_cond (.tmp 6) (by kernel_rfl) rfl (fun h6 => ?_) (fun h6 => ?_)
  · replace h6 := kn h6
    refine p_seq0 ?_
    refine p_plain0 (0 :: []) ?_
    refine go_q0 2 (.assign (.const (.slice none 0 0))) 143 (qv_assign rfl) ?_
    refine go_nil ?_
    change G _ _ _ _
    refine p_weaken [1, 2] rfl ?_
    refine p_ret0 ?_
    try dsimp only [thenQ, inBlockQ]
    try rw [if_pos rfl]
    refine ret_now (.inr rfl) (.cons (res_tmp rfl) .nil) (by repeat constructor) ?_
    exact ⟨none, 0, by simp [keyBytes, h6, E.valOf], by simp [keyBytes, h6]; exact OwnL.nil⟩
  replace h6 := kn h6
  refine p_skip0 ?_
  change G _ _ _ _
  refine p_weaken [1, 2] rfl ?_
  refine p_seq0 ?_
  refine p_plain0 (0 :: 1 :: []) ?_
  refine go_s0 (some 7) (.buildSlice 143 1 #[(0, .const (.int .u8 4))]) 143 ?_
  refine os_buildSlice (Nat.le_of_ble_eq_true rfl) rfl (bls143_1 _) (fun b7 => ?_)
  refine go_q0 3 (.assign (.tmp 7)) 143 (qv_assign rfl) ?_
  refine go_nil ?_
  change G _ _ _ _
  refine p_weaken [1, 2, 3] rfl ?_
  refine p_seqJ (fun s => Ge s ⟨[], [(1, .pointer (some ⟨b1, 0, none⟩)), (3, .slice (some ⟨b7, 0, none⟩) 1 1)], [(b7, .cells #[.int .u8 (if k.src.six then 6 else 4)] 5 (0, 0)), (b1, .cells k.c 92 (0, 0))]⟩) (by kernel_rfl) ?_ ?_
  · refine p_seq0 ?_
    refine p_plain0 (0 :: 1 :: 2 :: []) ?_
    refine go_q0 8 (.fieldAddr 92 (.tmp 1) 0) 0 (qv_field rfl fd92_0) ?_
    refine go_q0 9 (.fieldAddr 90 (.tmp 8) 0) 0 (qv_field rfl fd90_0) ?_
    refine go_q0 10 (.load 4 (.tmp 9)) 4 (qv_load rfl .auto (ldv_sca sc4 (get_Key_0 _))) ?_
    refine go_nil ?_
    change G _ _ _ _
    refine p_weaken [1, 2, 3, 10] rfl ?_
    refine p_cond (.tmp 10) (by kernel_rfl) rfl (fun h10 => ?_) (fun h10 => ?_)
    rotate_left
    · replace h10 := kn h10
      refine p_skip0 ?_
      rw [h10]
      exact ⟨rfl, ⟨[1, 3], rfl⟩, .auto⟩
    replace h10 := kn h10
    refine p_plain0 (0 :: 1 :: 2 :: []) ?_
    refine go_q0 11 (.move (.tmp 3)) 143 (qv_move rfl) ?_
    refine go_q0 12 (.indexAddr 143 (.tmp 11) (.const (.int .i64 0))) 0 (qv_index un143 sz5 rfl rfl (j := 0) rfl (by decide)) ?_
    refine go_s0 none (.store 5 (.tmp 12) (.const (.int .u8 6))) 0 ?_
    refine os_store1 (cs' := #[.int .u8 6]) rfl rfl sz5 rfl rfl (by repeat first | exact .here | apply Up.next | apply Up.app) (Nat.le_of_ble_eq_true rfl) rfl ?_
    refine go_nil ?_
    rw [h10]
    exact ⟨rfl, ⟨[1, 3], rfl⟩, .auto⟩
  rintro s hs
  refine ge_ok hs ?_
  refine p_seq0 ?_
  refine p_plain0 (0 :: 1 :: 2 :: 3 :: 4 :: 5 :: []) ?_
  refine go_q0 13 (.move (.tmp 3)) 143 (qv_move rfl) ?_
  refine go_q0 14 (.fieldAddr 92 (.tmp 1) 0) 0 (qv_field rfl fd92_0) ?_
  refine go_q0 15 (.load 90 (.tmp 14)) 90 (qv_load rfl .auto (ldv_agg agg90 (ext_Key_0_17 _) (Nat.le_of_ble_eq_true rfl))) ?_
  refine go_s0 (some 16) (.call { callee := .value (.func 121), args := #[.tmp 15], argTypes := #[90] }) 143 ?_
  refine os_call (Nat.le_of_ble_eq_true rfl) en121 rfl .auto (ct_refAdrBytes k.src) ?_
  rintro v16 A16 hB1
  try dsimp only [List.nil_append, List.cons_append]
  obtain ⟨bs, cs, curs, rfl, rfl, -, Hs⟩ := hB1.some_ hsrc.1
  try dsimp only [List.nil_append, List.cons_append]
  refine go_s0 (some 17) (.call { callee := .builtin .append, args := #[.tmp 13, .tmp 16], argTypes := #[143, 143] }) 143 ?_
  refine os_appendK (E := eI .u8) (l := [if k.src.six then 6 else 4]) (l2 := adrBytes k.src) rfl el143 rfl rfl rfl rfl (OwnL.of_build (b := b7) (n := 1) (cs := #[.int .u8 (if k.src.six then 6 else 4)]) rfl rfl (by decide)) .auto .auto (Hs) (eI_one _) (by simp [maxLen] <;> omega) (by simp <;> omega) (fun p17 c17 A17 h17 => ?_)
  refine go_q0 3 (.assign (.tmp 17)) 143 (qv_assign rfl) ?_
  refine go_nil ?_
  change G _ _ _ _
  refine p_weaken [1, 3] rfl ?_
  refine p_seq0 ?_
  refine p_plain0 (0 :: 1 :: 2 :: 3 :: 4 :: 5 :: []) ?_
  refine go_q0 18 (.move (.tmp 3)) 143 (qv_move rfl) ?_
  refine go_q0 19 (.fieldAddr 92 (.tmp 1) 1) 0 (qv_field rfl fd92_1) ?_
  refine go_q0 20 (.load 90 (.tmp 19)) 90 (qv_load rfl .auto (ldv_agg agg90 (ext_Key_17_17 _) (Nat.le_of_ble_eq_true rfl))) ?_
  refine go_s0 (some 21) (.call { callee := .value (.func 121), args := #[.tmp 20], argTypes := #[90] }) 143 ?_
  refine os_call (Nat.le_of_ble_eq_true rfl) en121 rfl .auto (ct_refAdrBytes k.dst) ?_
  rintro v21 A21 hB2
  try dsimp only [List.nil_append, List.cons_append]
  obtain ⟨bd, cd, curd, rfl, rfl, -, Hd⟩ := hB2.some_ hdst.1
  try dsimp only [List.nil_append, List.cons_append]
  refine go_s0 (some 22) (.call { callee := .builtin .append, args := #[.tmp 18, .tmp 21], argTypes := #[143, 143] }) 143 ?_
  refine os_appendK (E := eI .u8) (l := [if k.src.six then 6 else 4] ++ adrBytes k.src) (l2 := adrBytes k.dst) rfl el143 rfl rfl rfl rfl (h17) .auto .auto (Hd) (eI_one _) (by simp [maxLen] <;> omega) (by simp <;> omega) (fun p22 c22 A22 h22 => ?_)
  refine go_q0 3 (.assign (.tmp 22)) 143 (qv_assign rfl) ?_
  refine go_nil ?_
  change G _ _ _ _
  refine p_weaken [1, 3] rfl ?_
  refine p_seq0 ?_
  refine p_plain0 (0 :: 1 :: 2 :: 3 :: 4 :: 5 :: []) ?_
  refine go_q0 23 (.move (.tmp 3)) 143 (qv_move rfl) ?_
  refine go_q0 24 (.fieldAddr 92 (.tmp 1) 2) 0 (qv_field rfl fd92_2) ?_
  refine go_q0 25 (.load 5 (.tmp 24)) 5 (qv_load rfl .auto (ldv_sca sc5 (get_Key_34 _))) ?_
  refine go_s0 (some 26) (.buildSlice 143 1 #[(0, .tmp 25)]) 143 ?_
  refine os_buildSlice (Nat.le_of_ble_eq_true rfl) rfl (bls143_1 _) (fun b26 => ?_)
  refine go_s0 (some 27) (.call { callee := .builtin .append, args := #[.tmp 23, .tmp 26], argTypes := #[143, 143] }) 143 ?_
  refine os_appendK (E := eI .u8) (l := [if k.src.six then 6 else 4] ++ adrBytes k.src ++ adrBytes k.dst) (l2 := [k.proto]) rfl el143 rfl rfl rfl rfl (h22) .auto .auto (Go.E.holds_one _) (eI_one _) (by simp [maxLen] <;> omega) (by simp <;> omega) (fun p27 c27 A27 h27 => ?_)
  refine go_q0 3 (.assign (.tmp 27)) 143 (qv_assign rfl) ?_
  refine go_nil ?_
  change G _ _ _ _
  refine p_weaken [1, 3] rfl ?_
  refine p_seq0 ?_
  refine p_plain0 (0 :: 1 :: 2 :: 3 :: 4 :: 5 :: 6 :: []) ?_
  refine go_q0 28 (.move (.tmp 3)) 143 (qv_move rfl) ?_
  refine go_q0 29 (.fieldAddr 92 (.tmp 1) 3) 0 (qv_field rfl fd92_3) ?_
  refine go_q0 30 (.load 27 (.tmp 29)) 27 (qv_load rfl .auto (ldv_sca sc27 (get_Key_35 _))) ?_
  refine go_q0 31 (.convert 27 23 (.tmp 30)) 23 (qv_conv un27 un23 rfl (by first | exact IntWalk.u64_in _ (by omega) | rfl)) ?_
  refine go_s0 (some 32) (.call { callee := .value (.func 122), args := #[.tmp 31, .const (.int .i64 2)], argTypes := #[23, 3] }) 143 ?_
  refine os_call (Nat.le_of_ble_eq_true rfl) en122 rfl .auto (ct_refPut2 hs0 hs1) ?_
  rintro v32 A32 hB3
  try dsimp only [List.nil_append, List.cons_append]
  obtain ⟨be, ce, cure, rfl, rfl, -, He⟩ := hB3.some_ (by simp)
  try dsimp only [List.nil_append, List.cons_append]
  refine go_s0 (some 33) (.call { callee := .builtin .append, args := #[.tmp 28, .tmp 32], argTypes := #[143, 143] }) 143 ?_
  refine os_appendK (E := eI .u8) (l := [if k.src.six then 6 else 4] ++ adrBytes k.src ++ adrBytes k.dst ++ [k.proto]) (l2 := [k.srcPort / 256, k.srcPort % 256]) rfl el143 rfl rfl rfl rfl (h27) .auto .auto (He) (eI_one _) (by simp [maxLen] <;> omega) (by simp <;> omega) (fun p33 c33 A33 h33 => ?_)
  refine go_q0 3 (.assign (.tmp 33)) 143 (qv_assign rfl) ?_
  refine go_nil ?_
  change G _ _ _ _
  refine p_weaken [1, 3] rfl ?_
  refine p_seq0 ?_
  refine p_plain0 (0 :: 1 :: 2 :: 3 :: 4 :: 5 :: 6 :: []) ?_
  refine go_q0 34 (.move (.tmp 3)) 143 (qv_move rfl) ?_
  refine go_q0 35 (.fieldAddr 92 (.tmp 1) 4) 0 (qv_field rfl fd92_4) ?_
  refine go_q0 36 (.load 27 (.tmp 35)) 27 (qv_load rfl .auto (ldv_sca sc27 (get_Key_36 _))) ?_
  refine go_q0 37 (.convert 27 23 (.tmp 36)) 23 (qv_conv un27 un23 rfl (by first | exact IntWalk.u64_in _ (by omega) | rfl)) ?_
  refine go_s0 (some 38) (.call { callee := .value (.func 122), args := #[.tmp 37, .const (.int .i64 2)], argTypes := #[23, 3] }) 143 ?_
  refine os_call (Nat.le_of_ble_eq_true rfl) en122 rfl .auto (ct_refPut2 hd0 hd1) ?_
  rintro v38 A38 hB4
  try dsimp only [List.nil_append, List.cons_append]
  obtain ⟨bg, cg, curg, rfl, rfl, -, Hg⟩ := hB4.some_ (by simp)
  try dsimp only [List.nil_append, List.cons_append]
  refine go_s0 (some 39) (.call { callee := .builtin .append, args := #[.tmp 34, .tmp 38], argTypes := #[143, 143] }) 143 ?_
  refine os_appendK (E := eI .u8) (l := [if k.src.six then 6 else 4] ++ adrBytes k.src ++ adrBytes k.dst ++ [k.proto] ++ [k.srcPort / 256, k.srcPort % 256]) (l2 := [k.dstPort / 256, k.dstPort % 256]) rfl el143 rfl rfl rfl rfl (h33) .auto .auto (Hg) (eI_one _) (by simp [maxLen] <;> omega) (by simp <;> omega) (fun p39 c39 A39 h39 => ?_)
  refine go_q0 2 (.assign (.tmp 39)) 143 (qv_assign rfl) ?_
  refine go_nil ?_
  change G _ _ _ _
  refine p_weaken [2] rfl ?_
  refine p_ret0 ?_
  try dsimp only [thenQ, inBlockQ]
  try rw [if_pos rfl]
  refine ret_left (A39) (.inr rfl) (.cons (res_tmp rfl) .nil) .auto ?_
  have hkb : keyBytes k = [if k.src.six then 6 else 4] ++ adrBytes k.src ++ adrBytes k.dst ++ [k.proto] ++ [k.srcPort / 256, k.srcPort % 256] ++ [k.dstPort / 256, k.dstPort % 256] := by unfold keyBytes; rw [if_pos h6]
  rw [hkb]
  exact ⟨p39, c39, rfl, h39⟩
theorem run_bytesL {P : Program} {w : World} {M : Mem} {p : Option Addr} {l : List Int} {n c : Nat} (hM : Has M w) (h : Lst (eI .u8) p l M) (hn : n = l.length) : (Extern.Bytes.bytesOf (.slice p n c)).run P w = .ok ⟨(Lib.bytesOf l).toArray⟩ w := by
  subst hn
  cases p with
  | none =>
    have hl : l = [] := by
      rcases h with h | ⟨b, off, cur, e, fz, h, _⟩
      · exact h
      · cases h
    subst hl
    rfl
  | some a =>
    rcases h with rfl | ⟨b, off, cur, e, fz, h, hm, hh⟩
    · rfl
    · cases h
      have hl := Lib.run_loadBytesX (P := P) w l ⟨b, off, none⟩ .empty (fun j x hj => by
        have e1 : (⟨b, off, none⟩ : Addr).add j = ⟨b, off + j, none⟩ := by unfold Addr.add; split <;> simp_all
        rw [e1, cell_of_row w b _ cur e fz (hM _ hm)]
        have := hh.cell hj (k := 0) (by decide)
        simpa [eI] using this)
      show (Extern.Bytes.loadBytes ⟨b, off, none⟩ l.length .empty).run P w = _
      rw [hl]
      congr 1
      apply ByteArray.ext
      show (#[] : Array UInt8) ++ (Lib.bytesOf l).toArray = (Lib.bytesOf l).toArray
      simp
theorem run_cmpL {P : Program} {w : World} {M : Mem} {p1 p2 : Option Addr} {l1 l2 : List Int} {c1 c2 : Nat} (hM : Has M w) (h1 : Lst (eI .u8) p1 l1 M) (h2 : Lst (eI .u8) p2 l2 M) :
    ((Extern.BytealgCompare.compare [.slice p1 l1.length c1, .slice p2 l2.length c2].toArray).run P w).andThen (fun v w' => Result.ok (Next.value v) w') = .ok (Next.value (.int .i64 (Lib.compareBytes (Lib.bytesOf l1) (Lib.bytesOf l2)))) w := by
  change (Sem.run P (do pure (goInt (Extern.BytealgCompare.cmp (← Extern.Bytes.bytesOf (.slice p1 l1.length c1)) (← Extern.Bytes.bytesOf (.slice p2 l2.length c2))))) w).andThen _ = _
  simp only [Sem.run_bind, run_bytesL hM h1 rfl, run_bytesL hM h2 rfl, Result.andThen, Sem.run_pure]
  rw [Lib.cmp_eq]
  rfl
theorem ct_bytesCompare {M : Mem} {p1 p2 : Option Addr} {l1 l2 : List Int} {c1 c2 : Nat} (h1 : Lst (eI .u8) p1 l1 M) (h2 : Lst (eI .u8) p2 l2 M) :
    Ct Tryz.prog 103 [.slice p1 l1.length c1, .slice p2 l2.length c2].toArray M (fun v M' => v = .int .i64 (Lib.compareBytes (Lib.bytesOf l1) (Lib.bytesOf l2)) ∧ M' = M) := by
  refine ct_body (rv := [.tmp 4]) [(0, _), (1, _)] Tryz.func103 (by kernel_rfl) Tryz.ntmps103 Tryz.results103 rfl rfl (fun w0 => ?_)
  refine p_seq0 ?_
  refine p_plain0 (0 :: []) ?_
  refine go_q0 4 (.assign (.const (.int .i64 0))) 3 (qv_assign rfl) ?_
  refine go_nil ?_
  change G _ _ _ _
  refine p_seq0 ?_
  refine p_plain0 (0 :: 1 :: 2 :: 3 :: []) ?_
  refine go_q0 5 (.move (.tmp 0)) 143 (qv_move rfl) ?_
  refine go_q0 6 (.move (.tmp 1)) 143 (qv_move rfl) ?_
  refine go_q0 7 (.call { callee := .value (.func 115), args := #[.tmp 5, .tmp 6], argTypes := #[143, 143] }) 3 (qv_extern (args := [.slice p1 l1.length c1, .slice p2 l2.length c2]) (v := .int .i64 (Lib.compareBytes (Lib.bytesOf l1) (Lib.bytesOf l2))) rfl (fun w hM => by rw [run_callFunc_extern Tryz.func115 (by kernel_rfl) (by kernel_rfl) (by kernel_rfl) (e := Extern.BytealgCompare.compare) (by kernel_rfl)]; exact run_cmpL hM h1 h2)) ?_
  refine go_q0 4 (.assign (.tmp 7)) 3 (qv_assign rfl) ?_
  refine go_nil ?_
  change G _ _ _ _
  refine p_weaken [4] rfl ?_
  refine p_ret0 ?_
  try dsimp only [thenQ, inBlockQ]
  try rw [if_pos rfl]
  refine ret_left (M) (.inr rfl) (.cons (res_tmp rfl) .nil) .auto ?_
  exact ⟨rfl, rfl⟩
end Go.Proofs.YtobmcpoejhhemaaGreat
