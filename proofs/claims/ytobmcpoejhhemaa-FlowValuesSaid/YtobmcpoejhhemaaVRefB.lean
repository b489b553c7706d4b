import Derived.Test.YtobmcpoejhhemaaVBytes
import Derived.Test.YtobmcpoejhhemaaVEngH
import Derived.Lib.BytesEntry
import Derived.Laws.BytesString
import Derived.Sort.Statements
import Derived.Sort.Walk0
import Derived.Laws.Externs
namespace Go.Proofs.Ytobmcpoejhhemaa
open Go.E

theorem pu_refSize (a : Adr) : Pu Try.prog 145 [.bool a.six] (.int .i64 ((adrBytes a).length : Nat)) := by
  refine ct_body (rv := [.tmp 2]) [(0, _)] Try.func145 (by kernel_rfl) Try.ntmps145 Try.results145 rfl rfl (fun w0 => ?_)
  refine p_seq0 ?_
  refine p_plain0 (0 :: []) ?_
  refine go_q0 2 (.assign (.const (.int .i64 0))) 3 (qv_assign rfl) ?_
  refine go_nil ?_
  change G _ _ _ _
  refine p_seq0 ?_
  refine p_seq0 ?_
  refine p_plain0 (0 :: []) ?_
  refine go_q0 3 (.move (.tmp 0)) 4 (qv_move rfl) ?_
  refine go_nil ?_
  change G _ _ _ _
  refine p_weaken [2, 3] rfl ?_
  refine p_cond (.tmp 3) (by kernel_rfl) rfl (fun h3 => ?_) (fun h3 => ?_)
  · replace h3 := kn h3
    have hl := len_adrBytes a
    rw [h3] at hl
    refine p_seq0 ?_
    refine p_plain0 (0 :: []) ?_
    refine go_q0 2 (.assign (.const (.int .i64 16))) 3 (qv_assign rfl) ?_
    refine go_nil ?_
    change G _ _ _ _
    refine p_weaken [2] rfl ?_
    refine p_ret0 ?_
    try dsimp only [thenQ, inBlockQ]
    try rw [if_pos rfl]
    refine ret_now (.inr rfl) (.cons (res_tmp rfl) .nil) (by repeat constructor) ?_
    exact ⟨by rw [hl]; rfl, rfl⟩
  replace h3 := kn h3
  have hl := len_adrBytes a
  rw [h3] at hl
  refine p_skip0 ?_
  change G _ _ _ _
  refine p_weaken [2] rfl ?_
  refine p_seq0 ?_
  refine p_plain0 (0 :: []) ?_
  refine go_q0 2 (.assign (.const (.int .i64 4))) 3 (qv_assign rfl) ?_
  refine go_nil ?_
  change G _ _ _ _
  refine p_ret0 ?_
  try dsimp only [thenQ, inBlockQ]
  try rw [if_pos rfl]
  refine ret_now (.inr rfl) (.cons (res_tmp rfl) .nil) (by repeat constructor) ?_
  exact ⟨by rw [hl]; rfl, rfl⟩
theorem adr_byte (a : Adr) {i : Nat} (hi : i < (adrBytes a).length) : (adrBytes a)[i]? = some (a.b.at i) := by
  obtain ⟨six, b⟩ := a
  have := adr_le ⟨six, b⟩
  cases six with
  | true =>
    have : i = 0 ∨ i = 1 ∨ i = 2 ∨ i = 3 ∨ i = 4 ∨ i = 5 ∨ i = 6 ∨ i = 7 ∨ i = 8 ∨ i = 9 ∨ i = 10 ∨ i = 11 ∨ i = 12 ∨ i = 13 ∨ i = 14 ∨ i = 15 := by omega
    rcases this with rfl | rfl | rfl | rfl | rfl | rfl | rfl | rfl | rfl | rfl | rfl | rfl | rfl | rfl | rfl | rfl <;> rfl
  | false =>
    have hl := len_adrBytes ⟨false, b⟩
    simp only [Bool.false_eq_true, if_false] at hl
    have : i = 0 ∨ i = 1 ∨ i = 2 ∨ i = 3 := by omega
    rcases this with rfl | rfl | rfl | rfl <;> rfl
theorem ct_refAdrBytes (a : Adr) : Ct Try.prog 89 [.agg a.c].toArray [] (fun v A => OwnB v (adrBytes a) A) := by
  refine ct_body (rv := [.tmp 2]) [(0, _)] Try.func89 (by kernel_rfl) Try.ntmps89 Try.results89 rfl rfl (fun w0 => ?_)
  have ha := adr_le a
  refine p_seq0 ?_
  refine p_plain0 (0 :: 1 :: []) ?_
  refine go_s0 (some 1) (.box 43 (.tmp 0)) 0 ?_
  refine os_boxA rfl rfl (fun b1 => ?_)
  refine go_q0 2 (.assign (.const (.slice none 0 0))) 74 (qv_assign rfl) ?_
  refine go_nil ?_
  change G _ _ _ _
  refine p_weaken [1, 2] rfl ?_
  refine p_seq0 ?_
  refine p_plain0 (0 :: []) ?_
  refine go_q0 3 (.assign (.const (.slice none 0 0))) 74 (qv_assign rfl) ?_
  refine go_nil ?_
  change G _ _ _ _
  refine p_seq0 ?_
  refine p_seq0 ?_
  refine p_plain0 (0 :: []) ?_
  refine go_q0 4 (.assign (.const (.int .i64 0))) 3 (qv_assign rfl) ?_
  refine go_nil ?_
  change G _ _ _ _
  refine p_block 0 (by kernel_rfl) ?_
  refine p_loopE (by kernel_rfl) (fun s m => ∃ (i : Nat) (l : List Int) (p : Option Addr) (c : Nat) (A : Mem), (i ≤ (adrBytes a).length) ∧ (l = (adrBytes a).take i) ∧ (OwnL (eI .u8) 5 p c l A) ∧ Ge s ⟨[], [(1, .pointer (some ⟨b1, 0, none⟩)), (3, .slice p l.length c), (4, .int .i64 i)], A ++ [(b1, .cells a.c 43 (0, 0))]⟩ ∧ m = 17 - i) ?_ ?_
  · exact ⟨_, ⟨0, [], none, 0, [], by omega, rfl, OwnL.nil, ⟨rfl, ⟨[1, 3, 4], rfl⟩, .auto⟩, rfl⟩⟩
  rintro s m ⟨i, l, p, c, A, hi, hl, hO, hs, rfl⟩
  refine ge_ok hs ?_
  refine p_seq0 ?_
  refine p_seq0 ?_
  refine p_plain0 (0 :: 1 :: 2 :: 3 :: 4 :: []) ?_
  refine go_q0 5 (.move (.tmp 4)) 3 (qv_move rfl) ?_
  refine go_q0 6 (.fieldAddr 43 (.tmp 1) 0) 0 (qv_field rfl fd43_0) ?_
  refine go_q0 7 (.load 4 (.tmp 6)) 4 (qv_load rfl .auto (ldv_sca sc4 (get_Adr_0 _))) ?_
  refine go_s0 (some 8) (.call { callee := .value (.func 145), args := #[.tmp 7], argTypes := #[4] }) 3 ?_
  refine os_callP rfl en145 rfl (pu_refSize a) ?_
  refine go_q0 9 (.binOp .lss 3 (.tmp 5) (.tmp 8) 3) 4 (qv_lss rfl rfl rfl) ?_
  refine go_nil ?_
  change G _ _ _ _
  refine p_weaken [1, 3, 4, 9] rfl ?_
  refine p_cond (.tmp 9) (by kernel_rfl) rfl (fun h9 => ?_) (fun h9 => ?_)
  rotate_left
  · replace h9 := kn h9
    refine p_exit 0 (by kernel_rfl) ?_
    change G _ _ _ _
    refine p_weaken [3] rfl ?_
    refine p_seq0 ?_
    refine p_plain0 (0 :: 1 :: []) ?_
    refine go_q0 19 (.move (.tmp 3)) 74 (qv_move rfl) ?_
    refine go_q0 2 (.assign (.tmp 19)) 74 (qv_assign rfl) ?_
    refine go_nil ?_
    change G _ _ _ _
    refine p_weaken [2] rfl ?_
    refine p_ret0 ?_
    try dsimp only [thenQ, inBlockQ]
    try rw [if_pos rfl]
    refine ret_left (A) (.inr rfl) (.cons (res_tmp rfl) .nil) .auto ?_
    have hi' : i = (adrBytes a).length := by omega
    subst hi'
    rw [List.take_length] at hl
    subst hl
    exact ⟨p, c, rfl, hO⟩
  replace h9 := kn h9
  refine p_skip0 ?_
  change G _ _ _ _
  refine p_weaken [1, 3, 4] rfl ?_
  refine p_seq0 ?_
  refine p_block 1 (by kernel_rfl) ?_
  have hi' : i < (adrBytes a).length := by omega
  have hll : l.length = i := by rw [hl]; simp; omega
  refine p_plain0 (0 :: 1 :: 2 :: 3 :: 4 :: 5 :: 6 :: 7 :: []) ?_
  refine go_q0 12 (.move (.tmp 3)) 74 (qv_move rfl) ?_
  refine go_q0 13 (.move (.tmp 4)) 3 (qv_move rfl) ?_
  refine go_q0 14 (.fieldAddr 43 (.tmp 1) 1) 0 (qv_field rfl fd43_1) ?_
  refine go_q0 15 (.indexAddr 22 (.tmp 14) (.tmp 13)) 0 (qv_indexA un22 sz5 rfl rfl (j := i) rfl (by omega)) ?_
  refine go_q0 16 (.load 5 (.tmp 15)) 5 (qv_load rfl .auto (ldv_sca sc5 (adr_at a (by omega)))) ?_
  refine go_s0 (some 17) (.buildSlice 74 1 #[(0, .tmp 16)]) 74 ?_
  refine os_buildSlice (Nat.le_of_ble_eq_true rfl) rfl (bls74_1 _) (fun b17 => ?_)
  refine go_s0 (some 18) (.call { callee := .builtin .append, args := #[.tmp 12, .tmp 17], argTypes := #[74, 74] }) 74 ?_
  refine os_appendK (E := eI .u8) (l := l) (l2 := [a.b.at i]) rfl el74 rfl rfl rfl rfl (hO) .auto .auto (Go.E.holds_one _) (eI_one _) (by simp [maxLen] <;> omega) (by simp <;> omega) (fun p18 c18 A18 h18 => ?_)
  refine go_q0 3 (.assign (.tmp 18)) 74 (qv_assign rfl) ?_
  refine go_nil ?_
  change G _ _ _ _
  refine p_weaken [1, 3, 4] rfl ?_
  refine p_plain0 (0 :: 1 :: 2 :: []) ?_
  refine go_q0 10 (.move (.tmp 4)) 3 (qv_move rfl) ?_
  refine go_q0 11 (.binOp .add 3 (.tmp 10) (.const (.int .i64 1)) 3) 3 (qv_add rfl rfl (by first | exact IntWalk.i64_in _ (by omega) | exact IntWalk.i64_in _ (by dsimp only; omega) | rfl)) ?_
  refine go_q0 4 (.assign (.tmp 11)) 3 (qv_assign rfl) ?_
  refine go_nil ?_
  exact ⟨_, ⟨i + 1, _, _, _, _, by omega, by rw [hl, List.take_add_one, adr_byte a hi']; rfl, h18, ⟨rfl, ⟨[1, 3, 4], rfl⟩, .auto⟩, rfl⟩, by omega⟩

end Go.Proofs.Ytobmcpoejhhemaa
