/- Contracts: the document's table: deleting, counting, making; the program's: clear, keys. -/
import Derived.Test.YtobmcpoejhhemaaRefT
import Derived.Test.YtobmcpoejhhemaaSortK
import Derived.Test.YtobmcpoejhhemaaNone2
import Derived.Test.YtobmcpoejhhemaaKeeps
namespace Go.Proofs.Ytobmcpoejhhemaa
open Go.E

theorem ct_refDeleteN {M : Mem} {p : Option Addr} {c : Nat} {L : List Slot} {k : Key} (hn : Pow L.length) (h : Lst eSlot p L M) (hk : k.Wf) (hh : hasI L k = none) :
    Ct Try.prog 58 [.slice p L.length c, .agg k.c].toArray M (fun v M' => v = .tuple #[.slice p L.length c, .bool false] ∧ M' = M) := by
  have hp := hn.pos
  have hle := hn.le
  have h' := h
  obtain ⟨b, off, cur, e, fz, rfl, m, H⟩ := h.at_ hp
  cases hf : findI L k with
  | none =>
    refine ct_body (rv := [.tmp 4, .tmp 5]) [(0, _), (1, _)] Try.func58 (by kernel_rfl) Try.ntmps58 Try.results58 rfl rfl (fun w0 => ?_)
    refine p_seq0 ?_
    refine p_plain0 (0 :: 1 :: 2 :: []) ?_
    refine go_s0 (some 3) (.box 45 (.tmp 1)) 0 ?_
    refine os_boxA rfl rfl (fun b3 => ?_)
    refine go_q0 4 (.assign (.const (.slice none 0 0))) 112 (qv_assign rfl) ?_
    refine go_q0 5 (.assign (.const (.bool false))) 4 (qv_assign rfl) ?_
    refine go_nil ?_
    change G _ _ _ _
    refine p_weaken [0, 3, 4, 5] rfl ?_
    refine p_seq0 ?_
    refine p_plain0 (0 :: 1 :: 2 :: 3 :: 4 :: 5 :: 6 :: 7 :: []) ?_
    refine go_q0 13 (.move (.tmp 0)) 112 (qv_move rfl) ?_
    refine go_q0 14 (.load 45 (.tmp 3)) 45 (qv_load rfl .auto (ldv_agg agg45 (extw_Key _) (Nat.le_of_ble_eq_true rfl))) ?_
    refine go_s0 (some 15) (.call { callee := .value (.func 62), args := #[.tmp 13, .tmp 14], argTypes := #[112, 45] }) 119 ?_
    refine os_pv rfl (pv_callR en62 rfl .auto (ct_refFindN (c := c) hn h' hk hf)) ?_
    refine go_q0 12 (.move (.tmp 15)) 119 (qv_move rfl) ?_
    refine go_q0 16 (.extract (.tmp 12) 0) 3 (qv_extract rfl rfl) ?_
    refine go_q0 17 (.extract (.tmp 12) 1) 3 (qv_extract rfl rfl) ?_
    refine go_q0 6 (.assign (.tmp 16)) 3 (qv_assign rfl) ?_
    refine go_q0 7 (.assign (.tmp 17)) 3 (qv_assign rfl) ?_
    refine go_nil ?_
    change G _ _ _ _
    refine p_weaken [0, 4, 5, 6] rfl ?_
    refine p_seq0 ?_
    refine p_seq0 ?_
    refine p_plain0 (0 :: 1 :: 2 :: 3 :: 4 :: 5 :: 6 :: 7 :: 8 :: 9 :: []) ?_
    refine go_q0 18 (.move (.tmp 6)) 3 (qv_move rfl) ?_
    refine go_q0 19 (.binOp .lss 3 (.tmp 18) (.const (.int .i64 0)) 3) 4 (qv_lss (b := true) rfl rfl (decide_eq_true (by omega))) ?_
    refine go_q0 20 (.move (.tmp 19)) 4 (qv_move rfl) ?_
    refine go_n (d := 21) (op := .move (.tmp 0)) (ty := 112) (g := some (2, false)) (by kernel_rfl) ⟨20, _, by kernel_rfl, rfl, rfl⟩ rfl ?_
    refine go_n (d := 22) (op := .move (.tmp 6)) (ty := 3) (g := some (2, false)) (by kernel_rfl) ⟨20, _, by kernel_rfl, rfl, rfl⟩ rfl ?_
    refine go_n (d := 23) (op := .indexAddr 112 (.tmp 21) (.tmp 22)) (ty := 0) (g := some (2, false)) (by kernel_rfl) ⟨20, _, by kernel_rfl, rfl, rfl⟩ rfl ?_
    refine go_n (d := 24) (op := .fieldAddr 195 (.tmp 23) 0) (ty := 0) (g := some (2, false)) (by kernel_rfl) ⟨20, _, by kernel_rfl, rfl, rfl⟩ rfl ?_
    refine go_n (d := 25) (op := .load 4 (.tmp 24)) (ty := 4) (g := some (2, false)) (by kernel_rfl) ⟨20, _, by kernel_rfl, rfl, rfl⟩ rfl ?_
    refine go_n (d := 26) (op := .unOp .not 4 (.tmp 25)) (ty := 4) (g := some (2, false)) (by kernel_rfl) ⟨20, _, by kernel_rfl, rfl, rfl⟩ rfl ?_
    refine go_q0 27 (.pick (.tmp 20) (.const (.bool true)) (.tmp 26)) 4 (qv_pick_t rfl rfl) ?_
    refine go_nil ?_
    change G _ _ _ _
    refine p_weaken [0, 4, 5, 6, 27] rfl ?_
    refine p_condT (.tmp 27) (by kernel_rfl) rfl ?_
    refine p_seq0 ?_
    refine p_plain0 (0 :: 1 :: 2 :: []) ?_
    refine go_q0 28 (.move (.tmp 0)) 112 (qv_move rfl) ?_
    refine go_q0 4 (.assign (.tmp 28)) 112 (qv_assign rfl) ?_
    refine go_q0 5 (.assign (.const (.bool false))) 4 (qv_assign rfl) ?_
    refine go_nil ?_
    change G _ _ _ _
    refine p_weaken [0, 4, 5, 6] rfl ?_
    refine p_ret0 ?_
    try dsimp only [thenQ, inBlockQ]
    try rw [if_pos rfl]
    refine ret_left (M) (.inr rfl) (.cons (res_tmp rfl) (.cons (res_tmp rfl) .nil)) .auto ?_
    exact ⟨rfl, rfl⟩
  | some i =>
    have hpl := place_lt (n := L.length) (by omega) k i
    obtain ⟨x, hx⟩ : ∃ x, L[place L.length k i]? = some x := ⟨_, List.getElem?_eq_getElem hpl⟩
    have hxu : x.used = false := by
      unfold hasI at hh
      rw [hf] at hh
      simp only [hx] at hh
      cases hu : x.used with
      | false => rfl
      | true => rw [hu] at hh; simp at hh
    refine ct_body (rv := [.tmp 4, .tmp 5]) [(0, _), (1, _)] Try.func58 (by kernel_rfl) Try.ntmps58 Try.results58 rfl rfl (fun w0 => ?_)
    refine p_seq0 ?_
    refine p_plain0 (0 :: 1 :: 2 :: []) ?_
    refine go_s0 (some 3) (.box 45 (.tmp 1)) 0 ?_
    refine os_boxA rfl rfl (fun b3 => ?_)
    refine go_q0 4 (.assign (.const (.slice none 0 0))) 112 (qv_assign rfl) ?_
    refine go_q0 5 (.assign (.const (.bool false))) 4 (qv_assign rfl) ?_
    refine go_nil ?_
    change G _ _ _ _
    refine p_weaken [0, 3, 4, 5] rfl ?_
    refine p_seq0 ?_
    refine p_plain0 (0 :: 1 :: 2 :: 3 :: 4 :: 5 :: 6 :: 7 :: []) ?_
    refine go_q0 13 (.move (.tmp 0)) 112 (qv_move rfl) ?_
    refine go_q0 14 (.load 45 (.tmp 3)) 45 (qv_load rfl .auto (ldv_agg agg45 (extw_Key _) (Nat.le_of_ble_eq_true rfl))) ?_
    refine go_s0 (some 15) (.call { callee := .value (.func 62), args := #[.tmp 13, .tmp 14], argTypes := #[112, 45] }) 119 ?_
    refine os_pv rfl (pv_callR en62 rfl .auto (ct_refFindS (c := c) hn h' hk hf)) ?_
    refine go_q0 12 (.move (.tmp 15)) 119 (qv_move rfl) ?_
    refine go_q0 16 (.extract (.tmp 12) 0) 3 (qv_extract rfl rfl) ?_
    refine go_q0 17 (.extract (.tmp 12) 1) 3 (qv_extract rfl rfl) ?_
    refine go_q0 6 (.assign (.tmp 16)) 3 (qv_assign rfl) ?_
    refine go_q0 7 (.assign (.tmp 17)) 3 (qv_assign rfl) ?_
    refine go_nil ?_
    change G _ _ _ _
    refine p_weaken [0, 4, 5, 6] rfl ?_
    refine p_seq0 ?_
    refine p_seq0 ?_
    refine p_plain0 (0 :: 1 :: 2 :: 3 :: 4 :: 5 :: 6 :: 7 :: 8 :: 9 :: []) ?_
    refine go_q0 18 (.move (.tmp 6)) 3 (qv_move rfl) ?_
    refine go_q0 19 (.binOp .lss 3 (.tmp 18) (.const (.int .i64 0)) 3) 4 (qv_lss (b := false) rfl rfl (decide_eq_false (by omega))) ?_
    refine go_q0 20 (.move (.tmp 19)) 4 (qv_move rfl) ?_
    refine go_q (d := 21) (op := .move (.tmp 0)) (ty := 112) (g := some (2, false)) (by kernel_rfl) ⟨20, by kernel_rfl, rfl⟩ rfl (qv_move rfl) ?_
    refine go_q (d := 22) (op := .move (.tmp 6)) (ty := 3) (g := some (2, false)) (by kernel_rfl) ⟨20, by kernel_rfl, rfl⟩ rfl (qv_move rfl) ?_
    refine go_q (d := 23) (op := .indexAddr 112 (.tmp 21) (.tmp 22)) (ty := 0) (g := some (2, false)) (by kernel_rfl) ⟨20, by kernel_rfl, rfl⟩ rfl (qv_index un112 sz195 rfl rfl rfl hpl) ?_
    refine go_q (d := 24) (op := .fieldAddr 195 (.tmp 23) 0) (ty := 0) (g := some (2, false)) (by kernel_rfl) ⟨20, by kernel_rfl, rfl⟩ rfl (qv_field rfl fd195_0) ?_
    refine go_q (d := 25) (op := .load 4 (.tmp 24)) (ty := 4) (g := some (2, false)) (by kernel_rfl) ⟨20, by kernel_rfl, rfl⟩ rfl (qv_load rfl (At.of_mem (by repeat first | exact m | exact List.mem_append_left _ m | apply List.mem_cons_of_mem | apply List.mem_append_right)) (ldv_el H hx sc4 (get_Slot_0 x) rfl)) ?_
    refine go_q (d := 26) (op := .unOp .not 4 (.tmp 25)) (ty := 4) (g := some (2, false)) (by kernel_rfl) ⟨20, by kernel_rfl, rfl⟩ rfl (qv_not rfl) ?_
    refine go_q0 27 (.pick (.tmp 20) (.const (.bool true)) (.tmp 26)) 4 (qv_pick_f rfl rfl) ?_
    refine go_nil ?_
    change G _ _ _ _
    refine p_weaken [0, 4, 5, 6, 27] rfl ?_
    refine p_cond (.tmp 27) (by kernel_rfl) rfl (fun h27 => ?_) (fun h27 => ?_)
    rotate_left
    · replace h27 := kn h27
      rw [hxu] at h27
      cases h27
    replace h27 := kn h27
    refine p_seq0 ?_
    refine p_plain0 (0 :: 1 :: 2 :: []) ?_
    refine go_q0 28 (.move (.tmp 0)) 112 (qv_move rfl) ?_
    refine go_q0 4 (.assign (.tmp 28)) 112 (qv_assign rfl) ?_
    refine go_q0 5 (.assign (.const (.bool false))) 4 (qv_assign rfl) ?_
    refine go_nil ?_
    change G _ _ _ _
    refine p_weaken [0, 4, 5, 6] rfl ?_
    refine p_ret0 ?_
    try dsimp only [thenQ, inBlockQ]
    try rw [if_pos rfl]
    refine ret_left (M) (.inr rfl) (.cons (res_tmp rfl) (.cons (res_tmp rfl) .nil)) .auto ?_
    exact ⟨rfl, rfl⟩
theorem ct_refDelete {M : Mem} {p : Option Addr} {c j : Nat} {L L' : List Slot} {k : Key} (hn : Pow L.length) (h : Lst eSlot p L M) (hk : k.Wf) (hwf : AllWf L) (hh : hasI L k = some j) (hd : delGo L.length j (L.length - 1) 0 (L.set j zeroS) = some L') :
    Ct Try.prog 58 [.slice p L.length c, .agg k.c].toArray M (fun v M' => ∃ p' c' B, v = .tuple #[.slice p' L'.length c', .bool true] ∧ Lst eSlot p' L' B ∧ M' = B ++ M) := by
  have hp := hn.pos
  have hle := hn.le
  have h' := h
  have hj := hasI_lt hh
  obtain ⟨b, off, cur, e, fz, rfl, m, H⟩ := h.at_ hp
  obtain ⟨i, hf, hpj, x0, hx0, hu0⟩ : ∃ i, findI L k = some i ∧ place L.length k i = j ∧ ∃ x, L[j]? = some x ∧ x.used = true := by
    unfold hasI at hh
    split at hh
    · rename_i i hf
      split at hh
      · rename_i x hx
        split at hh
        · rename_i hu
          cases hh
          exact ⟨i, hf, rfl, x, hx, hu⟩
        · cases hh
      · cases hh
    · cases hh
  obtain ⟨n, hnl⟩ : ∃ n, L.length = n := ⟨_, rfl⟩
  have hF := ct_refFindS (c := c) hn h' hk hf
  have hW := ct_refWith (c := c) (x := zeroS) hle h' hj
  rw [hpj] at hF
  rw [hnl] at hp hle hj hd hF hW hn ⊢
  refine ct_body (rv := [.tmp 4, .tmp 5]) [(0, _), (1, _)] Try.func58 (by kernel_rfl) Try.ntmps58 Try.results58 rfl rfl (fun w0 => ?_)
  refine p_seq0 ?_
  refine p_plain0 (0 :: 1 :: 2 :: []) ?_
  refine go_s0 (some 3) (.box 45 (.tmp 1)) 0 ?_
  refine os_boxA rfl rfl (fun b3 => ?_)
  refine go_q0 4 (.assign (.const (.slice none 0 0))) 112 (qv_assign rfl) ?_
  refine go_q0 5 (.assign (.const (.bool false))) 4 (qv_assign rfl) ?_
  refine go_nil ?_
  change G _ _ _ _
  refine p_weaken [0, 3, 4, 5] rfl ?_
  refine p_seq0 ?_
  refine p_plain0 (0 :: 1 :: 2 :: 3 :: 4 :: 5 :: 6 :: 7 :: []) ?_
  refine go_q0 13 (.move (.tmp 0)) 112 (qv_move rfl) ?_
  refine go_q0 14 (.load 45 (.tmp 3)) 45 (qv_load rfl .auto (ldv_agg agg45 (extw_Key _) (Nat.le_of_ble_eq_true rfl))) ?_
  refine go_s0 (some 15) (.call { callee := .value (.func 62), args := #[.tmp 13, .tmp 14], argTypes := #[112, 45] }) 119 ?_
  refine os_pv rfl (pv_callR en62 rfl .auto (hF)) ?_
  refine go_q0 12 (.move (.tmp 15)) 119 (qv_move rfl) ?_
  refine go_q0 16 (.extract (.tmp 12) 0) 3 (qv_extract rfl rfl) ?_
  refine go_q0 17 (.extract (.tmp 12) 1) 3 (qv_extract rfl rfl) ?_
  refine go_q0 6 (.assign (.tmp 16)) 3 (qv_assign rfl) ?_
  refine go_q0 7 (.assign (.tmp 17)) 3 (qv_assign rfl) ?_
  refine go_nil ?_
  change G _ _ _ _
  refine p_weaken [0, 4, 5, 6] rfl ?_
  refine p_seq0 ?_
  refine p_seq0 ?_
  refine p_plain0 (0 :: 1 :: 2 :: 3 :: 4 :: 5 :: 6 :: 7 :: 8 :: 9 :: []) ?_
  refine go_q0 18 (.move (.tmp 6)) 3 (qv_move rfl) ?_
  refine go_q0 19 (.binOp .lss 3 (.tmp 18) (.const (.int .i64 0)) 3) 4 (qv_lss (b := false) rfl rfl (decide_eq_false (by omega))) ?_
  refine go_q0 20 (.move (.tmp 19)) 4 (qv_move rfl) ?_
  refine go_q (d := 21) (op := .move (.tmp 0)) (ty := 112) (g := some (2, false)) (by kernel_rfl) ⟨20, by kernel_rfl, rfl⟩ rfl (qv_move rfl) ?_
  refine go_q (d := 22) (op := .move (.tmp 6)) (ty := 3) (g := some (2, false)) (by kernel_rfl) ⟨20, by kernel_rfl, rfl⟩ rfl (qv_move rfl) ?_
  refine go_q (d := 23) (op := .indexAddr 112 (.tmp 21) (.tmp 22)) (ty := 0) (g := some (2, false)) (by kernel_rfl) ⟨20, by kernel_rfl, rfl⟩ rfl (qv_index un112 sz195 rfl rfl rfl hj) ?_
  refine go_q (d := 24) (op := .fieldAddr 195 (.tmp 23) 0) (ty := 0) (g := some (2, false)) (by kernel_rfl) ⟨20, by kernel_rfl, rfl⟩ rfl (qv_field rfl fd195_0) ?_
  refine go_q (d := 25) (op := .load 4 (.tmp 24)) (ty := 4) (g := some (2, false)) (by kernel_rfl) ⟨20, by kernel_rfl, rfl⟩ rfl (qv_load rfl (At.of_mem (by repeat first | exact m | exact List.mem_append_left _ m | apply List.mem_cons_of_mem | apply List.mem_append_right)) (ldv_el H hx0 sc4 (get_Slot_0 x0) rfl)) ?_
  refine go_q (d := 26) (op := .unOp .not 4 (.tmp 25)) (ty := 4) (g := some (2, false)) (by kernel_rfl) ⟨20, by kernel_rfl, rfl⟩ rfl (qv_not rfl) ?_
  refine go_q0 27 (.pick (.tmp 20) (.const (.bool true)) (.tmp 26)) 4 (qv_pick_f rfl rfl) ?_
  refine go_nil ?_
  change G _ _ _ _
  refine p_weaken [0, 4, 5, 6, 27] rfl ?_
  refine p_cond (.tmp 27) (by kernel_rfl) rfl (fun h27 => ?_) (fun h27 => ?_)
  · replace h27 := kn h27
    rw [hu0] at h27
    cases h27
  replace h27 := kn h27
  refine p_skip0 ?_
  change G _ _ _ _
  refine p_weaken [0, 4, 5, 6] rfl ?_
  refine p_seq0 ?_
  refine p_plain0 (0 :: 1 :: 2 :: 3 :: 4 :: []) ?_
  refine go_q0 29 (.move (.tmp 0)) 112 (qv_move rfl) ?_
  refine go_q0 30 (.move (.tmp 6)) 3 (qv_move rfl) ?_
  refine go_q0 31 (.build 195 #[]) 195 (qv_build rfl (bld195_)) ?_
  refine go_s0 (some 32) (.call { callee := .value (.func 114), args := #[.tmp 29, .tmp 30, .tmp 31], argTypes := #[112, 3, 195] }) 112 ?_
  refine os_call (Nat.le_of_ble_eq_true rfl) en114 rfl (by exact Sel.skip Sel.all) (hW) ?_
  rintro v32 A32 ⟨p2, c2, B2, rfl, hB2, rfl⟩
  try dsimp only [List.nil_append, List.cons_append]
  refine go_q0 0 (.assign (.tmp 32)) 112 (qv_assign rfl) ?_
  refine go_nil ?_
  change G _ _ _ _
  refine p_weaken [0, 4, 5, 6] rfl ?_
  refine p_seq0 ?_
  refine p_seq0 ?_
  refine p_plain0 (0 :: []) ?_
  refine go_q0 8 (.assign (.const (.int .i64 1))) 3 (qv_assign rfl) ?_
  refine go_nil ?_
  change G _ _ _ _
  refine p_block 0 (by kernel_rfl) ?_
  refine p_loopE (by kernel_rfl) (fun s m => ∃ (step : Nat) (Lc : List Slot) (q : Option Addr) (cq : Nat) (B : Mem), (step ≤ n - 1) ∧ (Lc.length = n) ∧ (AllWf Lc) ∧ (delGo n j (n - 1 - step) step Lc = some L') ∧ (Lst eSlot q Lc B) ∧ Ge s ⟨[], [(0, .slice q n cq), (6, .int .i64 j), (8, .int .i64 ((step : Int) + 1))], B ++ M⟩ ∧ m = n - step) ?_ ?_
  · exact ⟨_, ⟨0, L.set j zeroS, p2, c2, B2, by omega, by simp [hnl], hwf.set zeroS_wf j, hd, hB2, ⟨rfl, ⟨[0, 6, 8], rfl⟩, .auto⟩, rfl⟩⟩
  rintro s m ⟨step, Lc, q, cq, B, hs0, hlc, hwc, hdc, hB, hs, rfl⟩
  refine ge_ok hs ?_
  refine p_seq0 ?_
  refine p_seq0 ?_
  refine p_plain0 (0 :: 1 :: 2 :: 3 :: []) ?_
  refine go_q0 33 (.move (.tmp 8)) 3 (qv_move rfl) ?_
  refine go_q0 34 (.move (.tmp 0)) 112 (qv_move rfl) ?_
  refine go_q0 35 (.call { callee := .builtin .len, args := #[.tmp 34], argTypes := #[112] }) 3 (qv_lenS un112 rfl) ?_
  refine go_q0 36 (.binOp .lss 3 (.tmp 33) (.tmp 35) 3) 4 (qv_lss rfl rfl rfl) ?_
  refine go_nil ?_
  change G _ _ _ _
  refine p_weaken [0, 6, 8, 36] rfl ?_
  refine p_cond (.tmp 36) (by kernel_rfl) rfl (fun h36 => ?_) (fun h36 => ?_)
  rotate_left
  · replace h36 := kn h36
    refine p_exit 0 (by kernel_rfl) ?_
    change G _ _ _ _
    refine p_weaken [0] rfl ?_
    refine p_seq0 ?_
    refine p_plain0 (0 :: 1 :: 2 :: []) ?_
    refine go_q0 72 (.move (.tmp 0)) 112 (qv_move rfl) ?_
    refine go_q0 4 (.assign (.tmp 72)) 112 (qv_assign rfl) ?_
    refine go_q0 5 (.assign (.const (.bool true))) 4 (qv_assign rfl) ?_
    refine go_nil ?_
    change G _ _ _ _
    refine p_weaken [4, 5] rfl ?_
    refine p_ret0 ?_
    try dsimp only [thenQ, inBlockQ]
    try rw [if_pos rfl]
    rw [show n - 1 - step = 0 by omega] at hdc
    have hle' : Lc = L' := Option.some.inj hdc
    have hL'n : n = L'.length := by rw [← hle', hlc]
    refine ret_left (B ++ M) (by first | exact .inl rfl | exact .inr rfl) (.cons (res_tmp rfl) (.cons (res_tmp rfl) .nil)) (by first | ((repeat first | exact .refl | exact Sb.app | apply Sb.keep | apply Sb.app_keep | apply Sb.skip | apply Sb.app_skip); done) | exact Sb.of_cnt fun x => by (simp only [List.count_append, List.count_cons, List.count_nil]; omega)) ?_
    subst hle'
    exact ⟨_, _, B, by rw [← hL'n]; rfl, hB, rfl⟩
  replace h36 := kn h36
  refine p_skip0 ?_
  change G _ _ _ _
  refine p_weaken [0, 6, 8] rfl ?_
  refine p_seq0 ?_
  refine p_block 1 (by kernel_rfl) ?_
  refine p_seq0 ?_
  have hil : (j + 1 + step) % n < n := Nat.mod_lt _ (by omega)
  obtain ⟨x, hx⟩ : ∃ x, Lc[(j + 1 + step) % n]? = some x := ⟨_, List.getElem?_eq_getElem (by omega)⟩
  obtain ⟨r, hr⟩ : ∃ r, n - 1 - step = r + 1 := ⟨n - 1 - step - 1, by omega⟩
  rw [hr] at hdc
  have hB' := hB
  obtain ⟨bq, oq, curq, eq, fq, rfl, mq, Hq⟩ := hB.at_ (i := (j + 1 + step) % n) (by omega)
  refine p_plain0 (0 :: 1 :: 2 :: 3 :: 4 :: 5 :: 6 :: 7 :: 8 :: 9 :: 10 :: []) ?_
  refine go_q0 39 (.move (.tmp 0)) 112 (qv_move rfl) ?_
  refine go_q0 40 (.move (.tmp 6)) 3 (qv_move rfl) ?_
  refine go_q0 41 (.move (.tmp 8)) 3 (qv_move rfl) ?_
  refine go_q0 42 (.binOp .add 3 (.tmp 40) (.tmp 41) 3) 3 (qv_add rfl rfl (by first | exact IntWalk.i64_in _ (by omega) | exact IntWalk.i64_in _ (by dsimp only; omega) | rfl)) ?_
  refine go_q0 43 (.move (.tmp 0)) 112 (qv_move rfl) ?_
  refine go_q0 44 (.call { callee := .builtin .len, args := #[.tmp 43], argTypes := #[112] }) 3 (qv_lenS un112 rfl) ?_
  refine go_q0 45 (.binOp .rem 3 (.tmp 42) (.tmp 44) 3) 3 (qv_rem rfl rfl (by omega) ((by rw [Int.tmod_eq_emod_of_nonneg (by omega), show (j : Int) + ((step : Int) + 1) = ((j + 1 + step : Nat) : Int) by omega]; rfl : ((j : Int) + ((step : Int) + 1)).tmod (n : Int) = (((j + 1 + step) % n : Nat) : Int)))) ?_
  refine go_q0 46 (.indexAddr 112 (.tmp 39) (.tmp 45)) 0 (qv_index un112 sz195 rfl rfl rfl hil) ?_
  refine go_q0 47 (.load 195 (.tmp 46)) 195 (qv_load rfl (At.of_mem (by repeat first | exact mq | exact List.mem_append_left _ mq | apply List.mem_cons_of_mem | apply List.mem_append_right)) (ldv_els Hq hx (by decide) agg195 rfl)) ?_
  refine go_s0 (some 9) (.alloc 195) 0 ?_
  refine os_allocA rfl ze195 (fun b9 => ?_)
  refine go_s0 none (.store 195 (.tmp 9) (.tmp 47)) 0 ?_
  refine os_store rfl rfl sz195 rfl (one_Slot _) .auto (Nat.le_of_ble_eq_true rfl) (splw_Slot _ _ (siz_Slot _)) ?_
  refine go_nil ?_
  change G _ _ _ _
  refine p_weaken [0, 6, 8, 9] rfl ?_
  refine p_seq0 ?_
  refine p_seq0 ?_
  refine p_plain0 (0 :: 1 :: 2 :: []) ?_
  refine go_q0 48 (.fieldAddr 195 (.tmp 9) 0) 0 (qv_field rfl fd195_0) ?_
  refine go_q0 49 (.load 4 (.tmp 48)) 4 (qv_load rfl .auto (ldv_sca sc4 (get_Slot_0 _))) ?_
  refine go_q0 50 (.unOp .not 4 (.tmp 49)) 4 (qv_not rfl) ?_
  refine go_nil ?_
  change G _ _ _ _
  refine p_weaken [0, 6, 8, 9, 50] rfl ?_
  refine p_cond (.tmp 50) (by kernel_rfl) rfl (fun h50 => ?_) (fun h50 => ?_)
  · replace h50 := kn h50
    have hle2 := delGo_free hx h50 hdc
    refine p_seq0 ?_
    refine p_plain0 (0 :: 1 :: 2 :: []) ?_
    refine go_q0 51 (.move (.tmp 0)) 112 (qv_move rfl) ?_
    refine go_q0 4 (.assign (.tmp 51)) 112 (qv_assign rfl) ?_
    refine go_q0 5 (.assign (.const (.bool true))) 4 (qv_assign rfl) ?_
    refine go_nil ?_
    change G _ _ _ _
    refine p_weaken [0, 4, 5, 6, 8, 9] rfl ?_
    refine p_ret0 ?_
    try dsimp only [thenQ, inBlockQ]
    try rw [if_pos rfl]
    have hle' : Lc = L' := hle2
    have hL'n : n = L'.length := by rw [← hle', hlc]
    refine ret_left (B ++ M) (by first | exact .inl rfl | exact .inr rfl) (.cons (res_tmp rfl) (.cons (res_tmp rfl) .nil)) (by first | ((repeat first | exact .refl | exact Sb.app | apply Sb.keep | apply Sb.app_keep | apply Sb.skip | apply Sb.app_skip); done) | exact Sb.of_cnt fun x => by (simp only [List.count_append, List.count_cons, List.count_nil]; omega)) ?_
    subst hle'
    exact ⟨_, _, B, by rw [← hL'n]; rfl, hB', rfl⟩
  replace h50 := kn h50
  obtain ⟨u, hu, hrest⟩ := delGo_used hx h50 hdc
  rw [show r = n - 1 - step - 1 by omega] at hrest
  have hW2 := ct_refWith (c := cq) (x := zeroS) (by omega) hB' (show (j + 1 + step) % n < Lc.length by omega)
  rw [hlc] at hW2
  refine p_skip0 ?_
  change G _ _ _ _
  refine p_weaken [0, 6, 8, 9] rfl ?_
  refine p_seq0 ?_
  refine p_plain0 (0 :: 1 :: 2 :: 3 :: 4 :: 5 :: 6 :: 7 :: 8 :: 9 :: []) ?_
  refine go_q0 52 (.move (.tmp 0)) 112 (qv_move rfl) ?_
  refine go_q0 53 (.move (.tmp 6)) 3 (qv_move rfl) ?_
  refine go_q0 54 (.move (.tmp 8)) 3 (qv_move rfl) ?_
  refine go_q0 55 (.binOp .add 3 (.tmp 53) (.tmp 54) 3) 3 (qv_add rfl rfl (by first | exact IntWalk.i64_in _ (by omega) | exact IntWalk.i64_in _ (by dsimp only; omega) | rfl)) ?_
  refine go_q0 56 (.move (.tmp 0)) 112 (qv_move rfl) ?_
  refine go_q0 57 (.call { callee := .builtin .len, args := #[.tmp 56], argTypes := #[112] }) 3 (qv_lenS un112 rfl) ?_
  refine go_q0 58 (.binOp .rem 3 (.tmp 55) (.tmp 57) 3) 3 (qv_rem rfl rfl (by omega) ((by rw [Int.tmod_eq_emod_of_nonneg (by omega), show (j : Int) + ((step : Int) + 1) = ((j + 1 + step : Nat) : Int) by omega]; rfl : ((j : Int) + ((step : Int) + 1)).tmod (n : Int) = (((j + 1 + step) % n : Nat) : Int)))) ?_
  refine go_q0 59 (.build 195 #[]) 195 (qv_build rfl (bld195_)) ?_
  refine go_s0 (some 60) (.call { callee := .value (.func 114), args := #[.tmp 52, .tmp 58, .tmp 59], argTypes := #[112, 3, 195] }) 112 ?_
  refine os_call (Nat.le_of_ble_eq_true rfl) en114 rfl (by exact Sel.skip Sel.app) (hW2) ?_
  rintro v60 A60 ⟨p3, c3, B3, rfl, hB3, rfl⟩
  try dsimp only [List.nil_append, List.cons_append]
  have hF2 := ct_refFindS (c := c3) (k := x.key) (by rw [List.length_set, hlc]; exact hn) hB3 (hwc x (List.mem_of_getElem? hx)) (by rw [hu])
  rw [List.length_set, hlc] at hF2
  have hpl := place_lt (n := n) (by omega) x.key u
  have hW3 := ct_refWith (c := c3) (x := x) (by rw [List.length_set]; omega) hB3 (show place n x.key u < (Lc.set ((j + 1 + step) % n) zeroS).length by rw [List.length_set]; omega)
  rw [List.length_set, hlc] at hW3
  refine go_q0 0 (.assign (.tmp 60)) 112 (qv_assign rfl) ?_
  refine go_nil ?_
  change G _ _ _ _
  refine p_weaken [0, 6, 8, 9] rfl ?_
  refine p_seq0 ?_
  refine p_plain0 (0 :: 1 :: 2 :: 3 :: 4 :: 5 :: 6 :: 7 :: 8 :: []) ?_
  refine go_q0 62 (.move (.tmp 0)) 112 (qv_move rfl) ?_
  refine go_q0 63 (.fieldAddr 195 (.tmp 9) 1) 0 (qv_field rfl fd195_1) ?_
  refine go_q0 64 (.load 45 (.tmp 63)) 45 (qv_load rfl .auto (ldv_agg agg45 (ext_Slot_1_37 _) (Nat.le_of_ble_eq_true rfl))) ?_
  refine go_s0 (some 65) (.call { callee := .value (.func 62), args := #[.tmp 62, .tmp 64], argTypes := #[112, 45] }) 119 ?_
  refine os_pv rfl (pv_callR en62 rfl (by rw [List.append_assoc]; exact Sel.app) (hF2)) ?_
  refine go_q0 61 (.move (.tmp 65)) 119 (qv_move rfl) ?_
  refine go_q0 66 (.extract (.tmp 61) 0) 3 (qv_extract rfl rfl) ?_
  refine go_q0 67 (.extract (.tmp 61) 1) 3 (qv_extract rfl rfl) ?_
  refine go_q0 10 (.assign (.tmp 66)) 3 (qv_assign rfl) ?_
  refine go_q0 11 (.assign (.tmp 67)) 3 (qv_assign rfl) ?_
  refine go_nil ?_
  change G _ _ _ _
  refine p_weaken [0, 6, 8, 9, 10] rfl ?_
  refine p_plain0 (0 :: 1 :: 2 :: 3 :: 4 :: []) ?_
  refine go_q0 68 (.move (.tmp 0)) 112 (qv_move rfl) ?_
  refine go_q0 69 (.move (.tmp 10)) 3 (qv_move rfl) ?_
  refine go_q0 70 (.load 195 (.tmp 9)) 195 (qv_load rfl .auto (ldv_agg agg195 (extw_Slot _) (Nat.le_of_ble_eq_true rfl))) ?_
  refine go_s0 (some 71) (.call { callee := .value (.func 114), args := #[.tmp 68, .tmp 69, .tmp 70], argTypes := #[112, 3, 195] }) 112 ?_
  refine os_call (Nat.le_of_ble_eq_true rfl) en114 rfl (by rw [List.append_assoc]; exact Sel.app) (hW3) ?_
  rintro v71 A71 ⟨p4, c4, B4, rfl, hB4, rfl⟩
  try dsimp only [List.nil_append, List.cons_append]
  refine go_q0 0 (.assign (.tmp 71)) 112 (qv_assign rfl) ?_
  refine go_nil ?_
  change G _ _ _ _
  refine p_weaken [0, 6, 8] rfl ?_
  refine p_plain0 (0 :: 1 :: 2 :: []) ?_
  refine go_q0 37 (.move (.tmp 8)) 3 (qv_move rfl) ?_
  refine go_q0 38 (.binOp .add 3 (.tmp 37) (.const (.int .i64 1)) 3) 3 (qv_add rfl rfl ((IntWalk.i64_in _ (by omega) : IntKind.i64.wrap ((step : Int) + 1 + 1) = (step + 1 : Nat) + 1))) ?_
  refine go_q0 8 (.assign (.tmp 38)) 3 (qv_assign rfl) ?_
  refine go_nil ?_
  exact ⟨_, ⟨step + 1, _, _, _, _, by omega, by simp [hlc], (hwc.set zeroS_wf _).set (hwc x (List.mem_of_getElem? hx)) _, (by rw [show n - 1 - (step + 1) = n - 1 - step - 1 by omega]; exact hrest), hB4, ⟨rfl, ⟨[0, 6, 8], rfl⟩, .auto⟩, rfl⟩, by omega⟩
/-- How many places are used: the document's count. -/
theorem ct_refLen {M : Mem} {p : Option Addr} {c : Nat} {L : List Slot} (hle : L.length ≤ 65536) (h : Lst eSlot p L M) :
    Ct Try.prog 117 [.slice p L.length c].toArray M (fun v M' => v = .int .i64 (cnt L : Nat) ∧ M' = M) := by
  refine ct_body (rv := [.tmp 2]) [(0, _)] Try.func117 (by kernel_rfl) Try.ntmps117 Try.results117 rfl rfl (fun w0 => ?_)
  refine p_seq0 ?_
  refine p_plain0 (0 :: []) ?_
  refine go_q0 2 (.assign (.const (.int .i64 0))) 3 (qv_assign rfl) ?_
  refine go_nil ?_
  change G _ _ _ _
  refine p_seq0 ?_
  refine p_plain0 (0 :: []) ?_
  refine go_q0 3 (.assign (.const (.int .i64 0))) 3 (qv_assign rfl) ?_
  refine go_nil ?_
  change G _ _ _ _
  refine p_seq0 ?_
  refine p_seq0 ?_
  refine p_plain0 (0 :: []) ?_
  refine go_q0 4 (.assign (.const (.int .i64 0))) 3 (qv_assign rfl) ?_
  refine go_nil ?_
  change G _ _ _ _
  refine p_block 0 (by kernel_rfl) ?_
  refine p_loopE (by kernel_rfl) (fun s m => ∃ (i : Nat), (i ≤ L.length) ∧ Ge s ⟨[], [(0, .slice p L.length c), (3, .int .i64 (cnt (L.take i) : Nat)), (4, .int .i64 i)], M⟩ ∧ m = L.length + 1 - i) ?_ ?_
  · exact ⟨_, ⟨0, by omega, ⟨rfl, ⟨[0, 3, 4], rfl⟩, .auto⟩, rfl⟩⟩
  rintro s m ⟨i, hi, hs, rfl⟩
  refine ge_ok hs ?_
  refine p_seq0 ?_
  refine p_seq0 ?_
  refine p_plain0 (0 :: 1 :: 2 :: 3 :: []) ?_
  refine go_q0 5 (.move (.tmp 4)) 3 (qv_move rfl) ?_
  refine go_q0 6 (.move (.tmp 0)) 112 (qv_move rfl) ?_
  refine go_q0 7 (.call { callee := .builtin .len, args := #[.tmp 6], argTypes := #[112] }) 3 (qv_lenS un112 rfl) ?_
  refine go_q0 8 (.binOp .lss 3 (.tmp 5) (.tmp 7) 3) 4 (qv_lss rfl rfl rfl) ?_
  refine go_nil ?_
  change G _ _ _ _
  refine p_weaken [0, 3, 4, 8] rfl ?_
  refine p_cond (.tmp 8) (by kernel_rfl) rfl (fun h8 => ?_) (fun h8 => ?_)
  rotate_left
  · replace h8 := kn h8
    refine p_exit 0 (by kernel_rfl) ?_
    change G _ _ _ _
    refine p_weaken [3] rfl ?_
    refine p_seq0 ?_
    refine p_plain0 (0 :: 1 :: []) ?_
    refine go_q0 18 (.move (.tmp 3)) 3 (qv_move rfl) ?_
    refine go_q0 2 (.assign (.tmp 18)) 3 (qv_assign rfl) ?_
    refine go_nil ?_
    change G _ _ _ _
    refine p_weaken [2] rfl ?_
    refine p_ret0 ?_
    try dsimp only [thenQ, inBlockQ]
    try rw [if_pos rfl]
    refine ret_left (M) (.inr rfl) (.cons (res_tmp rfl) .nil) .auto ?_
    have hin : i = L.length := by omega
    subst hin
    exact ⟨by rw [List.take_length]; rfl, rfl⟩
  replace h8 := kn h8
  refine p_skip0 ?_
  change G _ _ _ _
  refine p_weaken [0, 3, 4] rfl ?_
  refine p_seqJ (fun s => Ge s ⟨[], [(0, .slice p L.length c), (3, .int .i64 (cnt (L.take (i + 1)) : Nat)), (4, .int .i64 i)], M⟩) (by kernel_rfl) ?_ ?_
  rotate_left
  · rintro s hs
    refine ge_ok hs ?_
    refine p_plain0 (0 :: 1 :: 2 :: []) ?_
    refine go_q0 9 (.move (.tmp 4)) 3 (qv_move rfl) ?_
    refine go_q0 10 (.binOp .add 3 (.tmp 9) (.const (.int .i64 1)) 3) 3 (qv_add rfl rfl (by first | exact IntWalk.i64_in _ (by omega) | exact IntWalk.i64_in _ (by dsimp only; omega) | rfl)) ?_
    refine go_q0 4 (.assign (.tmp 10)) 3 (qv_assign rfl) ?_
    refine go_nil ?_
    exact ⟨_, ⟨i + 1, by omega, ⟨rfl, ⟨[0, 3, 4], rfl⟩, .auto⟩, rfl⟩, by omega⟩
  refine p_block 1 (by kernel_rfl) ?_
  refine p_seq0 ?_
  obtain ⟨b, off, cur, e, fz, hpe, m, H⟩ := h.at_ (i := i) (by omega)
  subst hpe
  obtain ⟨x, hx⟩ : ∃ x, L[i]? = some x := ⟨_, List.getElem?_eq_getElem (by omega)⟩
  have hct : cnt (L.take (i + 1)) = cnt (L.take i) + (if x.used then 1 else 0) := by unfold cnt; rw [List.take_add_one, hx, List.countP_append]; cases hu : x.used <;> simp [List.countP_cons, hu]
  have hcl : cnt (L.take i) ≤ i := Nat.le_trans List.countP_le_length (by simp; omega)
  refine p_plain0 (0 :: 1 :: 2 :: 3 :: 4 :: []) ?_
  refine go_q0 11 (.move (.tmp 0)) 112 (qv_move rfl) ?_
  refine go_q0 12 (.move (.tmp 4)) 3 (qv_move rfl) ?_
  refine go_q0 13 (.indexAddr 112 (.tmp 11) (.tmp 12)) 0 (qv_index un112 sz195 rfl rfl rfl (by omega)) ?_
  refine go_q0 14 (.fieldAddr 195 (.tmp 13) 0) 0 (qv_field rfl fd195_0) ?_
  refine go_q0 15 (.load 4 (.tmp 14)) 4 (qv_load rfl (At.of_mem (by repeat first | exact m | exact List.mem_append_left _ m | apply List.mem_cons_of_mem | apply List.mem_append_right)) (ldv_el H hx sc4 (get_Slot_0 x) rfl)) ?_
  refine go_nil ?_
  change G _ _ _ _
  refine p_weaken [0, 3, 4, 15] rfl ?_
  refine p_cond (.tmp 15) (by kernel_rfl) rfl (fun h15 => ?_) (fun h15 => ?_)
  rotate_left
  · replace h15 := kn h15
    refine p_skip0 ?_
    rw [show ((cnt (L.take (i + 1)) : Nat) : Int) = (cnt (L.take i) : Nat) + (if x.used then 1 else 0) by rw [hct]; split <;> simp]
    rw [h15]
    try rw [show ((cnt (L.take i) : Nat) : Int) + (if false = true then 1 else 0) = (cnt (L.take i) : Nat) by simp]
    exact ⟨rfl, ⟨[0, 3, 4], rfl⟩, .auto⟩
  replace h15 := kn h15
  refine p_plain0 (0 :: 1 :: 2 :: []) ?_
  refine go_q0 16 (.move (.tmp 3)) 3 (qv_move rfl) ?_
  refine go_q0 17 (.binOp .add 3 (.tmp 16) (.const (.int .i64 1)) 3) 3 (qv_add rfl rfl ((IntWalk.i64_in _ (by omega) : IntKind.i64.wrap ((cnt (L.take i) : Nat) + 1) = (cnt (L.take i) : Nat) + (if true = true then 1 else 0)))) ?_
  refine go_q0 3 (.assign (.tmp 17)) 3 (qv_assign rfl) ?_
  refine go_nil ?_
  rw [show ((cnt (L.take (i + 1)) : Nat) : Int) = (cnt (L.take i) : Nat) + (if x.used then 1 else 0) by rw [hct]; split <;> simp]
  rw [h15]
  try rw [show ((cnt (L.take i) : Nat) : Int) + (if false = true then 1 else 0) = (cnt (L.take i) : Nat) by simp]
  exact ⟨rfl, ⟨[0, 3, 4], rfl⟩, .auto⟩
theorem zeL_refSlot : ZeL Try.prog 195 eSlot zeroS 56 := ⟨(Try.prog.info? 195).get (by kernel_rfl), (((Try.prog.info? 195).get (by kernel_rfl)).zero).get (by kernel_rfl), by kernel_rfl, by kernel_rfl, by kernel_rfl, by kernel_rfl, by kernel_rfl⟩
def p2 (e : Nat) : Nat := 2 ^ e
theorem ok_pow : ∀ e : Fin 17, okSize (p2 e.val : Int) = true := by decide +kernel
theorem pow_ok : ∀ m : Fin 65, okSize ((m.val : Nat) : Int) = true → ∃ e : Fin 17, m.val = p2 e.val := by decide +kernel
theorem p2_mono {a b : Nat} (h : a ≤ b) : p2 a ≤ p2 b := Nat.pow_le_pow_right (by decide) h
theorem pow_le16 {e : Nat} (h : (p2 e : Int) ≤ 65536) : e ≤ 16 := by
  rcases Nat.lt_or_ge 16 e with h1 | h1
  · have := p2_mono (show 17 ≤ e by omega)
    have e17 : p2 17 = 131072 := by decide
    omega
  · exact h1
theorem pow_le (e : Nat) (h : e ≤ 16) : (p2 e : Int) ≤ 65536 := by
  have := p2_mono h
  have e16 : p2 16 = 65536 := by decide
  omega
theorem p2_succ (e : Nat) : p2 (e + 1) = p2 e * 2 := Nat.pow_succ 2 e
theorem pow_twice {e : Nat} (h : e ≤ 16) : IntKind.i64.wrap ((p2 e : Int) * 2) = (p2 (e + 1) : Int) := by
  have h1 := p2_mono h
  have e16 : p2 16 = 65536 := by decide
  rw [IntWalk.i64_in _ (by omega), p2_succ]
  omega
theorem pu_refNewBad (z : Int) (h : okSize z = false) : Pu Try.prog 57 [.int .i64 z] (.tuple #[.slice none 0 0, .int .i64 2]) := by
  refine ct_body (rv := [.tmp 2, .tmp 3]) [(0, _)] Try.func57 (by kernel_rfl) Try.ntmps57 Try.results57 rfl rfl (fun w0 => ?_)
  refine p_seq0 ?_
  refine p_plain0 (0 :: 1 :: []) ?_
  refine go_q0 2 (.assign (.const (.slice none 0 0))) 112 (qv_assign rfl) ?_
  refine go_q0 3 (.assign (.const (.int .i64 0))) 61 (qv_assign rfl) ?_
  refine go_nil ?_
  change G _ _ _ _
  refine p_seq0 ?_
  refine p_seq0 ?_
  refine p_plain0 (0 :: []) ?_
  refine go_q0 4 (.assign (.const (.int .i64 1))) 3 (qv_assign rfl) ?_
  refine go_nil ?_
  change G _ _ _ _
  refine p_block 0 (by kernel_rfl) ?_
  refine p_loopE (by kernel_rfl) (fun s m => ∃ (e : Nat), (e ≤ 17) ∧ Ge s ⟨[], [(0, .int .i64 z), (4, .int .i64 (p2 e : Int))], []⟩ ∧ m = 18 - e) ?_ ?_
  · exact ⟨_, ⟨0, by omega, ⟨rfl, ⟨[0, 4], rfl⟩, .auto⟩, rfl⟩⟩
  rintro s m ⟨e, he, hs, rfl⟩
  refine ge_ok hs ?_
  refine p_seq0 ?_
  refine p_seq0 ?_
  refine p_plain0 (0 :: 1 :: []) ?_
  refine go_q0 5 (.move (.tmp 4)) 3 (qv_move rfl) ?_
  refine go_q0 6 (.binOp .leq 3 (.tmp 5) (.const (.int .i64 65536)) 3) 4 (qv_leq rfl rfl rfl) ?_
  refine go_nil ?_
  change G _ _ _ _
  refine p_weaken [0, 4, 6] rfl ?_
  refine p_cond (.tmp 6) (by kernel_rfl) rfl (fun h6 => ?_) (fun h6 => ?_)
  rotate_left
  · replace h6 := kn h6
    refine p_exit 0 (by kernel_rfl) ?_
    change G _ _ _ _
    refine p_weaken [] rfl ?_
    refine p_seq0 ?_
    refine p_plain0 (0 :: 1 :: []) ?_
    refine go_q0 2 (.assign (.const (.slice none 0 0))) 112 (qv_assign rfl) ?_
    refine go_q0 3 (.assign (.const (.int .i64 2))) 61 (qv_assign rfl) ?_
    refine go_nil ?_
    change G _ _ _ _
    refine p_ret0 ?_
    try dsimp only [thenQ, inBlockQ]
    try rw [if_pos rfl]
    refine ret_now (.inr rfl) (.cons (res_tmp rfl) (.cons (res_tmp rfl) .nil)) (by repeat constructor) ?_
    exact ⟨rfl, rfl⟩
  replace h6 := kn h6
  refine p_skip0 ?_
  change G _ _ _ _
  refine p_weaken [0, 4] rfl ?_
  refine p_seq0 ?_
  refine p_block 1 (by kernel_rfl) ?_
  refine p_seq0 ?_
  have he' : e ≤ 16 := pow_le16 (by omega)
  refine p_plain0 (0 :: 1 :: 2 :: []) ?_
  refine go_q0 9 (.move (.tmp 4)) 3 (qv_move rfl) ?_
  refine go_q0 10 (.move (.tmp 0)) 3 (qv_move rfl) ?_
  refine go_q0 11 (.binOp .eql 3 (.tmp 9) (.tmp 10) 3) 4 (qv_eql rfl rfl rfl) ?_
  refine go_nil ?_
  change G _ _ _ _
  refine p_weaken [0, 4, 11] rfl ?_
  refine p_cond (.tmp 11) (by kernel_rfl) rfl (fun h11 => ?_) (fun h11 => ?_)
  · replace h11 := kn h11
    have := ok_pow ⟨e, by omega⟩
    rw [show (p2 e : Int) = z from h11, h] at this
    cases this
  replace h11 := kn h11
  refine p_skip0 ?_
  change G _ _ _ _
  refine p_weaken [0, 4] rfl ?_
  refine p_plain0 (0 :: 1 :: 2 :: []) ?_
  refine go_q0 7 (.move (.tmp 4)) 3 (qv_move rfl) ?_
  refine go_q0 8 (.binOp .mul 3 (.tmp 7) (.const (.int .i64 2)) 3) 3 (qv_mul rfl rfl (pow_twice he')) ?_
  refine go_q0 4 (.assign (.tmp 8)) 3 (qv_assign rfl) ?_
  refine go_nil ?_
  exact ⟨_, ⟨e + 1, by omega, ⟨rfl, ⟨[0, 4], rfl⟩, .auto⟩, rfl⟩, by omega⟩
theorem ct_refNew (n : Nat) (h : okSize n = true) (h64 : n ≤ 64) : Ct Try.prog 57 [.int .i64 n].toArray [] (fun v M' => ∃ b, v = .tuple #[.slice (some ⟨b, 0, none⟩) n n, .int .i64 0] ∧ M' = [(b, .cells (eSlot.flat (List.replicate n zeroS)).toArray 195 (0, 0))]) := by
  obtain ⟨⟨e0, he0⟩, hne⟩ := pow_ok ⟨n, by omega⟩ h
  simp only at hne
  have hn1 := (okSize_pos h).1
  refine ct_body (rv := [.tmp 2, .tmp 3]) [(0, _)] Try.func57 (by kernel_rfl) Try.ntmps57 Try.results57 rfl rfl (fun w0 => ?_)
  refine p_seq0 ?_
  refine p_plain0 (0 :: 1 :: []) ?_
  refine go_q0 2 (.assign (.const (.slice none 0 0))) 112 (qv_assign rfl) ?_
  refine go_q0 3 (.assign (.const (.int .i64 0))) 61 (qv_assign rfl) ?_
  refine go_nil ?_
  change G _ _ _ _
  refine p_seq0 ?_
  refine p_seq0 ?_
  refine p_plain0 (0 :: []) ?_
  refine go_q0 4 (.assign (.const (.int .i64 1))) 3 (qv_assign rfl) ?_
  refine go_nil ?_
  change G _ _ _ _
  refine p_block 0 (by kernel_rfl) ?_
  refine p_loopE (by kernel_rfl) (fun s m => ∃ (e : Nat), (e ≤ e0) ∧ Ge s ⟨[], [(0, .int .i64 n), (4, .int .i64 (p2 e : Int))], []⟩ ∧ m = 18 - e) ?_ ?_
  · exact ⟨_, ⟨0, by omega, ⟨rfl, ⟨[0, 4], rfl⟩, .auto⟩, rfl⟩⟩
  rintro s m ⟨e, he, hs, rfl⟩
  refine ge_ok hs ?_
  refine p_seq0 ?_
  refine p_seq0 ?_
  refine p_plain0 (0 :: 1 :: []) ?_
  refine go_q0 5 (.move (.tmp 4)) 3 (qv_move rfl) ?_
  refine go_q0 6 (.binOp .leq 3 (.tmp 5) (.const (.int .i64 65536)) 3) 4 (qv_leq (b := true) rfl rfl (decide_eq_true (pow_le e (by omega)))) ?_
  refine go_nil ?_
  change G _ _ _ _
  refine p_weaken [0, 4, 6] rfl ?_
  refine p_condT (.tmp 6) (by kernel_rfl) rfl ?_
  refine p_skip0 ?_
  change G _ _ _ _
  refine p_weaken [0, 4] rfl ?_
  refine p_seq0 ?_
  refine p_block 1 (by kernel_rfl) ?_
  refine p_seq0 ?_
  have he' : e ≤ 16 := by omega
  refine p_plain0 (0 :: 1 :: 2 :: []) ?_
  refine go_q0 9 (.move (.tmp 4)) 3 (qv_move rfl) ?_
  refine go_q0 10 (.move (.tmp 0)) 3 (qv_move rfl) ?_
  refine go_q0 11 (.binOp .eql 3 (.tmp 9) (.tmp 10) 3) 4 (qv_eql rfl rfl rfl) ?_
  refine go_nil ?_
  change G _ _ _ _
  refine p_weaken [0, 4, 11] rfl ?_
  refine p_cond (.tmp 11) (by kernel_rfl) rfl (fun h11 => ?_) (fun h11 => ?_)
  rotate_left
  · replace h11 := kn h11
    refine p_skip0 ?_
    change G _ _ _ _
    refine p_weaken [0, 4] rfl ?_
    refine p_plain0 (0 :: 1 :: 2 :: []) ?_
    refine go_q0 7 (.move (.tmp 4)) 3 (qv_move rfl) ?_
    refine go_q0 8 (.binOp .mul 3 (.tmp 7) (.const (.int .i64 2)) 3) 3 (qv_mul rfl rfl (pow_twice he')) ?_
    refine go_q0 4 (.assign (.tmp 8)) 3 (qv_assign rfl) ?_
    refine go_nil ?_
    exact ⟨_, ⟨e + 1, by have : e ≠ e0 := (fun h => by subst h; exact h11 (by rw [hne])); omega, ⟨rfl, ⟨[0, 4], rfl⟩, .auto⟩, rfl⟩, by omega⟩
  replace h11 := kn h11
  refine p_seq0 ?_
  refine p_plain0 (0 :: 1 :: 2 :: 3 :: []) ?_
  refine go_q0 12 (.move (.tmp 0)) 3 (qv_move rfl) ?_
  refine go_s0 (some 13) (.makeSlice 112 (.tmp 12) (.tmp 12)) 112 ?_
  refine os_makeL rfl un112 zeL_refSlot (by decide) rfl rfl rfl rfl (by simp [eSlot]; omega) (by omega) (by omega) (fun b13 => ?_)
  refine go_q0 2 (.assign (.tmp 13)) 112 (qv_assign rfl) ?_
  refine go_q0 3 (.assign (.const (.int .i64 0))) 61 (qv_assign rfl) ?_
  refine go_nil ?_
  change G _ _ _ _
  refine p_weaken [0, 2, 3, 4] rfl ?_
  refine p_ret0 ?_
  try dsimp only [thenQ, inBlockQ]
  try rw [if_pos rfl]
  refine ret_left ([(b13, .cells (eSlot.flat (List.replicate n zeroS)).toArray 195 (0, 0))]) (.inr rfl) (.cons (res_tmp rfl) (.cons (res_tmp rfl) .nil)) .auto ?_
  exact ⟨b13, rfl, rfl⟩
end Go.Proofs.Ytobmcpoejhhemaa
