/- Contracts: the document's table. -/
import Derived.Test.YtobmcpoejhhemaaRefB
import Derived.Test.YtobmcpoejhhemaaKeepW
namespace Go.Proofs.Ytobmcpoejhhemaa
open Go.E

theorem place_next {n : Nat} (hn : Pow n) (k : Key) (i : Nat) : (place n k i + 1) % n = place n k (i + 1) := by
  rw [place_eq hn k i, place_eq hn k (i + 1)]
  rw [Nat.mod_add_mod, Nat.add_assoc]
theorem ct_refFind {M : Mem} {p : Option Addr} {c : Nat} {L : List Slot} {k : Key} (hn : Pow L.length) (h : Lst eSlot p L M) (hk : k.Wf) :
    Ct Try.prog 62 [.slice p L.length c, .agg k.c].toArray M (fun v M' => v = findV L k ∧ M' = M) := by
  have hp := hn.pos
  have hle := hn.le
  obtain ⟨b, off, cur, e, fz, rfl, m, H⟩ := h.at_ hp
  refine ct_body (rv := [.tmp 4, .tmp 5]) [(0, _), (1, _)] Try.func62 (by kernel_rfl) Try.ntmps62 Try.results62 rfl rfl (fun w0 => ?_)
  refine p_seq0 ?_
  refine p_plain0 (0 :: 1 :: 2 :: []) ?_
  refine go_s0 (some 3) (.box 45 (.tmp 1)) 0 ?_
  refine os_boxA rfl rfl (fun b3 => ?_)
  refine go_q0 4 (.assign (.const (.int .i64 0))) 3 (qv_assign rfl) ?_
  refine go_q0 5 (.assign (.const (.int .i64 0))) 3 (qv_assign rfl) ?_
  refine go_nil ?_
  change G _ _ _ _
  refine p_weaken [0, 3, 4, 5] rfl ?_
  refine p_seq0 ?_
  refine p_plain0 (0 :: 1 :: 2 :: 3 :: 4 :: 5 :: 6 :: 7 :: []) ?_
  refine go_q0 8 (.load 45 (.tmp 3)) 45 (qv_load rfl .auto (ldv_agg agg45 (extw_Key _) (Nat.le_of_ble_eq_true rfl))) ?_
  refine go_s0 (some 9) (.call { callee := .value (.func 64), args := #[.tmp 8], argTypes := #[45] }) 30 ?_
  refine os_callP rfl en64 rfl (pu_refHash k hk) ?_
  refine go_q0 10 (.move (.tmp 0)) 112 (qv_move rfl) ?_
  refine go_q0 11 (.call { callee := .builtin .len, args := #[.tmp 10], argTypes := #[112] }) 3 (qv_lenS un112 rfl) ?_
  refine go_q0 12 (.convert 3 30 (.tmp 11)) 30 (qv_conv un3 un30 rfl (by first | exact IntWalk.u64_in _ (by omega) | rfl)) ?_
  refine go_q0 13 (.binOp .rem 30 (.tmp 9) (.tmp 12) 30) 30 (qv_rem rfl rfl (by omega) ((by rw [Int.tmod_eq_emod_of_nonneg (hashK_nn _)]; exact home_hash hn k : (hashK k).tmod (L.length : Int) = (home L.length k : Int)))) ?_
  refine go_q0 14 (.convert 30 3 (.tmp 13)) 3 (qv_conv un30 un3 rfl (IntWalk.i64_in _ (by have := home_lt hn k; omega))) ?_
  refine go_q0 6 (.assign (.tmp 14)) 3 (qv_assign rfl) ?_
  refine go_nil ?_
  change G _ _ _ _
  refine p_weaken [0, 3, 4, 5, 6] rfl ?_
  refine p_seq0 ?_
  refine p_seq0 ?_
  refine p_plain0 (0 :: []) ?_
  refine go_q0 7 (.assign (.const (.int .i64 0))) 3 (qv_assign rfl) ?_
  refine go_nil ?_
  change G _ _ _ _
  refine p_block 0 (by kernel_rfl) ?_
  refine p_loopE (by kernel_rfl) (fun s m => ∃ (i : Nat), (i ≤ L.length) ∧ (∀ j, j < i → stop L k j = false) ∧ Ge s ⟨[], [(0, .slice (some ⟨b, off, none⟩) L.length c), (3, .pointer (some ⟨b3, 0, none⟩)), (6, .int .i64 (place L.length k i)), (7, .int .i64 i)], (b3, .cells k.c 45 (0, 0)) :: M⟩ ∧ m = L.length + 1 - i) ?_ ?_
  · exact ⟨_, ⟨0, by omega, fun j hj => absurd hj (by omega), ⟨rfl, ⟨[0, 3, 6, 7], rfl⟩, .auto⟩, rfl⟩⟩
  rintro s m ⟨i, hi, hs0, hs, rfl⟩
  refine ge_ok hs ?_
  refine p_seq0 ?_
  refine p_seq0 ?_
  refine p_plain0 (0 :: 1 :: 2 :: 3 :: []) ?_
  refine go_q0 15 (.move (.tmp 7)) 3 (qv_move rfl) ?_
  refine go_q0 16 (.move (.tmp 0)) 112 (qv_move rfl) ?_
  refine go_q0 17 (.call { callee := .builtin .len, args := #[.tmp 16], argTypes := #[112] }) 3 (qv_lenS un112 rfl) ?_
  refine go_q0 18 (.binOp .lss 3 (.tmp 15) (.tmp 17) 3) 4 (qv_lss rfl rfl rfl) ?_
  refine go_nil ?_
  change G _ _ _ _
  refine p_weaken [0, 3, 6, 7, 18] rfl ?_
  refine p_cond (.tmp 18) (by kernel_rfl) rfl (fun h18 => ?_) (fun h18 => ?_)
  rotate_left
  · replace h18 := kn h18
    refine p_exit 0 (by kernel_rfl) ?_
    change G _ _ _ _
    refine p_weaken [0] rfl ?_
    refine p_seq0 ?_
    refine p_plain0 (0 :: 1 :: 2 :: 3 :: []) ?_
    refine go_q0 44 (.move (.tmp 0)) 112 (qv_move rfl) ?_
    refine go_q0 45 (.call { callee := .builtin .len, args := #[.tmp 44], argTypes := #[112] }) 3 (qv_lenS un112 rfl) ?_
    refine go_q0 4 (.assign (.const (.int .i64 (-1)))) 3 (qv_assign rfl) ?_
    refine go_q0 5 (.assign (.tmp 45)) 3 (qv_assign rfl) ?_
    refine go_nil ?_
    change G _ _ _ _
    refine p_weaken [4, 5] rfl ?_
    refine p_ret0 ?_
    try dsimp only [thenQ, inBlockQ]
    try rw [if_pos rfl]
    refine ret_left (M) (.inr rfl) (.cons (res_tmp rfl) (.cons (res_tmp rfl) .nil)) .auto ?_
    have hin : i = L.length := by omega
    subst hin
    exact ⟨by unfold findV; rw [findI_none hs0]; rfl, rfl⟩
  replace h18 := kn h18
  refine p_skip0 ?_
  change G _ _ _ _
  refine p_weaken [0, 3, 6, 7] rfl ?_
  refine p_seq0 ?_
  refine p_block 1 (by kernel_rfl) ?_
  refine p_seq0 ?_
  refine p_seq0 ?_
  have hpl := place_lt (n := L.length) (by omega) k i
  obtain ⟨x, hx⟩ : ∃ x, L[place L.length k i]? = some x := ⟨_, List.getElem?_eq_getElem hpl⟩
  have hsx := stop_of (k := k) (i := i) hx
  refine p_draw (by kernel_rfl) mixed 15 15 _ (fun _ h => h) (by kernel_rfl) ?_
  refine gd_all (0 :: 1 :: 2 :: 3 :: 4 :: 5 :: 6 :: 7 :: 8 :: 9 :: 10 :: 11 :: 12 :: 13 :: 14 :: []) _ rfl (by kernel_rfl) (by decide) (fun _ h => h) rfl ?_
  refine sq_q0 21 (.move (.tmp 0)) 112 (qv_move rfl) ?_
  refine sq_q0 22 (.move (.tmp 6)) 3 (qv_move rfl) ?_
  refine sq_q0 23 (.indexAddr 112 (.tmp 21) (.tmp 22)) 0 (qv_index un112 sz195 rfl rfl rfl hpl) ?_
  refine sq_q0 24 (.fieldAddr 195 (.tmp 23) 0) 0 (qv_field rfl fd195_0) ?_
  refine sq_q0 25 (.load 4 (.tmp 24)) 4 (qv_load rfl (At.of_mem (by repeat first | exact m | exact List.mem_append_left _ m | apply List.mem_cons_of_mem | apply List.mem_append_right)) (ldv_el H hx sc4 (get_Slot_0 x) rfl)) ?_
  refine sq_q0 26 (.unOp .not 4 (.tmp 25)) 4 (qv_not rfl) ?_
  refine sq_q0 27 (.move (.tmp 26)) 4 (qv_move rfl) ?_
  refine sq_case (d := 27) rfl (fun _ => rfl) (fun g27 => ?_) (fun g27 => ?_)
  · replace g27 := kn g27
    refine sq_n (d := 28) (op := .move (.tmp 0)) (ty := 112) (g := some (6, false)) (by kernel_rfl) ⟨27, _, by kernel_rfl, rfl, rfl⟩ ?_
    refine sq_n (d := 29) (op := .move (.tmp 6)) (ty := 3) (g := some (6, false)) (by kernel_rfl) ⟨27, _, by kernel_rfl, rfl, rfl⟩ ?_
    refine sq_n (d := 30) (op := .indexAddr 112 (.tmp 28) (.tmp 29)) (ty := 0) (g := some (6, false)) (by kernel_rfl) ⟨27, _, by kernel_rfl, rfl, rfl⟩ ?_
    refine sq_n (d := 31) (op := .fieldAddr 195 (.tmp 30) 1) (ty := 0) (g := some (6, false)) (by kernel_rfl) ⟨27, _, by kernel_rfl, rfl, rfl⟩ ?_
    refine sq_n (d := 32) (op := .load 45 (.tmp 31)) (ty := 45) (g := some (6, false)) (by kernel_rfl) ⟨27, _, by kernel_rfl, rfl, rfl⟩ ?_
    refine sq_n (d := 33) (op := .load 45 (.tmp 3)) (ty := 45) (g := some (6, false)) (by kernel_rfl) ⟨27, _, by kernel_rfl, rfl, rfl⟩ ?_
    refine sq_n (d := 34) (op := .binOp .eql 45 (.tmp 32) (.tmp 33) 45) (ty := 4) (g := some (6, false)) (by kernel_rfl) ⟨27, _, by kernel_rfl, rfl, rfl⟩ ?_
    refine sq_q0 35 (.pick (.tmp 27) (.const (.bool true)) (.tmp 34)) 4 (qv_pick_t rfl rfl) ?_
    refine SeqK.nil (fun β => ?_)
    refine gd_tail [] rfl (by kernel_rfl) (by kernel_rfl) ?_
    refine go_nil ?_
    change G _ _ _ _
    refine p_weaken [0, 3, 6, 7, 35] rfl ?_
    refine p_condT (.tmp 35) (by kernel_rfl) rfl ?_
    refine p_seq0 ?_
    refine p_plain0 (0 :: 1 :: 2 :: 3 :: 4 :: []) ?_
    refine go_q0 36 (.move (.tmp 6)) 3 (qv_move rfl) ?_
    refine go_q0 37 (.move (.tmp 7)) 3 (qv_move rfl) ?_
    refine go_q0 38 (.binOp .add 3 (.tmp 37) (.const (.int .i64 1)) 3) 3 (qv_add rfl rfl (by first | exact IntWalk.i64_in _ (by omega) | exact IntWalk.i64_in _ (by dsimp only; omega) | rfl)) ?_
    refine go_q0 4 (.assign (.tmp 36)) 3 (qv_assign rfl) ?_
    refine go_q0 5 (.assign (.tmp 38)) 3 (qv_assign rfl) ?_
    refine go_nil ?_
    change G _ _ _ _
    refine p_weaken [0, 3, 4, 5, 6, 7] rfl ?_
    refine p_ret0 ?_
    try dsimp only [thenQ, inBlockQ]
    try rw [if_pos rfl]
    refine ret_left (M) (.inr rfl) (.cons (res_tmp rfl) (.cons (res_tmp rfl) .nil)) .auto ?_
    have hst : stop L k i = true := by rw [hsx]; simp [*]
    exact ⟨by unfold findV; rw [findI_some (by omega) hs0 hst]; rfl, rfl⟩
  replace g27 := kn g27
  refine sq_q (d := 28) (op := .move (.tmp 0)) (ty := 112) (g := some (6, false)) (by kernel_rfl) ⟨27, by kernel_rfl, rfl⟩ (fun _ h => nomatch h) (qv_move rfl) ?_
  refine sq_q (d := 29) (op := .move (.tmp 6)) (ty := 3) (g := some (6, false)) (by kernel_rfl) ⟨27, by kernel_rfl, rfl⟩ (fun _ h => nomatch h) (qv_move rfl) ?_
  refine sq_q (d := 30) (op := .indexAddr 112 (.tmp 28) (.tmp 29)) (ty := 0) (g := some (6, false)) (by kernel_rfl) ⟨27, by kernel_rfl, rfl⟩ (fun _ h => nomatch h) (qv_index un112 sz195 rfl rfl rfl hpl) ?_
  refine sq_q (d := 31) (op := .fieldAddr 195 (.tmp 30) 1) (ty := 0) (g := some (6, false)) (by kernel_rfl) ⟨27, by kernel_rfl, rfl⟩ (fun _ h => nomatch h) (qv_field rfl fd195_1) ?_
  refine sq_q (d := 32) (op := .load 45 (.tmp 31)) (ty := 45) (g := some (6, false)) (by kernel_rfl) ⟨27, by kernel_rfl, rfl⟩ (fun _ h => nomatch h) (qv_load rfl (At.of_mem (by repeat first | exact m | exact List.mem_append_left _ m | apply List.mem_cons_of_mem | apply List.mem_append_right)) (ldv_elp H hx agg45 (ext_Slot_1_37 x) (by decide) (by decide) rfl)) ?_
  refine sq_q (d := 33) (op := .load 45 (.tmp 3)) (ty := 45) (g := some (6, false)) (by kernel_rfl) ⟨27, by kernel_rfl, rfl⟩ (fun _ h => nomatch h) (qv_load rfl .auto (ldv_agg agg45 (extw_Key _) (Nat.le_of_ble_eq_true rfl))) ?_
  refine sq_q (d := 34) (op := .binOp .eql 45 (.tmp 32) (.tmp 33) 45) (ty := 4) (g := some (6, false)) (by kernel_rfl) ⟨27, by kernel_rfl, rfl⟩ (fun _ h => nomatch h) (qv_eql_45 rfl rfl rfl) ?_
  refine sq_q0 35 (.pick (.tmp 27) (.const (.bool true)) (.tmp 34)) 4 (qv_pick_f rfl rfl) ?_
  refine SeqK.nil (fun β => ?_)
  refine gd_tail [] rfl (by kernel_rfl) (by kernel_rfl) ?_
  refine go_nil ?_
  change G _ _ _ _
  refine p_weaken [0, 3, 6, 7, 35] rfl ?_
  refine p_cond (.tmp 35) (by kernel_rfl) rfl (fun h35 => ?_) (fun h35 => ?_)
  · replace h35 := kn h35
    have hst : stop L k i = true := by rw [hsx]; simp [*]
    refine p_seq0 ?_
    refine p_plain0 (0 :: 1 :: 2 :: 3 :: 4 :: []) ?_
    refine go_q0 36 (.move (.tmp 6)) 3 (qv_move rfl) ?_
    refine go_q0 37 (.move (.tmp 7)) 3 (qv_move rfl) ?_
    refine go_q0 38 (.binOp .add 3 (.tmp 37) (.const (.int .i64 1)) 3) 3 (qv_add rfl rfl (by first | exact IntWalk.i64_in _ (by omega) | exact IntWalk.i64_in _ (by dsimp only; omega) | rfl)) ?_
    refine go_q0 4 (.assign (.tmp 36)) 3 (qv_assign rfl) ?_
    refine go_q0 5 (.assign (.tmp 38)) 3 (qv_assign rfl) ?_
    refine go_nil ?_
    change G _ _ _ _
    refine p_weaken [0, 3, 4, 5, 6, 7] rfl ?_
    refine p_ret0 ?_
    try dsimp only [thenQ, inBlockQ]
    try rw [if_pos rfl]
    refine ret_left (M) (.inr rfl) (.cons (res_tmp rfl) (.cons (res_tmp rfl) .nil)) .auto ?_
    have hst : stop L k i = true := by rw [hsx]; simp [*]
    exact ⟨by unfold findV; rw [findI_some (by omega) hs0 hst]; rfl, rfl⟩
  replace h35 := kn h35
  have hst : stop L k i = false := by rw [hsx]; simp [*]
  refine p_skip0 ?_
  change G _ _ _ _
  refine p_weaken [0, 3, 6, 7] rfl ?_
  refine p_plain0 (0 :: 1 :: 2 :: 3 :: 4 :: 5 :: []) ?_
  refine go_q0 39 (.move (.tmp 6)) 3 (qv_move rfl) ?_
  refine go_q0 40 (.binOp .add 3 (.tmp 39) (.const (.int .i64 1)) 3) 3 (qv_add rfl rfl (by first | exact IntWalk.i64_in _ (by omega) | exact IntWalk.i64_in _ (by dsimp only; omega) | rfl)) ?_
  refine go_q0 41 (.move (.tmp 0)) 112 (qv_move rfl) ?_
  refine go_q0 42 (.call { callee := .builtin .len, args := #[.tmp 41], argTypes := #[112] }) 3 (qv_lenS un112 rfl) ?_
  refine go_q0 43 (.binOp .rem 3 (.tmp 40) (.tmp 42) 3) 3 (qv_rem rfl rfl (by omega) ((by rw [Int.tmod_eq_emod_of_nonneg (by omega), ← place_next hn k i]; rfl : ((place L.length k i : Int) + 1).tmod (L.length : Int) = (place L.length k (i + 1) : Int)))) ?_
  refine go_q0 6 (.assign (.tmp 43)) 3 (qv_assign rfl) ?_
  refine go_nil ?_
  change G _ _ _ _
  refine p_weaken [0, 3, 6, 7] rfl ?_
  refine p_plain0 (0 :: 1 :: 2 :: []) ?_
  refine go_q0 19 (.move (.tmp 7)) 3 (qv_move rfl) ?_
  refine go_q0 20 (.binOp .add 3 (.tmp 19) (.const (.int .i64 1)) 3) 3 (qv_add rfl rfl (by first | exact IntWalk.i64_in _ (by omega) | exact IntWalk.i64_in _ (by dsimp only; omega) | rfl)) ?_
  refine go_q0 7 (.assign (.tmp 20)) 3 (qv_assign rfl) ?_
  refine go_nil ?_
  exact ⟨_, ⟨i + 1, by omega, fun j hj => by by_cases e : j = i; exact e ▸ hst; exact hs0 j (by omega), ⟨rfl, ⟨[0, 3, 6, 7], rfl⟩, .auto⟩, rfl⟩, by omega⟩
theorem ct_refFindN {M : Mem} {p : Option Addr} {c : Nat} {L : List Slot} {k : Key} (hn : Pow L.length) (h : Lst eSlot p L M) (hk : k.Wf) (hf : findI L k = none) :
    Ct Try.prog 62 [.slice p L.length c, .agg k.c].toArray M (fun v M' => v = .tuple #[.int .i64 (-1), .int .i64 L.length] ∧ M' = M) :=
  (ct_refFind hn h hk).mono fun v M' ⟨h, hm⟩ => ⟨by rw [h]; unfold findV; rw [hf], hm⟩
theorem ct_refFindS {M : Mem} {p : Option Addr} {c : Nat} {L : List Slot} {k : Key} (hn : Pow L.length) (h : Lst eSlot p L M) (hk : k.Wf) {i : Nat} (hf : findI L k = some i) :
    Ct Try.prog 62 [.slice p L.length c, .agg k.c].toArray M (fun v M' => v = .tuple #[.int .i64 (place L.length k i), .int .i64 ((i + 1 : Nat) : Int)] ∧ M' = M) :=
  (ct_refFind hn h hk).mono fun v M' ⟨h, hm⟩ => ⟨by rw [h]; unfold findV; rw [hf], hm⟩
theorem ct_refWith {M : Mem} {p : Option Addr} {c j : Nat} {L : List Slot} {x : Slot} (h2 : L.length ≤ 65536) (h : Lst eSlot p L M) (hj : j < L.length) :
    Ct Try.prog 114 [.slice p L.length c, .int .i64 j, .agg x.c].toArray M (fun v M' => ∃ p' c' B, v = .slice p' L.length c' ∧ Lst eSlot p' (L.set j x) B ∧ M' = B ++ M) := by
  obtain ⟨b, off, cur, e, fz, rfl, m, H⟩ := h.at_ (i := j) hj
  refine ct_body (rv := [.tmp 6]) [(0, _), (1, _), (2, _)] Try.func114 (by kernel_rfl) Try.ntmps114 Try.results114 rfl rfl (fun w0 => ?_)
  refine p_seq0 ?_
  refine p_plain0 (0 :: 1 :: []) ?_
  refine go_s0 (some 5) (.box 195 (.tmp 2)) 0 ?_
  refine os_boxA rfl rfl (fun b5 => ?_)
  refine go_q0 6 (.assign (.const (.slice none 0 0))) 112 (qv_assign rfl) ?_
  refine go_nil ?_
  change G _ _ _ _
  refine p_weaken [0, 1, 5, 6] rfl ?_
  refine p_seq0 ?_
  refine p_plain0 (0 :: []) ?_
  refine go_q0 7 (.assign (.const (.slice none 0 0))) 112 (qv_assign rfl) ?_
  refine go_nil ?_
  change G _ _ _ _
  refine p_seq0 ?_
  refine p_plain0 (0 :: 1 :: 2 :: 3 :: []) ?_
  refine go_q0 8 (.move (.tmp 7)) 112 (qv_move rfl) ?_
  refine go_q0 9 (.move (.tmp 0)) 112 (qv_move rfl) ?_
  refine go_s0 (some 10) (.call { callee := .builtin .append, args := #[.tmp 8, .tmp 9], argTypes := #[112, 112] }) 112 ?_
  refine os_appendK (E := eSlot) (l := []) (l2 := L) rfl el112 rfl rfl rfl rfl (OwnL.nil) .auto (At.of_mem (List.mem_cons_of_mem _ m)) (H) (one_Slot) (by simp [maxLen] <;> omega) (by simp <;> omega) (fun p10 c10 A10 h10 => ?_)
  obtain ⟨b2, cur2, rfl, rfl, hc1, hc2, hc3, H2⟩ := h10.some_ (by simp; omega)
  rw [List.nil_append] at hc1 H2 ⊢
  refine go_q0 7 (.assign (.tmp 10)) 112 (qv_assign rfl) ?_
  refine go_nil ?_
  change G _ _ _ _
  refine p_weaken [1, 5, 6, 7] rfl ?_
  refine p_seq0 ?_
  refine p_plain0 (0 :: 1 :: 2 :: 3 :: 4 :: []) ?_
  refine go_q0 11 (.move (.tmp 7)) 112 (qv_move rfl) ?_
  refine go_q0 12 (.move (.tmp 1)) 3 (qv_move rfl) ?_
  refine go_q0 13 (.load 195 (.tmp 5)) 195 (qv_load rfl .auto (ldv_agg agg195 (extw_Slot _) (Nat.le_of_ble_eq_true rfl))) ?_
  refine go_q0 14 (.indexAddr 112 (.tmp 11) (.tmp 12)) 0 (qv_index un112 sz195 rfl rfl rfl hj) ?_
  refine go_s0 none (.store 195 (.tmp 14) (.tmp 13)) 0 ?_
  refine os_store rfl rfl sz195 rfl (one_Slot _) (by repeat first | exact .here | apply Up.next | apply Up.app) (own_fit hc1 hc3 hj) rfl ?_
  have h11 := OwnL.put (e := 195) (b := b2) x hc1 hc2 hc3 H2 hj
  refine go_nil ?_
  change G _ _ _ _
  refine p_weaken [6, 7] rfl ?_
  refine p_seq0 ?_
  refine p_plain0 (0 :: 1 :: []) ?_
  refine go_q0 15 (.move (.tmp 7)) 112 (qv_move rfl) ?_
  refine go_q0 6 (.assign (.tmp 15)) 112 (qv_assign rfl) ?_
  refine go_nil ?_
  change G _ _ _ _
  refine p_weaken [6] rfl ?_
  refine p_ret0 ?_
  try dsimp only [thenQ, inBlockQ]
  try rw [if_pos rfl]
  refine ret_left ([_] ++ M) (.inr rfl) (.cons (res_tmp rfl) .nil) (Sb.keep (Sb.skip .refl)) ?_
  exact ⟨_, _, _, rfl, h11.lst, rfl⟩
/-- What the document's Get answers. -/
theorem ct_refGet {M : Mem} {p : Option Addr} {c : Nat} {L : List Slot} {k : Key} (hn : Pow L.length) (h : Lst eSlot p L M) (hk : k.Wf) :
    Ct Try.prog 61 [.slice p L.length c, .agg k.c].toArray M (fun v M' => v = getV L k ∧ M' = M) := by
  have hp := hn.pos
  have hle := hn.le
  have h' := h
  obtain ⟨b, off, cur, e, fz, rfl, m, H⟩ := h.at_ hp
  cases hf : findI L k with
  | none =>
    refine ct_body (rv := [.tmp 4, .tmp 5]) [(0, _), (1, _)] Try.func61 (by kernel_rfl) Try.ntmps61 Try.results61 rfl rfl (fun w0 => ?_)
    refine p_seq0 ?_
    refine p_plain0 (0 :: 1 :: 2 :: []) ?_
    refine go_s0 (some 3) (.box 45 (.tmp 1)) 0 ?_
    refine os_boxA rfl rfl (fun b3 => ?_)
    refine go_q0 4 (.assign (.const (.int .u64 0))) 30 (qv_assign rfl) ?_
    refine go_q0 5 (.assign (.const (.bool false))) 4 (qv_assign rfl) ?_
    refine go_nil ?_
    change G _ _ _ _
    refine p_weaken [0, 3, 4, 5] rfl ?_
    refine p_seq0 ?_
    refine p_plain0 (0 :: 1 :: 2 :: 3 :: 4 :: 5 :: 6 :: 7 :: []) ?_
    refine go_q0 9 (.move (.tmp 0)) 112 (qv_move rfl) ?_
    refine go_q0 10 (.load 45 (.tmp 3)) 45 (qv_load rfl .auto (ldv_agg agg45 (extw_Key _) (Nat.le_of_ble_eq_true rfl))) ?_
    refine go_s0 (some 11) (.call { callee := .value (.func 62), args := #[.tmp 9, .tmp 10], argTypes := #[112, 45] }) 119 ?_
    refine os_pv rfl (pv_callR en62 rfl .auto (ct_refFindN (c := c) hn h' hk hf)) ?_
    refine go_q0 8 (.move (.tmp 11)) 119 (qv_move rfl) ?_
    refine go_q0 12 (.extract (.tmp 8) 0) 3 (qv_extract rfl rfl) ?_
    refine go_q0 13 (.extract (.tmp 8) 1) 3 (qv_extract rfl rfl) ?_
    refine go_q0 6 (.assign (.tmp 12)) 3 (qv_assign rfl) ?_
    refine go_q0 7 (.assign (.tmp 13)) 3 (qv_assign rfl) ?_
    refine go_nil ?_
    change G _ _ _ _
    refine p_weaken [0, 4, 5, 6] rfl ?_
    refine p_seq0 ?_
    refine p_seq0 ?_
    refine p_plain0 (0 :: 1 :: 2 :: 3 :: 4 :: 5 :: 6 :: 7 :: 8 :: 9 :: []) ?_
    refine go_q0 14 (.move (.tmp 6)) 3 (qv_move rfl) ?_
    refine go_q0 15 (.binOp .lss 3 (.tmp 14) (.const (.int .i64 0)) 3) 4 (qv_lss (b := true) rfl rfl (decide_eq_true (by omega))) ?_
    refine go_q0 16 (.move (.tmp 15)) 4 (qv_move rfl) ?_
    refine go_n (d := 17) (op := .move (.tmp 0)) (ty := 112) (g := some (2, false)) (by kernel_rfl) ⟨16, _, by kernel_rfl, rfl, rfl⟩ rfl ?_
    refine go_n (d := 18) (op := .move (.tmp 6)) (ty := 3) (g := some (2, false)) (by kernel_rfl) ⟨16, _, by kernel_rfl, rfl, rfl⟩ rfl ?_
    refine go_n (d := 19) (op := .indexAddr 112 (.tmp 17) (.tmp 18)) (ty := 0) (g := some (2, false)) (by kernel_rfl) ⟨16, _, by kernel_rfl, rfl, rfl⟩ rfl ?_
    refine go_n (d := 20) (op := .fieldAddr 195 (.tmp 19) 0) (ty := 0) (g := some (2, false)) (by kernel_rfl) ⟨16, _, by kernel_rfl, rfl, rfl⟩ rfl ?_
    refine go_n (d := 21) (op := .load 4 (.tmp 20)) (ty := 4) (g := some (2, false)) (by kernel_rfl) ⟨16, _, by kernel_rfl, rfl, rfl⟩ rfl ?_
    refine go_n (d := 22) (op := .unOp .not 4 (.tmp 21)) (ty := 4) (g := some (2, false)) (by kernel_rfl) ⟨16, _, by kernel_rfl, rfl, rfl⟩ rfl ?_
    refine go_q0 23 (.pick (.tmp 16) (.const (.bool true)) (.tmp 22)) 4 (qv_pick_t rfl rfl) ?_
    refine go_nil ?_
    change G _ _ _ _
    refine p_weaken [0, 4, 5, 6, 23] rfl ?_
    refine p_condT (.tmp 23) (by kernel_rfl) rfl ?_
    refine p_seq0 ?_
    refine p_plain0 (0 :: 1 :: []) ?_
    refine go_q0 4 (.assign (.const (.int .u64 0))) 30 (qv_assign rfl) ?_
    refine go_q0 5 (.assign (.const (.bool false))) 4 (qv_assign rfl) ?_
    refine go_nil ?_
    change G _ _ _ _
    refine p_weaken [0, 4, 5, 6] rfl ?_
    refine p_ret0 ?_
    try dsimp only [thenQ, inBlockQ]
    try rw [if_pos rfl]
    refine ret_left (M) (.inr rfl) (.cons (res_tmp rfl) (.cons (res_tmp rfl) .nil)) .auto ?_
    exact ⟨by simp only [getV, hasI, hf]; rfl, rfl⟩
  | some i =>
    have hpl := place_lt (n := L.length) (by omega) k i
    obtain ⟨x, hx⟩ : ∃ x, L[place L.length k i]? = some x := ⟨_, List.getElem?_eq_getElem hpl⟩
    refine ct_body (rv := [.tmp 4, .tmp 5]) [(0, _), (1, _)] Try.func61 (by kernel_rfl) Try.ntmps61 Try.results61 rfl rfl (fun w0 => ?_)
    refine p_seq0 ?_
    refine p_plain0 (0 :: 1 :: 2 :: []) ?_
    refine go_s0 (some 3) (.box 45 (.tmp 1)) 0 ?_
    refine os_boxA rfl rfl (fun b3 => ?_)
    refine go_q0 4 (.assign (.const (.int .u64 0))) 30 (qv_assign rfl) ?_
    refine go_q0 5 (.assign (.const (.bool false))) 4 (qv_assign rfl) ?_
    refine go_nil ?_
    change G _ _ _ _
    refine p_weaken [0, 3, 4, 5] rfl ?_
    refine p_seq0 ?_
    refine p_plain0 (0 :: 1 :: 2 :: 3 :: 4 :: 5 :: 6 :: 7 :: []) ?_
    refine go_q0 9 (.move (.tmp 0)) 112 (qv_move rfl) ?_
    refine go_q0 10 (.load 45 (.tmp 3)) 45 (qv_load rfl .auto (ldv_agg agg45 (extw_Key _) (Nat.le_of_ble_eq_true rfl))) ?_
    refine go_s0 (some 11) (.call { callee := .value (.func 62), args := #[.tmp 9, .tmp 10], argTypes := #[112, 45] }) 119 ?_
    refine os_pv rfl (pv_callR en62 rfl .auto (ct_refFindS (c := c) hn h' hk hf)) ?_
    refine go_q0 8 (.move (.tmp 11)) 119 (qv_move rfl) ?_
    refine go_q0 12 (.extract (.tmp 8) 0) 3 (qv_extract rfl rfl) ?_
    refine go_q0 13 (.extract (.tmp 8) 1) 3 (qv_extract rfl rfl) ?_
    refine go_q0 6 (.assign (.tmp 12)) 3 (qv_assign rfl) ?_
    refine go_q0 7 (.assign (.tmp 13)) 3 (qv_assign rfl) ?_
    refine go_nil ?_
    change G _ _ _ _
    refine p_weaken [0, 4, 5, 6] rfl ?_
    refine p_seq0 ?_
    refine p_seq0 ?_
    refine p_plain0 (0 :: 1 :: 2 :: 3 :: 4 :: 5 :: 6 :: 7 :: 8 :: 9 :: []) ?_
    refine go_q0 14 (.move (.tmp 6)) 3 (qv_move rfl) ?_
    refine go_q0 15 (.binOp .lss 3 (.tmp 14) (.const (.int .i64 0)) 3) 4 (qv_lss (b := false) rfl rfl (decide_eq_false (by omega))) ?_
    refine go_q0 16 (.move (.tmp 15)) 4 (qv_move rfl) ?_
    refine go_q (d := 17) (op := .move (.tmp 0)) (ty := 112) (g := some (2, false)) (by kernel_rfl) ⟨16, by kernel_rfl, rfl⟩ rfl (qv_move rfl) ?_
    refine go_q (d := 18) (op := .move (.tmp 6)) (ty := 3) (g := some (2, false)) (by kernel_rfl) ⟨16, by kernel_rfl, rfl⟩ rfl (qv_move rfl) ?_
    refine go_q (d := 19) (op := .indexAddr 112 (.tmp 17) (.tmp 18)) (ty := 0) (g := some (2, false)) (by kernel_rfl) ⟨16, by kernel_rfl, rfl⟩ rfl (qv_index un112 sz195 rfl rfl rfl hpl) ?_
    refine go_q (d := 20) (op := .fieldAddr 195 (.tmp 19) 0) (ty := 0) (g := some (2, false)) (by kernel_rfl) ⟨16, by kernel_rfl, rfl⟩ rfl (qv_field rfl fd195_0) ?_
    refine go_q (d := 21) (op := .load 4 (.tmp 20)) (ty := 4) (g := some (2, false)) (by kernel_rfl) ⟨16, by kernel_rfl, rfl⟩ rfl (qv_load rfl (At.of_mem (by repeat first | exact m | exact List.mem_append_left _ m | apply List.mem_cons_of_mem | apply List.mem_append_right)) (ldv_el H hx sc4 (get_Slot_0 x) rfl)) ?_
    refine go_q (d := 22) (op := .unOp .not 4 (.tmp 21)) (ty := 4) (g := some (2, false)) (by kernel_rfl) ⟨16, by kernel_rfl, rfl⟩ rfl (qv_not rfl) ?_
    refine go_q0 23 (.pick (.tmp 16) (.const (.bool true)) (.tmp 22)) 4 (qv_pick_f rfl rfl) ?_
    refine go_nil ?_
    change G _ _ _ _
    refine p_weaken [0, 4, 5, 6, 23] rfl ?_
    refine p_cond (.tmp 23) (by kernel_rfl) rfl (fun h23 => ?_) (fun h23 => ?_)
    · replace h23 := kn h23
      refine p_seq0 ?_
      refine p_plain0 (0 :: 1 :: []) ?_
      refine go_q0 4 (.assign (.const (.int .u64 0))) 30 (qv_assign rfl) ?_
      refine go_q0 5 (.assign (.const (.bool false))) 4 (qv_assign rfl) ?_
      refine go_nil ?_
      change G _ _ _ _
      refine p_weaken [0, 4, 5, 6] rfl ?_
      refine p_ret0 ?_
      try dsimp only [thenQ, inBlockQ]
      try rw [if_pos rfl]
      refine ret_left (M) (.inr rfl) (.cons (res_tmp rfl) (.cons (res_tmp rfl) .nil)) .auto ?_
      exact ⟨by simp [getV, hasI, hf, hx, h23, E.valOf], rfl⟩
    replace h23 := kn h23
    refine p_skip0 ?_
    change G _ _ _ _
    refine p_weaken [0, 4, 5, 6] rfl ?_
    refine p_seq0 ?_
    refine p_plain0 (0 :: 1 :: 2 :: 3 :: 4 :: 5 :: 6 :: []) ?_
    refine go_q0 24 (.move (.tmp 0)) 112 (qv_move rfl) ?_
    refine go_q0 25 (.move (.tmp 6)) 3 (qv_move rfl) ?_
    refine go_q0 26 (.indexAddr 112 (.tmp 24) (.tmp 25)) 0 (qv_index un112 sz195 rfl rfl rfl hpl) ?_
    refine go_q0 27 (.fieldAddr 195 (.tmp 26) 2) 0 (qv_field rfl fd195_2) ?_
    refine go_q0 28 (.load 30 (.tmp 27)) 30 (qv_load rfl (At.of_mem (by repeat first | exact m | exact List.mem_append_left _ m | apply List.mem_cons_of_mem | apply List.mem_append_right)) (ldv_el H hx sc30 (get_Slot_38 x) rfl)) ?_
    refine go_q0 4 (.assign (.tmp 28)) 30 (qv_assign rfl) ?_
    refine go_q0 5 (.assign (.const (.bool true))) 4 (qv_assign rfl) ?_
    refine go_nil ?_
    change G _ _ _ _
    refine p_weaken [4, 5] rfl ?_
    refine p_ret0 ?_
    try dsimp only [thenQ, inBlockQ]
    try rw [if_pos rfl]
    refine ret_left (M) (.inr rfl) (.cons (res_tmp rfl) (.cons (res_tmp rfl) .nil)) .auto ?_
    exact ⟨by simp [getV, hasI, hf, hx, h23, E.valOf], rfl⟩
theorem ct_refPut {M : Mem} {p : Option Addr} {c : Nat} {L : List Slot} {k : Key} {n many : Int} (hn : Pow L.length) (h : Lst eSlot p L M) (hk : k.Wf) :
    Ct Try.prog 60 [.slice p L.length c, .agg k.c, .int .u64 n].toArray M (fun v M' => ∃ p' c' B, v = .tuple #[.slice p' L.length c', .int .i64 (putR L k n many).1] ∧ Lst eSlot p' (putR L k n many).2.1 (B ++ M) ∧ M' = B ++ M) := by
  have hp := hn.pos
  have hle := hn.le
  cases hf : findI L k with
  | none =>
    refine ct_body (rv := [.tmp 6, .tmp 7]) [(0, _), (1, _), (2, _)] Try.func60 (by kernel_rfl) Try.ntmps60 Try.results60 rfl rfl (fun w0 => ?_)
    refine p_seq0 ?_
    refine p_plain0 (0 :: 1 :: 2 :: []) ?_
    refine go_s0 (some 4) (.box 45 (.tmp 1)) 0 ?_
    refine os_boxA rfl rfl (fun b4 => ?_)
    refine go_q0 6 (.assign (.const (.slice none 0 0))) 112 (qv_assign rfl) ?_
    refine go_q0 7 (.assign (.const (.int .i64 0))) 61 (qv_assign rfl) ?_
    refine go_nil ?_
    change G _ _ _ _
    refine p_weaken [0, 2, 4, 6, 7] rfl ?_
    refine p_seq0 ?_
    refine p_seq0 ?_
    refine p_plain0 (0 :: 1 :: 2 :: []) ?_
    refine go_q0 10 (.load 45 (.tmp 4)) 45 (qv_load rfl .auto (ldv_agg agg45 (extw_Key _) (Nat.le_of_ble_eq_true rfl))) ?_
    refine go_s0 (some 11) (.call { callee := .value (.func 86), args := #[.tmp 10], argTypes := #[45] }) 4 ?_
    refine os_callP rfl en86 rfl (pu_refKeyRight k) ?_
    refine go_q0 12 (.unOp .not 4 (.tmp 11)) 4 (qv_not rfl) ?_
    refine go_nil ?_
    change G _ _ _ _
    refine p_weaken [0, 2, 4, 6, 7, 12] rfl ?_
    refine p_cond (.tmp 12) (by kernel_rfl) rfl (fun h12 => ?_) (fun h12 => ?_)
    · replace h12 := kn h12
      refine p_seq0 ?_
      refine p_plain0 (0 :: 1 :: 2 :: []) ?_
      refine go_q0 13 (.move (.tmp 0)) 112 (qv_move rfl) ?_
      refine go_q0 6 (.assign (.tmp 13)) 112 (qv_assign rfl) ?_
      refine go_q0 7 (.assign (.const (.int .i64 2))) 61 (qv_assign rfl) ?_
      refine go_nil ?_
      change G _ _ _ _
      refine p_weaken [0, 2, 4, 6, 7] rfl ?_
      refine p_ret0 ?_
      try dsimp only [thenQ, inBlockQ]
      try rw [if_pos rfl]
      refine ret_left (M) (.inr rfl) (.cons (res_tmp rfl) (.cons (res_tmp rfl) .nil)) .auto ?_
      exact ⟨p, c, [], by simp [putR, hf, h12, E.valOf], by simpa [putR, hf, h12] using h, rfl⟩
    replace h12 := kn h12
    refine p_skip0 ?_
    change G _ _ _ _
    refine p_weaken [0, 2, 4, 6, 7] rfl ?_
    refine p_seq0 ?_
    refine p_plain0 (0 :: 1 :: 2 :: 3 :: 4 :: 5 :: 6 :: 7 :: []) ?_
    refine go_q0 15 (.move (.tmp 0)) 112 (qv_move rfl) ?_
    refine go_q0 16 (.load 45 (.tmp 4)) 45 (qv_load rfl .auto (ldv_agg agg45 (extw_Key _) (Nat.le_of_ble_eq_true rfl))) ?_
    refine go_s0 (some 17) (.call { callee := .value (.func 62), args := #[.tmp 15, .tmp 16], argTypes := #[112, 45] }) 119 ?_
    refine os_pv rfl (pv_callR en62 rfl .auto (ct_refFindN (c := c) hn h hk hf)) ?_
    refine go_q0 14 (.move (.tmp 17)) 119 (qv_move rfl) ?_
    refine go_q0 18 (.extract (.tmp 14) 0) 3 (qv_extract rfl rfl) ?_
    refine go_q0 19 (.extract (.tmp 14) 1) 3 (qv_extract rfl rfl) ?_
    refine go_q0 8 (.assign (.tmp 18)) 3 (qv_assign rfl) ?_
    refine go_q0 9 (.assign (.tmp 19)) 3 (qv_assign rfl) ?_
    refine go_nil ?_
    change G _ _ _ _
    refine p_weaken [0, 2, 4, 6, 7, 8] rfl ?_
    refine p_seq0 ?_
    refine p_seq0 ?_
    refine p_plain0 (0 :: 1 :: []) ?_
    refine go_q0 20 (.move (.tmp 8)) 3 (qv_move rfl) ?_
    refine go_q0 21 (.binOp .lss 3 (.tmp 20) (.const (.int .i64 0)) 3) 4 (qv_lss (b := true) rfl rfl (decide_eq_true (by omega))) ?_
    refine go_nil ?_
    change G _ _ _ _
    refine p_weaken [0, 2, 4, 6, 7, 8, 21] rfl ?_
    refine p_condT (.tmp 21) (by kernel_rfl) rfl ?_
    refine p_seq0 ?_
    refine p_plain0 (0 :: 1 :: 2 :: []) ?_
    refine go_q0 22 (.move (.tmp 0)) 112 (qv_move rfl) ?_
    refine go_q0 6 (.assign (.tmp 22)) 112 (qv_assign rfl) ?_
    refine go_q0 7 (.assign (.const (.int .i64 230))) 61 (qv_assign rfl) ?_
    refine go_nil ?_
    change G _ _ _ _
    refine p_weaken [0, 2, 4, 6, 7, 8] rfl ?_
    refine p_ret0 ?_
    try dsimp only [thenQ, inBlockQ]
    try rw [if_pos rfl]
    refine ret_left (M) (.inr rfl) (.cons (res_tmp rfl) (.cons (res_tmp rfl) .nil)) .auto ?_
    exact ⟨p, c, [], by simp [putR, hf, h12, E.valOf], by simpa [putR, hf, h12] using h, rfl⟩
  | some i =>
    have hpl := place_lt (n := L.length) (by omega) k i
    refine ct_body (rv := [.tmp 6, .tmp 7]) [(0, _), (1, _), (2, _)] Try.func60 (by kernel_rfl) Try.ntmps60 Try.results60 rfl rfl (fun w0 => ?_)
    refine p_seq0 ?_
    refine p_plain0 (0 :: 1 :: 2 :: []) ?_
    refine go_s0 (some 4) (.box 45 (.tmp 1)) 0 ?_
    refine os_boxA rfl rfl (fun b4 => ?_)
    refine go_q0 6 (.assign (.const (.slice none 0 0))) 112 (qv_assign rfl) ?_
    refine go_q0 7 (.assign (.const (.int .i64 0))) 61 (qv_assign rfl) ?_
    refine go_nil ?_
    change G _ _ _ _
    refine p_weaken [0, 2, 4, 6, 7] rfl ?_
    refine p_seq0 ?_
    refine p_seq0 ?_
    refine p_plain0 (0 :: 1 :: 2 :: []) ?_
    refine go_q0 10 (.load 45 (.tmp 4)) 45 (qv_load rfl .auto (ldv_agg agg45 (extw_Key _) (Nat.le_of_ble_eq_true rfl))) ?_
    refine go_s0 (some 11) (.call { callee := .value (.func 86), args := #[.tmp 10], argTypes := #[45] }) 4 ?_
    refine os_callP rfl en86 rfl (pu_refKeyRight k) ?_
    refine go_q0 12 (.unOp .not 4 (.tmp 11)) 4 (qv_not rfl) ?_
    refine go_nil ?_
    change G _ _ _ _
    refine p_weaken [0, 2, 4, 6, 7, 12] rfl ?_
    refine p_cond (.tmp 12) (by kernel_rfl) rfl (fun h12 => ?_) (fun h12 => ?_)
    · replace h12 := kn h12
      refine p_seq0 ?_
      refine p_plain0 (0 :: 1 :: 2 :: []) ?_
      refine go_q0 13 (.move (.tmp 0)) 112 (qv_move rfl) ?_
      refine go_q0 6 (.assign (.tmp 13)) 112 (qv_assign rfl) ?_
      refine go_q0 7 (.assign (.const (.int .i64 2))) 61 (qv_assign rfl) ?_
      refine go_nil ?_
      change G _ _ _ _
      refine p_weaken [0, 2, 4, 6, 7] rfl ?_
      refine p_ret0 ?_
      try dsimp only [thenQ, inBlockQ]
      try rw [if_pos rfl]
      refine ret_left (M) (.inr rfl) (.cons (res_tmp rfl) (.cons (res_tmp rfl) .nil)) .auto ?_
      exact ⟨p, c, [], by simp [putR, h12, E.valOf], by simpa [putR, h12] using h, rfl⟩
    replace h12 := kn h12
    refine p_skip0 ?_
    change G _ _ _ _
    refine p_weaken [0, 2, 4, 6, 7] rfl ?_
    refine p_seq0 ?_
    refine p_plain0 (0 :: 1 :: 2 :: 3 :: 4 :: 5 :: 6 :: 7 :: []) ?_
    refine go_q0 15 (.move (.tmp 0)) 112 (qv_move rfl) ?_
    refine go_q0 16 (.load 45 (.tmp 4)) 45 (qv_load rfl .auto (ldv_agg agg45 (extw_Key _) (Nat.le_of_ble_eq_true rfl))) ?_
    refine go_s0 (some 17) (.call { callee := .value (.func 62), args := #[.tmp 15, .tmp 16], argTypes := #[112, 45] }) 119 ?_
    refine os_pv rfl (pv_callR en62 rfl .auto (ct_refFindS (c := c) hn h hk hf)) ?_
    refine go_q0 14 (.move (.tmp 17)) 119 (qv_move rfl) ?_
    refine go_q0 18 (.extract (.tmp 14) 0) 3 (qv_extract rfl rfl) ?_
    refine go_q0 19 (.extract (.tmp 14) 1) 3 (qv_extract rfl rfl) ?_
    refine go_q0 8 (.assign (.tmp 18)) 3 (qv_assign rfl) ?_
    refine go_q0 9 (.assign (.tmp 19)) 3 (qv_assign rfl) ?_
    refine go_nil ?_
    change G _ _ _ _
    refine p_weaken [0, 2, 4, 6, 7, 8] rfl ?_
    refine p_seq0 ?_
    refine p_seq0 ?_
    refine p_plain0 (0 :: 1 :: []) ?_
    refine go_q0 20 (.move (.tmp 8)) 3 (qv_move rfl) ?_
    refine go_q0 21 (.binOp .lss 3 (.tmp 20) (.const (.int .i64 0)) 3) 4 (qv_lss (b := false) rfl rfl (decide_eq_false (by omega))) ?_
    refine go_nil ?_
    change G _ _ _ _
    refine p_weaken [0, 2, 4, 6, 7, 8, 21] rfl ?_
    refine p_condF (.tmp 21) (by kernel_rfl) rfl ?_
    refine p_skip0 ?_
    change G _ _ _ _
    refine p_weaken [0, 2, 4, 6, 7, 8] rfl ?_
    refine p_seq0 ?_
    refine p_plain0 (0 :: 1 :: 2 :: 3 :: 4 :: 5 :: 6 :: 7 :: []) ?_
    refine go_q0 23 (.move (.tmp 0)) 112 (qv_move rfl) ?_
    refine go_q0 24 (.move (.tmp 8)) 3 (qv_move rfl) ?_
    refine go_q0 25 (.load 45 (.tmp 4)) 45 (qv_load rfl .auto (ldv_agg agg45 (extw_Key _) (Nat.le_of_ble_eq_true rfl))) ?_
    refine go_q0 26 (.move (.tmp 2)) 30 (qv_move rfl) ?_
    refine go_q0 27 (.build 195 #[(0, .const (.bool true)), (1, .tmp 25), (2, .tmp 26)]) 195 (qv_build rfl (bld195_0_1_2 _ _ _)) ?_
    refine go_s0 (some 28) (.call { callee := .value (.func 114), args := #[.tmp 23, .tmp 24, .tmp 27], argTypes := #[112, 3, 195] }) 112 ?_
    refine os_call (Nat.le_of_ble_eq_true rfl) en114 rfl (by exact Sel.skip Sel.all) (ct_refWith (c := c) (x := ⟨true, k, n⟩) hle h hpl) ?_
    rintro v28 A28 ⟨p2, c2, B, rfl, hB, rfl⟩
    try dsimp only [List.nil_append, List.cons_append]
    refine go_q0 6 (.assign (.tmp 28)) 112 (qv_assign rfl) ?_
    refine go_q0 7 (.assign (.const (.int .i64 0))) 61 (qv_assign rfl) ?_
    refine go_nil ?_
    change G _ _ _ _
    refine p_weaken [6, 7] rfl ?_
    refine p_ret0 ?_
    try dsimp only [thenQ, inBlockQ]
    try rw [if_pos rfl]
    refine ret_left (B ++ M) (.inr rfl) (.cons (res_tmp rfl) (.cons (res_tmp rfl) .nil)) .auto ?_
    exact ⟨p2, c2, B, by simp [putR, hf, h12, E.valOf], by simpa [putR, hf, h12] using hB.left, rfl⟩
end Go.Proofs.Ytobmcpoejhhemaa
