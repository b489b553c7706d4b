import Derived.Test.YtobmcpoejhhemaaGreatKCacV
namespace Go.Proofs.YtobmcpoejhhemaaGreat
open Go.E

theorem list_part {β : Type} (pre x post v x' : List β) (k : Nat) (hk : k + v.length ≤ x.length) (hx : x.take k ++ v ++ x.drop (k + v.length) = x') :
    (pre ++ (x ++ post)).take (pre.length + k) ++ v ++ (pre ++ (x ++ post)).drop (pre.length + k + v.length) = (pre ++ (x ++ post)).take pre.length ++ x' ++ (pre ++ (x ++ post)).drop (pre.length + x.length) := by
  rw [List.take_length_add_append, Nat.add_assoc, List.drop_length_add_append, List.take_append_of_le_length (by omega), List.drop_append_of_le_length hk, List.take_left, List.drop_length_add_append, List.drop_left, ← hx]
  simp [List.append_assoc]
/-- A part of an element is written over. -/
theorem splice_part {α : Type} {E : Enc α} {cur : Array Value} {l : List α} {i k : Nat} {a a' : α} {vs : Array Value} (hn : 0 < E.n) (h : Holds E cur 0 l) (hi : l[i]? = some a) (hk : k + vs.size ≤ E.n) (ha : splice (E.c a) k vs = E.c a') :
    splice cur (0 + i * E.n + k) vs = splice cur (0 + i * E.n) (E.c a') := by
  have he := h.elem hi
  have hf := h.fits hi hn
  rw [Nat.zero_add] at he hf ⊢
  have hx : (E.c a).toList.length = E.n := by simpa using E.sz a
  have hx' : (E.c a').toList.length = E.n := by simpa using E.sz a'
  have hp : (cur.toList.take (i * E.n)).length = i * E.n := by rw [List.length_take, Array.length_toList]; omega
  have e : cur.toList = cur.toList.take (i * E.n) ++ ((E.c a).toList ++ cur.toList.drop (i * E.n + E.n)) := by
    rw [← he, ← List.drop_drop, List.take_append_drop, List.take_append_drop]
  have h1 := list_part (cur.toList.take (i * E.n)) (E.c a).toList (cur.toList.drop (i * E.n + E.n)) vs.toList (E.c a').toList k (by rw [hx]; simpa using hk) (by rw [← ha]; unfold splice; simp)
  rw [← e, hp, hx] at h1
  unfold splice
  rw [show (E.c a').size = E.n from E.sz a', show vs.size = vs.toList.length by simp]
  exact congrArg List.toArray h1

theorem no_succ {S : List Sum24} {k : Key} {i : Nat} {x : Sum24} (hno : ∀ j u, j < i → S[j]? = some u → u.key ≠ k) (hx : S[i]? = some x) (h : ¬ x.key = k) : ∀ j u, j < i + 1 → S[j]? = some u → u.key ≠ k := fun j u hj hu => by
  rcases Nat.lt_or_ge j i with h1 | h1
  · exact hno j u h1 hu
  · have : j = i := by omega
    subst this
    rw [hx] at hu
    cases hu
    exact h
theorem ct_add {p : Option Addr} {cap : Nat} {S : List Sum24} {A : Mem} {k : Key} {t : Tot} (hO : OwnL eSum24 119 p cap S A) (hl : S.length ≤ 1000000) (hb : ∀ s ∈ S, s.key = k → InK .u64 (s.total.packets + t.packets) ∧ InK .u64 (s.total.bytes + t.bytes)) :
    Ct Tryz.prog 22 [.slice p S.length cap, .agg k.c, .agg t.c].toArray A (fun v M' => ∃ q cq B, v = .slice q (addS S k t).length cq ∧ OwnL eSum24 119 q cq (addS S k t) B ∧ M' = B) := by
  refine ct_body (rv := [.tmp 6]) [(0, _), (1, _), (2, _)] Tryz.func22 (by kernel_rfl) Tryz.ntmps22 Tryz.results22 rfl rfl (fun w0 => ?_)
  refine p_seq0 ?_
  refine p_plain0 (0 :: 1 :: 2 :: []) ?_
  refine go_s0 (some 4) (.box 29 (.tmp 1)) 0 ?_
  refine os_boxA rfl rfl (fun b4 => ?_)
  refine go_s0 (some 5) (.box 65 (.tmp 2)) 0 ?_
  refine os_boxA rfl rfl (fun b5 => ?_)
  refine go_q0 6 (.assign (.const (.slice none 0 0))) 54 (qv_assign rfl) ?_
  refine go_nil ?_
  change G _ _ _ _
  refine p_weaken [0, 4, 5, 6] rfl ?_
  refine p_seq0 ?_
  refine p_seq0 ?_
  refine p_plain0 (0 :: []) ?_
  refine go_q0 7 (.assign (.const (.int .i64 0))) 3 (qv_assign rfl) ?_
  refine go_nil ?_
  change G _ _ _ _
  refine p_block 0 (by kernel_rfl) ?_
  refine p_loopE (by kernel_rfl) (fun s m => ∃ (i : Nat), (i ≤ S.length) ∧ (∀ j u, j < i → S[j]? = some u → u.key ≠ k) ∧ Ge s ⟨[], [(0, .slice p S.length cap), (4, .pointer (some ⟨b4, 0, none⟩)), (5, .pointer (some ⟨b5, 0, none⟩)), (6, .slice none 0 0), (7, .int .i64 i)], (b4, .cells k.c 29 (0, 0)) :: (b5, .cells t.c 65 (0, 0)) :: A⟩ ∧ m = S.length + 1 - i) ?_ ?_
  · exact ⟨_, ⟨0, by omega, fun j u hj => absurd hj (by omega), ⟨rfl, ⟨[0, 4, 5, 6, 7], rfl⟩, .auto⟩, rfl⟩⟩
  rintro s m ⟨i, hi, hno, hs, rfl⟩
  refine ge_ok hs ?_
  refine p_seq0 ?_
  refine p_seq0 ?_
  refine p_plain0 (0 :: 1 :: 2 :: 3 :: []) ?_
  refine go_q0 8 (.move (.tmp 7)) 3 (qv_move rfl) ?_
  refine go_q0 9 (.move (.tmp 0)) 54 (qv_move rfl) ?_
  refine go_q0 10 (.call { callee := .builtin .len, args := #[.tmp 9], argTypes := #[54] }) 3 (qv_lenS un54 rfl) ?_
  refine go_q0 11 (.binOp .lss 3 (.tmp 8) (.tmp 10) 3) 4 (qv_lss rfl rfl rfl) ?_
  refine go_nil ?_
  change G _ _ _ _
  refine p_weaken [0, 4, 5, 6, 7, 11] rfl ?_
  refine p_cond (.tmp 11) (by kernel_rfl) rfl (fun h11 => ?_) (fun h11 => ?_)
  rotate_left
  · replace h11 := kn h11
    refine p_exit 0 (by kernel_rfl) ?_
    change G _ _ _ _
    refine p_weaken [0, 4, 5, 6] rfl ?_
    refine p_seq0 ?_
    refine p_plain0 (0 :: 1 :: 2 :: 3 :: 4 :: 5 :: 6 :: []) ?_
    refine go_q0 45 (.move (.tmp 0)) 54 (qv_move rfl) ?_
    refine go_q0 46 (.load 29 (.tmp 4)) 29 (qv_load rfl .auto (ldv_agg agg29 (extw_Key _) (Nat.le_of_ble_eq_true rfl))) ?_
    refine go_q0 47 (.load 65 (.tmp 5)) 65 (qv_load rfl .auto (ldv_agg agg65 (extw_Tot _) (Nat.le_of_ble_eq_true rfl))) ?_
    refine go_q0 48 (.build 119 #[(0, .tmp 46), (1, .tmp 47)]) 119 (qv_build (v := .agg (⟨k, t⟩ : Sum24).c) rfl (fun w => by kernel_rfl)) ?_
    refine go_s0 (some 49) (.buildSlice 54 1 #[(0, .tmp 48)]) 54 ?_
    refine os_buildSlice (Nat.le_of_ble_eq_true rfl) rfl (bls54_1 _) (fun b49 => ?_)
    refine go_s0 (some 50) (.call { callee := .builtin .append, args := #[.tmp 45, .tmp 49], argTypes := #[54, 54] }) 54 ?_
    refine os_appendK (E := eSum24) (l := S) (l2 := [⟨k, t⟩]) rfl el54 rfl rfl rfl rfl (hO) .auto .auto (Go.E.holds_one _) (one_Sum24) (by simp [maxLen] <;> omega) (by simp <;> omega) (fun p50 c50 A50 h50 => ?_)
    refine go_q0 6 (.assign (.tmp 50)) 54 (qv_assign rfl) ?_
    refine go_nil ?_
    change G _ _ _ _
    refine p_weaken [6] rfl ?_
    refine p_ret0 ?_
    try dsimp only [thenQ, inBlockQ]
    try rw [if_pos rfl]
    refine ret_left (A50) (.inr rfl) (.cons (res_tmp rfl) .nil) .auto ?_
    have hfi := addS_new (t := t) (S := S) (k := k) fun j u hj hu => hno j u (by omega) hu
    exact ⟨p50, c50, A50, by rw [hfi]; rfl, by rw [hfi]; exact h50, rfl⟩
  replace h11 := kn h11
  refine p_skip0 ?_
  change G _ _ _ _
  refine p_weaken [0, 4, 5, 6, 7] rfl ?_
  refine p_seq0 ?_
  refine p_block 1 (by kernel_rfl) ?_
  refine p_seq0 ?_
  obtain ⟨b, cur, rfl, rfl, hc1, hc2, hc3, H⟩ := hO.some_ (by omega)
  obtain ⟨x, hx⟩ : ∃ x, S[i]? = some x := ⟨_, List.getElem?_eq_getElem (by omega)⟩
  have hxm := List.mem_of_getElem? hx
  refine p_draw (by kernel_rfl) mixed 7 7 _ (fun _ h => h) (by kernel_rfl) ?_
  refine gd_all (0 :: 1 :: 2 :: 3 :: 4 :: 5 :: 6 :: []) _ rfl (by kernel_rfl) (by decide) (fun _ h => h) rfl ?_
  refine sq_q0 14 (.move (.tmp 0)) 54 (qv_move rfl) ?_
  refine sq_q0 15 (.move (.tmp 7)) 3 (qv_move rfl) ?_
  refine sq_q0 16 (.indexAddr 54 (.tmp 14) (.tmp 15)) 0 (qv_index un54 sz119 rfl rfl rfl (by omega)) ?_
  refine sq_q0 17 (.fieldAddr 119 (.tmp 16) 0) 0 (qv_field rfl fd119_0) ?_
  refine sq_q0 18 (.load 29 (.tmp 17)) 29 (qv_load rfl .auto (ldv_elp H hx agg29 (ext_Sum24_0_37 _) (by decide) (by decide) rfl)) ?_
  refine sq_q0 19 (.load 29 (.tmp 4)) 29 (qv_load rfl .auto (ldv_agg agg29 (extw_Key _) (Nat.le_of_ble_eq_true rfl))) ?_
  refine sq_q0 20 (.binOp .eql 29 (.tmp 18) (.tmp 19) 29) 4 (qv_eql_29 rfl rfl rfl) ?_
  refine SeqK.nil (fun β => ?_)
  refine gd_tail [] rfl (by kernel_rfl) (by kernel_rfl) ?_
  refine go_nil ?_
  change G _ _ _ _
  refine p_weaken [0, 4, 5, 6, 7, 20] rfl ?_
  refine p_cond (.tmp 20) (by kernel_rfl) rfl (fun h20 => ?_) (fun h20 => ?_)
  rotate_left
  · replace h20 := kn h20
    refine p_skip0 ?_
    change G _ _ _ _
    refine p_weaken [0, 4, 5, 6, 7] rfl ?_
    refine p_plain0 (0 :: 1 :: 2 :: []) ?_
    refine go_q0 12 (.move (.tmp 7)) 3 (qv_move rfl) ?_
    refine go_q0 13 (.binOp .add 3 (.tmp 12) (.const (.int .i64 1)) 3) 3 (qv_add rfl rfl (by first | exact IntWalk.i64_in _ (by omega) | exact IntWalk.i64_in _ (by dsimp only; omega) | rfl)) ?_
    refine go_q0 7 (.assign (.tmp 13)) 3 (qv_assign rfl) ?_
    refine go_nil ?_
    exact ⟨_, ⟨i + 1, by omega, no_succ hno hx h20, ⟨rfl, ⟨[0, 4, 5, 6, 7], rfl⟩, .auto⟩, rfl⟩, by omega⟩
  replace h20 := kn h20
  refine p_seq0 ?_
  refine p_draw (by kernel_rfl) mixed 23 24 _ (fun _ h => h) (by kernel_rfl) ?_
  refine gd_all (0 :: 1 :: 2 :: 3 :: 4 :: 5 :: 6 :: 7 :: 8 :: 9 :: 10 :: 11 :: 12 :: 13 :: 14 :: 15 :: 16 :: 17 :: 18 :: 19 :: 20 :: 21 :: 22 :: []) _ rfl (by kernel_rfl) (by decide) (fun _ h => h) rfl ?_
  refine sq_q0 21 (.move (.tmp 0)) 54 (qv_move rfl) ?_
  refine sq_q0 22 (.move (.tmp 7)) 3 (qv_move rfl) ?_
  refine sq_q0 23 (.move (.tmp 0)) 54 (qv_move rfl) ?_
  refine sq_q0 24 (.move (.tmp 7)) 3 (qv_move rfl) ?_
  refine sq_q0 25 (.indexAddr 54 (.tmp 23) (.tmp 24)) 0 (qv_index un54 sz119 rfl rfl rfl (by omega)) ?_
  refine sq_q0 26 (.fieldAddr 119 (.tmp 25) 1) 0 (qv_field rfl fd119_1) ?_
  refine sq_q0 27 (.fieldAddr 65 (.tmp 26) 0) 0 (qv_field rfl fd65_0) ?_
  refine sq_q0 28 (.load 23 (.tmp 27)) 23 (qv_load rfl .auto (ldv_el H hx sc23 (get_Sum24_37 _) rfl)) ?_
  refine sq_q0 29 (.fieldAddr 65 (.tmp 5) 0) 0 (qv_field rfl fd65_0) ?_
  refine sq_q0 30 (.load 23 (.tmp 29)) 23 (qv_load rfl .auto (ldv_sca sc23 (get_Tot_0 _))) ?_
  refine sq_q0 31 (.binOp .add 23 (.tmp 28) (.tmp 30) 23) 23 (qv_add rfl rfl (IntWalk.u64_in _ (hb x hxm h20).1)) ?_
  refine sq_q0 32 (.move (.tmp 0)) 54 (qv_move rfl) ?_
  refine sq_q0 33 (.move (.tmp 7)) 3 (qv_move rfl) ?_
  refine sq_q0 34 (.indexAddr 54 (.tmp 32) (.tmp 33)) 0 (qv_index un54 sz119 rfl rfl rfl (by omega)) ?_
  refine sq_q0 35 (.fieldAddr 119 (.tmp 34) 1) 0 (qv_field rfl fd119_1) ?_
  refine sq_q0 36 (.fieldAddr 65 (.tmp 35) 1) 0 (qv_field rfl fd65_1) ?_
  refine sq_q0 37 (.load 23 (.tmp 36)) 23 (qv_load rfl .auto (ldv_el H hx sc23 (get_Sum24_38 _) rfl)) ?_
  refine sq_q0 38 (.fieldAddr 65 (.tmp 5) 1) 0 (qv_field rfl fd65_1) ?_
  refine sq_q0 39 (.load 23 (.tmp 38)) 23 (qv_load rfl .auto (ldv_sca sc23 (get_Tot_1 _))) ?_
  refine sq_q0 40 (.binOp .add 23 (.tmp 37) (.tmp 39) 23) 23 (qv_add rfl rfl (IntWalk.u64_in _ (hb x hxm h20).2)) ?_
  refine sq_q0 41 (.build 65 #[(0, .tmp 31), (1, .tmp 40)]) 65 (qv_build (v := .agg (tadd x.total t).c) rfl (fun w => by kernel_rfl)) ?_
  refine sq_q0 42 (.indexAddr 54 (.tmp 21) (.tmp 22)) 0 (qv_index un54 sz119 rfl rfl rfl (by omega)) ?_
  refine sq_q0 43 (.fieldAddr 119 (.tmp 42) 1) 0 (qv_field rfl fd119_1) ?_
  refine SeqK.nil (fun β => ?_)
  refine gd_tail [23] rfl (by kernel_rfl) (by kernel_rfl) ?_
  refine go_s0 none (.store 65 (.tmp 43) (.tmp 41)) 0 ?_
  refine os_store rfl rfl sz65 rfl (one_Tot _) .auto (Nat.le_trans (by omega : 0 + i * 39 + 37 + 2 ≤ 0 + i * 39 + 39) (own_fit (E := eSum24) hc1 hc3 (show i < S.length by omega))) rfl ?_
  refine go_nil ?_
  change G _ _ _ _
  refine p_weaken [0, 4, 5, 6, 7] rfl ?_
  refine p_seq0 ?_
  refine p_plain0 (0 :: 1 :: []) ?_
  refine go_q0 44 (.move (.tmp 0)) 54 (qv_move rfl) ?_
  refine go_q0 6 (.assign (.tmp 44)) 54 (qv_assign rfl) ?_
  refine go_nil ?_
  change G _ _ _ _
  refine p_weaken [0, 4, 5, 6, 7] rfl ?_
  refine p_ret0 ?_
  try dsimp only [thenQ, inBlockQ]
  try rw [if_pos rfl]
  refine ret_left ([(b, .cells (splice cur (0 + i * 39 + 37) (tadd x.total t).c) 119 (0, 0))]) (.inr rfl) (.cons (res_tmp rfl) .nil) .auto ?_
  have hfi := addS_at (t := t) hx h20 hno
  have hsp := splice_part (E := eSum24) (k := 37) (a' := { x with total := tadd x.total t }) (vs := (tadd x.total t).c) (by decide) H hx (Nat.le_refl 39) (spl_Sum24_37_2 _ _)
  have hP := OwnL.put (e := 119) (b := b) { x with total := tadd x.total t } hc1 hc2 hc3 H (show i < S.length by omega)
  rw [← hsp] at hP
  exact ⟨some ⟨b, 0, none⟩, cap, _, by rw [hfi, List.length_set]; rfl, by rw [hfi]; exact hP, rfl⟩
end Go.Proofs.YtobmcpoejhhemaaGreat
