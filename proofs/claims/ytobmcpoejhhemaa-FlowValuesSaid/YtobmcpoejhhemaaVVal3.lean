import Derived.Test.YtobmcpoejhhemaaVVal2
import Derived.Test.YtobmcpoejhhemaaVEngG
namespace Go.Proofs.Ytobmcpoejhhemaa
open Go.E

def valV (r : Rec) (p1 : Option Addr) (k1 : Nat) (p2 : Option Addr) (k2 : Nat) : List FV := [⟨0, p1, (adrBytes r.key.src).length, k1⟩, ⟨0, p2, (adrBytes r.key.dst).length, k2⟩] ++ (numsV r).map (⟨·, none, 0, 0⟩)
def numsC (r : Rec) : Array Value := #[.int .u64 r.key.proto, .int .u64 r.key.srcPort, .int .u64 r.key.dstPort, .int .u64 r.bytes, .int .u64 r.packets, .int .u64 r.first, .int .u64 r.last, .int .u64 r.flags, .int .u64 r.reason, .int .u64 r.cls]
theorem ix167 {r : Rec} {i : Nat} {x : Int} (hx : (numsV r)[i]? = some x) (hi : i < 10) : ∀ w, (Instr.index 167 (.agg (numsC r)) (.int .i64 i)).run Try.prog w = .ok (.int .u64 x) w := by
  have h : i = 0 ∨ i = 1 ∨ i = 2 ∨ i = 3 ∨ i = 4 ∨ i = 5 ∨ i = 6 ∨ i = 7 ∨ i = 8 ∨ i = 9 := by omega
  rcases h with rfl | rfl | rfl | rfl | rfl | rfl | rfl | rfl | rfl | rfl <;> cases hx <;> intro w <;> kernel_rfl
theorem ct_Values (r : Rec) (hw : r.Wf) (h : r.right = true) : Ct Try.prog 30 [.agg r.c].toArray [] (fun v A => ∃ q cq B p1 k1 A1 p2 k2 A2, v = .tuple #[.slice q (valV r p1 k1 p2 k2).length cq, .int .i64 0] ∧ OwnL eFV 76 q cq (valV r p1 k1 p2 k2) B ∧ OwnL (eI .u8) 5 p1 k1 (adrBytes r.key.src) A1 ∧ OwnL (eI .u8) 5 p2 k2 (adrBytes r.key.dst) A2 ∧ A = B ++ (A1 ++ A2)) := by
  have hR := h ▸ pu_RecRight r
  refine ct_body (rv := [.tmp 2, .tmp 3]) [(0, _)] Try.func30 (by kernel_rfl) Try.ntmps30 Try.results30 rfl rfl (fun w0 => ?_)
  refine p_seq0 ?_
  refine p_plain0 (0 :: 1 :: 2 :: []) ?_
  refine go_s0 (some 1) (.box 35 (.tmp 0)) 0 ?_
  refine os_boxA rfl rfl (fun b1 => ?_)
  refine go_q0 2 (.assign (.const (.slice none 0 0))) 64 (qv_assign rfl) ?_
  refine go_q0 3 (.assign (.const (.int .i64 0))) 61 (qv_assign rfl) ?_
  refine go_nil ?_
  change G _ _ _ _
  refine p_weaken [1, 2, 3] rfl ?_
  refine p_seq0 ?_
  refine p_seq0 ?_
  refine p_plain0 (0 :: 1 :: 2 :: []) ?_
  refine go_q0 7 (.load 35 (.tmp 1)) 35 (qv_load rfl .auto (ldv_agg agg35 (extw_Rec _) (Nat.le_of_ble_eq_true rfl))) ?_
  refine go_s0 (some 8) (.call { callee := .value (.func 21), args := #[.tmp 7], argTypes := #[35] }) 4 ?_
  refine os_callP rfl en21 rfl (hR) ?_
  refine go_q0 9 (.unOp .not 4 (.tmp 8)) 4 (qv_not rfl) ?_
  refine go_nil ?_
  change G _ _ _ _
  refine p_weaken [1, 2, 3, 9] rfl ?_
  refine p_condF (.tmp 9) (by kernel_rfl) rfl ?_
  refine p_skip0 ?_
  change G _ _ _ _
  refine p_weaken [1, 2, 3] rfl ?_
  refine p_seq0 ?_
  refine p_draw (by kernel_rfl) mixed 11 12 _ (fun _ h => h) (by kernel_rfl) ?_
  refine gd_q (i := 0) (d := 10) (op := .fieldAddr 35 (.tmp 1) 0) (ty := 0) (g := none) (by kernel_rfl) trivial rfl (by kernel_rfl) (by kernel_rfl) (by kernel_rfl) (by kernel_rfl) (qv_field rfl fd35_0) ?_
  refine gd_q (i := 1) (d := 11) (op := .fieldAddr 27 (.tmp 10) 0) (ty := 0) (g := none) (by kernel_rfl) trivial rfl (by kernel_rfl) (by kernel_rfl) (by kernel_rfl) (by kernel_rfl) (qv_field rfl fd27_0) ?_
  refine gd_q (i := 2) (d := 12) (op := .load 24 (.tmp 11)) (ty := 24) (g := none) (by kernel_rfl) trivial rfl (by kernel_rfl) (by kernel_rfl) (by kernel_rfl) (by kernel_rfl) (qv_load rfl .auto (ldv_agg agg24 (ext_Rec_0_17 _) (Nat.le_of_ble_eq_true rfl))) ?_
  refine gd_q (i := 5) (d := 15) (op := .fieldAddr 35 (.tmp 1) 0) (ty := 0) (g := none) (by kernel_rfl) trivial rfl (by kernel_rfl) (by kernel_rfl) (by kernel_rfl) (by kernel_rfl) (qv_field rfl fd35_0) ?_
  refine gd_q (i := 6) (d := 16) (op := .fieldAddr 27 (.tmp 15) 1) (ty := 0) (g := none) (by kernel_rfl) trivial rfl (by kernel_rfl) (by kernel_rfl) (by kernel_rfl) (by kernel_rfl) (qv_field rfl fd27_1) ?_
  refine gd_q (i := 7) (d := 17) (op := .load 24 (.tmp 16)) (ty := 24) (g := none) (by kernel_rfl) trivial rfl (by kernel_rfl) (by kernel_rfl) (by kernel_rfl) (by kernel_rfl) (qv_load rfl .auto (ldv_agg agg24 (ext_Rec_17_17 _) (Nat.le_of_ble_eq_true rfl))) ?_
  refine gd_one (i := 3) (d := some 13) (op := .call { callee := .value (.func 90), args := #[.tmp 12], argTypes := #[24] }) (ty := 74) (g := none) (by kernel_rfl) trivial rfl (by kernel_rfl) ?_
  refine os_call (Nat.le_of_ble_eq_true rfl) en90 rfl .auto (ct_AddrBytes r.key.src) ?_
  rintro v13 A13 ⟨p13, k13, rfl, h13⟩
  try dsimp only [List.nil_append, List.cons_append]
  refine ⟨fun _ h => by first | exact h | (cases h; done) | exact .tail _ h | exact .tail _ (.tail _ h) | exact List.mem_append_right _ (List.mem_append_right _ h) | exact List.mem_append_right _ h | (simp only [List.mem_cons, List.not_mem_nil, or_false] at h ⊢; first | exact .inl h | exact .inr (.inl h) | exact .inr (.inr (.inl h)) | exact .inr (.inr (.inr (.inl h))) | (subst h; simp; done) | grind), ?_⟩
  refine gd_q (i := 4) (d := 14) (op := .build 76 #[(1, .tmp 13)]) (ty := 76) (g := none) (by kernel_rfl) trivial rfl (by kernel_rfl) (by kernel_rfl) (by kernel_rfl) (by kernel_rfl) (qv_build (v := .agg (⟨0, .slice p13 (adrBytes r.key.src).length k13⟩ : FVal).c) rfl (fun w => by kernel_rfl)) ?_
  refine gd_one (i := 8) (d := some 18) (op := .call { callee := .value (.func 90), args := #[.tmp 17], argTypes := #[24] }) (ty := 74) (g := none) (by kernel_rfl) trivial rfl (by kernel_rfl) ?_
  refine os_call (Nat.le_of_ble_eq_true rfl) en90 rfl .auto (ct_AddrBytes r.key.dst) ?_
  rintro v18 A18 ⟨p18, k18, rfl, h18⟩
  try dsimp only [List.nil_append, List.cons_append]
  refine ⟨fun _ h => by first | exact h | (cases h; done) | exact .tail _ h | exact .tail _ (.tail _ h) | exact List.mem_append_right _ (List.mem_append_right _ h) | exact List.mem_append_right _ h | (simp only [List.mem_cons, List.not_mem_nil, or_false] at h ⊢; first | exact .inl h | exact .inr (.inl h) | exact .inr (.inr (.inl h)) | exact .inr (.inr (.inr (.inl h))) | (subst h; simp; done) | grind), ?_⟩
  refine gd_q (i := 9) (d := 19) (op := .build 76 #[(1, .tmp 18)]) (ty := 76) (g := none) (by kernel_rfl) trivial rfl (by kernel_rfl) (by kernel_rfl) (by kernel_rfl) (by kernel_rfl) (qv_build (v := .agg (⟨0, .slice p18 (adrBytes r.key.dst).length k18⟩ : FVal).c) rfl (fun w => by kernel_rfl)) ?_
  refine gd_one (i := 10) (d := some 20) (op := .buildSlice 64 2 #[(0, .tmp 14), (1, .tmp 19)]) (ty := 64) (g := none) (by kernel_rfl) trivial rfl (by kernel_rfl) ?_
  refine os_buildSlice (Nat.le_of_ble_eq_true rfl) rfl (bls64_2 _ _) (fun b20 => ?_)
  refine ⟨fun _ h => by first | exact h | (cases h; done) | exact .tail _ h | exact .tail _ (.tail _ h) | exact List.mem_append_right _ (List.mem_append_right _ h) | exact List.mem_append_right _ h | (simp only [List.mem_cons, List.not_mem_nil, or_false] at h ⊢; first | exact .inl h | exact .inr (.inl h) | exact .inr (.inr (.inl h)) | exact .inr (.inr (.inr (.inl h))) | (subst h; simp; done) | grind), ?_⟩
  refine gd_tail [11] rfl (by kernel_rfl) (by kernel_rfl) ?_
  refine go_q0 4 (.assign (.tmp 20)) 64 (qv_assign rfl) ?_
  refine go_nil ?_
  change G _ _ _ _
  refine p_weaken [1, 2, 3, 4] rfl ?_
  refine p_seq0 ?_
  refine p_seq0 ?_
  refine p_plain0 (0 :: 1 :: 2 :: 3 :: 4 :: 5 :: 6 :: 7 :: 8 :: 9 :: 10 :: 11 :: 12 :: 13 :: 14 :: 15 :: 16 :: 17 :: 18 :: 19 :: 20 :: 21 :: 22 :: 23 :: 24 :: 25 :: 26 :: 27 :: 28 :: 29 :: 30 :: []) ?_
  refine go_q0 21 (.fieldAddr 35 (.tmp 1) 0) 0 (qv_field rfl fd35_0) ?_
  refine go_q0 22 (.fieldAddr 27 (.tmp 21) 2) 0 (qv_field rfl fd27_2) ?_
  refine go_q0 23 (.load 5 (.tmp 22)) 5 (qv_load rfl .auto (ldv_sca sc5 (get_Rec_34 _))) ?_
  refine go_q0 24 (.convert 5 30 (.tmp 23)) 30 (qv_conv un5 un30 rfl (u64_8 hw.key_.proto_)) ?_
  refine go_q0 25 (.fieldAddr 35 (.tmp 1) 0) 0 (qv_field rfl fd35_0) ?_
  refine go_q0 26 (.fieldAddr 27 (.tmp 25) 3) 0 (qv_field rfl fd27_3) ?_
  refine go_q0 27 (.load 25 (.tmp 26)) 25 (qv_load rfl .auto (ldv_sca sc25 (get_Rec_35 _))) ?_
  refine go_q0 28 (.convert 25 30 (.tmp 27)) 30 (qv_conv un25 un30 rfl (u64_16 hw.key_.srcPort_)) ?_
  refine go_q0 29 (.fieldAddr 35 (.tmp 1) 0) 0 (qv_field rfl fd35_0) ?_
  refine go_q0 30 (.fieldAddr 27 (.tmp 29) 4) 0 (qv_field rfl fd27_4) ?_
  refine go_q0 31 (.load 25 (.tmp 30)) 25 (qv_load rfl .auto (ldv_sca sc25 (get_Rec_36 _))) ?_
  refine go_q0 32 (.convert 25 30 (.tmp 31)) 30 (qv_conv un25 un30 rfl (u64_16 hw.key_.dstPort_)) ?_
  refine go_q0 33 (.fieldAddr 35 (.tmp 1) 2) 0 (qv_field rfl fd35_2) ?_
  refine go_q0 34 (.load 30 (.tmp 33)) 30 (qv_load rfl .auto (ldv_sca sc30 (get_Rec_38 _))) ?_
  refine go_q0 35 (.fieldAddr 35 (.tmp 1) 1) 0 (qv_field rfl fd35_1) ?_
  refine go_q0 36 (.load 30 (.tmp 35)) 30 (qv_load rfl .auto (ldv_sca sc30 (get_Rec_37 _))) ?_
  refine go_q0 37 (.fieldAddr 35 (.tmp 1) 3) 0 (qv_field rfl fd35_3) ?_
  refine go_q0 38 (.load 30 (.tmp 37)) 30 (qv_load rfl .auto (ldv_sca sc30 (get_Rec_39 _))) ?_
  refine go_q0 39 (.fieldAddr 35 (.tmp 1) 4) 0 (qv_field rfl fd35_4) ?_
  refine go_q0 40 (.load 30 (.tmp 39)) 30 (qv_load rfl .auto (ldv_sca sc30 (get_Rec_40 _))) ?_
  refine go_q0 41 (.fieldAddr 35 (.tmp 1) 5) 0 (qv_field rfl fd35_5) ?_
  refine go_q0 42 (.load 5 (.tmp 41)) 5 (qv_load rfl .auto (ldv_sca sc5 (get_Rec_41 _))) ?_
  refine go_q0 43 (.convert 5 30 (.tmp 42)) 30 (qv_conv un5 un30 rfl (u64_8 hw.flags_)) ?_
  refine go_q0 44 (.fieldAddr 35 (.tmp 1) 6) 0 (qv_field rfl fd35_6) ?_
  refine go_q0 45 (.load 5 (.tmp 44)) 5 (qv_load rfl .auto (ldv_sca sc5 (get_Rec_42 _))) ?_
  refine go_q0 46 (.convert 5 30 (.tmp 45)) 30 (qv_conv un5 un30 rfl (u64_8 hw.reason_)) ?_
  refine go_q0 47 (.fieldAddr 35 (.tmp 1) 7) 0 (qv_field rfl fd35_7) ?_
  refine go_q0 48 (.load 5 (.tmp 47)) 5 (qv_load rfl .auto (ldv_sca sc5 (get_Rec_43 _))) ?_
  refine go_q0 49 (.convert 5 30 (.tmp 48)) 30 (qv_conv un5 un30 rfl (u64_8 hw.cls_)) ?_
  refine go_q0 50 (.build 167 #[(0, .tmp 24), (1, .tmp 28), (2, .tmp 32), (3, .tmp 34), (4, .tmp 36), (5, .tmp 38), (6, .tmp 40), (7, .tmp 43), (8, .tmp 46), (9, .tmp 49)]) 167 (qv_build (v := .agg (numsC r)) rfl (fun w => by kernel_rfl)) ?_
  refine go_q0 51 (.move (.const (.int .i64 0))) 3 (qv_move rfl) ?_
  refine go_nil ?_
  change G _ _ _ _
  refine p_weaken [2, 3, 4, 50, 51] rfl ?_
  refine p_block 0 (by kernel_rfl) ?_
  refine p_loopE (by kernel_rfl) (fun s m => ∃ (i : Nat) (out : List FV) (q : Option Addr) (cq : Nat) (A : Mem), (i ≤ 10) ∧ (out = [⟨0, p13, (adrBytes r.key.src).length, k13⟩, ⟨0, p18, (adrBytes r.key.dst).length, k18⟩] ++ ((numsV r).take i).map (⟨·, none, 0, 0⟩)) ∧ (OwnL eFV 76 q cq out A) ∧ Ge s ⟨[], [(2, .slice none 0 0), (3, .int .i64 0), (4, .slice q out.length cq), (50, .agg (numsC r)), (51, .int .i64 i)], A ++ (A13 ++ A18)⟩ ∧ m = 11 - i) ?_ ?_
  · exact ⟨_, ⟨0, [⟨0, p13, (adrBytes r.key.src).length, k13⟩, ⟨0, p18, (adrBytes r.key.dst).length, k18⟩], some ⟨b20, 0, none⟩, 2, [(b20, .cells ((⟨0, .slice p13 (adrBytes r.key.src).length k13⟩ : FVal).c ++ (⟨0, .slice p18 (adrBytes r.key.dst).length k18⟩ : FVal).c) 76 (0, 0))], by omega, rfl, OwnL.of_build rfl rfl (by decide), ⟨rfl, ⟨[2, 3, 4, 50, 51], rfl⟩, .auto⟩, rfl⟩⟩
  rintro s m ⟨i, out, q, cq, A, hi, ho, hO, hs, rfl⟩
  refine ge_ok hs ?_
  refine p_seq0 ?_
  refine p_plain0 (0 :: []) ?_
  refine go_q0 52 (.binOp .lss 3 (.tmp 51) (.const (.int .i64 10)) 3) 0 (qv_lss rfl rfl rfl) ?_
  refine go_nil ?_
  change G _ _ _ _
  refine p_seq0 ?_
  refine p_cond (.tmp 52) (by kernel_rfl) rfl (fun h52 => ?_) (fun h52 => ?_)
  rotate_left
  · replace h52 := kn h52
    refine p_exit 0 (by kernel_rfl) ?_
    change G _ _ _ _
    refine p_weaken [2, 3, 4] rfl ?_
    refine p_seq0 ?_
    refine p_plain0 (0 :: 1 :: 2 :: []) ?_
    refine go_q0 60 (.move (.tmp 4)) 64 (qv_move rfl) ?_
    refine go_q0 2 (.assign (.tmp 60)) 64 (qv_assign rfl) ?_
    refine go_q0 3 (.assign (.const (.int .i64 0))) 61 (qv_assign rfl) ?_
    refine go_nil ?_
    change G _ _ _ _
    refine p_weaken [2, 3] rfl ?_
    refine p_ret0 ?_
    try dsimp only [thenQ, inBlockQ]
    try rw [if_pos rfl]
    refine ret_left (A ++ (A13 ++ A18)) (.inr rfl) (.cons (res_tmp rfl) (.cons (res_tmp rfl) .nil)) .auto ?_
    have hie : i = 10 := by omega
    subst hie
    have hoV : out = valV r p13 k13 p18 k18 := ho
    subst hoV
    exact ⟨q, cq, A, p13, k13, A13, p18, k18, A18, rfl, hO, h13, h18, rfl⟩
  replace h52 := kn h52
  refine p_skip0 ?_
  change G _ _ _ _
  refine p_weaken [2, 3, 4, 50, 51] rfl ?_
  refine p_seq0 ?_
  refine p_block 1 (by kernel_rfl) ?_
  refine p_seq0 ?_
  obtain ⟨x, hx⟩ : ∃ x, (numsV r)[i]? = some x := ⟨_, List.getElem?_eq_getElem (show i < 10 by omega)⟩
  have hol : out.length ≤ 12 := by rw [ho]; simp; omega
  refine p_plain0 (0 :: 1 :: []) ?_
  refine go_q0 53 (.index 167 (.tmp 50) (.tmp 51)) 30 (qv_ix rfl rfl (ix167 hx (by omega))) ?_
  refine go_q0 6 (.assign (.tmp 53)) 30 (qv_assign rfl) ?_
  refine go_nil ?_
  change G _ _ _ _
  refine p_weaken [2, 3, 4, 6, 50, 51] rfl ?_
  refine p_plain0 (0 :: 1 :: 2 :: 3 :: 4 :: 5 :: []) ?_
  refine go_q0 54 (.move (.tmp 4)) 64 (qv_move rfl) ?_
  refine go_q0 55 (.move (.tmp 6)) 30 (qv_move rfl) ?_
  refine go_q0 56 (.build 76 #[(0, .tmp 55)]) 76 (qv_build (v := .agg (⟨x, .slice none 0 0⟩ : FVal).c) rfl (fun w => by kernel_rfl)) ?_
  refine go_s0 (some 57) (.buildSlice 64 1 #[(0, .tmp 56)]) 64 ?_
  refine os_buildSlice (Nat.le_of_ble_eq_true rfl) rfl (bls64_1 _) (fun b57 => ?_)
  refine go_s0 (some 58) (.call { callee := .builtin .append, args := #[.tmp 54, .tmp 57], argTypes := #[64, 64] }) 64 ?_
  refine os_appendK (E := eFV) (l := out) (l2 := [⟨x, none, 0, 0⟩]) rfl el64 rfl rfl rfl rfl (hO) .auto .auto ((Holds.whole rfl)) (one_FV) (by simp [maxLen] <;> omega) (by simp <;> omega) (fun p58 c58 A58 h58 => ?_)
  refine go_q0 4 (.assign (.tmp 58)) 64 (qv_assign rfl) ?_
  refine go_nil ?_
  change G _ _ _ _
  refine p_weaken [2, 3, 4, 50, 51] rfl ?_
  refine p_plain0 (0 :: 1 :: []) ?_
  refine go_q0 59 (.binOp .add 3 (.tmp 51) (.const (.int .i64 1)) 3) 3 (qv_add rfl rfl (by first | exact IntWalk.i64_in _ (by omega) | exact IntWalk.i64_in _ (by dsimp only; omega) | rfl)) ?_
  refine go_q0 51 (.move (.tmp 59)) 3 (qv_move rfl) ?_
  refine go_nil ?_
  exact ⟨_, ⟨i + 1, _, _, _, _, by omega, by rw [ho, List.take_add_one, hx]; simp, h58, ⟨rfl, ⟨[2, 3, 4, 50, 51], rfl⟩, .auto⟩, rfl⟩, by omega⟩
end Go.Proofs.Ytobmcpoejhhemaa
