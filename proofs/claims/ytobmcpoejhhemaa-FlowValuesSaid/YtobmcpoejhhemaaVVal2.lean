import Derived.Test.YtobmcpoejhhemaaVVals
import Derived.Test.YtobmcpoejhhemaaVRefB
namespace Go.Proofs.Ytobmcpoejhhemaa
open Go.E

/-- A value with the bytes of a slice; a value with a string. -/
structure FV where
  n : Int
  p : Option Addr
  m : Nat
  k : Nat
def FV.c (v : FV) : Array Value := #[.int .u64 v.n, .slice v.p v.m v.k]
def eFV : Enc FV := ⟨FV.c, 2, fun _ => rfl⟩
theorem one_FV (a : FV) : ∀ u ∈ (eFV.c a).toList, u.oneCell' = true := fun u hu => by
  simp [eFV, FV.c] at hu
  rcases hu with rfl | rfl <;> rfl
structure RV where
  n : Int
  s : List Int
def RV.c (v : RV) : Array Value := #[.int .u64 v.n, .string (strOfNums v.s)]
def eRV : Enc RV := ⟨RV.c, 2, fun _ => rfl⟩
theorem one_RV (a : RV) : ∀ u ∈ (eRV.c a).toList, u.oneCell' = true := fun u hu => by
  simp [eRV, RV.c] at hu
  rcases hu with rfl | rfl <;> rfl
def numsV (r : Rec) : List Int := [r.key.proto, r.key.srcPort, r.key.dstPort, r.bytes, r.packets, r.first, r.last, r.flags, r.reason, r.cls]
def refV (r : Rec) : List RV := [⟨0, adrBytes r.key.src⟩, ⟨0, adrBytes r.key.dst⟩] ++ (numsV r).map (⟨·, []⟩)
theorem u64_8 {x : Int} (h : InK .u8 x) : IntKind.u64.wrap x = x := IntWalk.u64_in _ ⟨h.1, Int.le_trans h.2 (by decide)⟩
theorem u64_16 {x : Int} (h : InK .u16 x) : IntKind.u64.wrap x = x := IntWalk.u64_in _ ⟨h.1, Int.le_trans h.2 (by decide)⟩
theorem pu_refValuesBad (r : Rec) (h : r.right = false) : Pu Try.prog 29 [.agg r.c] (.tuple #[.slice none 0 0, .int .i64 2]) := by
  have hR := h ▸ pu_refRecRight r
  refine ct_body (rv := [.tmp 2, .tmp 3]) [(0, _)] Try.func29 (by kernel_rfl) Try.ntmps29 Try.results29 rfl rfl (fun w0 => ?_)
  refine p_seq0 ?_
  refine p_plain0 (0 :: 1 :: 2 :: []) ?_
  refine go_s0 (some 1) (.box 47 (.tmp 0)) 0 ?_
  refine os_boxA rfl rfl (fun b1 => ?_)
  refine go_q0 2 (.assign (.const (.slice none 0 0))) 60 (qv_assign rfl) ?_
  refine go_q0 3 (.assign (.const (.int .i64 0))) 61 (qv_assign rfl) ?_
  refine go_nil ?_
  change G _ _ _ _
  refine p_weaken [1, 2, 3] rfl ?_
  refine p_seq0 ?_
  refine p_seq0 ?_
  refine p_plain0 (0 :: 1 :: 2 :: []) ?_
  refine go_q0 7 (.load 47 (.tmp 1)) 47 (qv_load rfl .auto (ldv_agg agg47 (extw_Rec _) (Nat.le_of_ble_eq_true rfl))) ?_
  refine go_s0 (some 8) (.call { callee := .value (.func 22), args := #[.tmp 7], argTypes := #[47] }) 4 ?_
  refine os_callP rfl en22 rfl (hR) ?_
  refine go_q0 9 (.unOp .not 4 (.tmp 8)) 4 (qv_not rfl) ?_
  refine go_nil ?_
  change G _ _ _ _
  refine p_weaken [1, 2, 3, 9] rfl ?_
  refine p_condT (.tmp 9) (by kernel_rfl) rfl ?_
  refine p_seq0 ?_
  refine p_plain0 (0 :: 1 :: []) ?_
  refine go_q0 2 (.assign (.const (.slice none 0 0))) 60 (qv_assign rfl) ?_
  refine go_q0 3 (.assign (.const (.int .i64 2))) 61 (qv_assign rfl) ?_
  refine go_nil ?_
  change G _ _ _ _
  refine p_weaken [1, 2, 3] rfl ?_
  refine p_ret0 ?_
  try dsimp only [thenQ, inBlockQ]
  try rw [if_pos rfl]
  refine ret_now (.inr rfl) (.cons (res_tmp rfl) (.cons (res_tmp rfl) .nil)) (by repeat constructor) ?_
  exact ⟨rfl, rfl⟩
theorem pu_ValuesBad (r : Rec) (h : r.right = false) : Pu Try.prog 30 [.agg r.c] (.tuple #[.slice none 0 0, .int .i64 2]) := by
  have hR := h ▸ pu_RecRight r
  refine ct_body (rv := [.tmp 2, .tmp 3]) [(0, _)] Try.func30 (by kernel_rfl) Try.ntmps30 Try.results30 rfl rfl (fun w0 => ?_)
  refine p_seq0 ?_
  refine p_plain0 (0 :: 1 :: 2 :: []) ?_
  refine go_s0 (some 1) (.box 35 (.tmp 0)) 0 ?_
  refine os_boxA rfl rfl (fun b1 => ?_)
  refine go_q0 2 (.assign (.const (.slice none 0 0))) 64 (qv_assign rfl) ?_
  refine go_q0 3 (.assign (.const (.int .i64 0))) 61 (qv_assign rfl) ?_
  refine go_nil ?_
  change G _ _ _ _
  refine p_weaken [1, 2, 3] rfl ?_
  refine p_seq0 ?_
  refine p_seq0 ?_
  refine p_plain0 (0 :: 1 :: 2 :: []) ?_
  refine go_q0 7 (.load 35 (.tmp 1)) 35 (qv_load rfl .auto (ldv_agg agg35 (extw_Rec _) (Nat.le_of_ble_eq_true rfl))) ?_
  refine go_s0 (some 8) (.call { callee := .value (.func 21), args := #[.tmp 7], argTypes := #[35] }) 4 ?_
  refine os_callP rfl en21 rfl (hR) ?_
  refine go_q0 9 (.unOp .not 4 (.tmp 8)) 4 (qv_not rfl) ?_
  refine go_nil ?_
  change G _ _ _ _
  refine p_weaken [1, 2, 3, 9] rfl ?_
  refine p_condT (.tmp 9) (by kernel_rfl) rfl ?_
  refine p_seq0 ?_
  refine p_plain0 (0 :: 1 :: []) ?_
  refine go_q0 2 (.assign (.const (.slice none 0 0))) 64 (qv_assign rfl) ?_
  refine go_q0 3 (.assign (.const (.int .i64 2))) 61 (qv_assign rfl) ?_
  refine go_nil ?_
  change G _ _ _ _
  refine p_weaken [1, 2, 3] rfl ?_
  refine p_ret0 ?_
  try dsimp only [thenQ, inBlockQ]
  try rw [if_pos rfl]
  refine ret_now (.inr rfl) (.cons (res_tmp rfl) (.cons (res_tmp rfl) .nil)) (by repeat constructor) ?_
  exact ⟨rfl, rfl⟩
theorem ct_refValues (r : Rec) (hw : r.Wf) (h : r.right = true) : Ct Try.prog 29 [.agg r.c].toArray [] (fun v A => ∃ q cq, v = .tuple #[.slice q (refV r).length cq, .int .i64 0] ∧ OwnL eRV 165 q cq (refV r) A) := by
  have hR := h ▸ pu_refRecRight r
  refine ct_body (rv := [.tmp 2, .tmp 3]) [(0, _)] Try.func29 (by kernel_rfl) Try.ntmps29 Try.results29 rfl rfl (fun w0 => ?_)
  refine p_seq0 ?_
  refine p_plain0 (0 :: 1 :: 2 :: []) ?_
  refine go_s0 (some 1) (.box 47 (.tmp 0)) 0 ?_
  refine os_boxA rfl rfl (fun b1 => ?_)
  refine go_q0 2 (.assign (.const (.slice none 0 0))) 60 (qv_assign rfl) ?_
  refine go_q0 3 (.assign (.const (.int .i64 0))) 61 (qv_assign rfl) ?_
  refine go_nil ?_
  change G _ _ _ _
  refine p_weaken [1, 2, 3] rfl ?_
  refine p_seq0 ?_
  refine p_seq0 ?_
  refine p_plain0 (0 :: 1 :: 2 :: []) ?_
  refine go_q0 7 (.load 47 (.tmp 1)) 47 (qv_load rfl .auto (ldv_agg agg47 (extw_Rec _) (Nat.le_of_ble_eq_true rfl))) ?_
  refine go_s0 (some 8) (.call { callee := .value (.func 22), args := #[.tmp 7], argTypes := #[47] }) 4 ?_
  refine os_callP rfl en22 rfl (hR) ?_
  refine go_q0 9 (.unOp .not 4 (.tmp 8)) 4 (qv_not rfl) ?_
  refine go_nil ?_
  change G _ _ _ _
  refine p_weaken [1, 2, 3, 9] rfl ?_
  refine p_condF (.tmp 9) (by kernel_rfl) rfl ?_
  refine p_skip0 ?_
  change G _ _ _ _
  refine p_weaken [1, 2, 3] rfl ?_
  refine p_seq0 ?_
  refine p_plain0 (0 :: 1 :: 2 :: 3 :: 4 :: 5 :: 6 :: 7 :: 8 :: 9 :: 10 :: 11 :: 12 :: 13 :: 14 :: 15 :: 16 :: 17 :: 18 :: 19 :: 20 :: 21 :: 22 :: 23 :: 24 :: 25 :: 26 :: 27 :: 28 :: 29 :: 30 :: []) ?_
  refine go_q0 10 (.fieldAddr 47 (.tmp 1) 0) 0 (qv_field rfl fd47_0) ?_
  refine go_q0 11 (.fieldAddr 45 (.tmp 10) 2) 0 (qv_field rfl fd45_2) ?_
  refine go_q0 12 (.load 5 (.tmp 11)) 5 (qv_load rfl .auto (ldv_sca sc5 (get_Rec_34 _))) ?_
  refine go_q0 13 (.convert 5 30 (.tmp 12)) 30 (qv_conv un5 un30 rfl (u64_8 hw.key_.proto_)) ?_
  refine go_q0 14 (.fieldAddr 47 (.tmp 1) 0) 0 (qv_field rfl fd47_0) ?_
  refine go_q0 15 (.fieldAddr 45 (.tmp 14) 3) 0 (qv_field rfl fd45_3) ?_
  refine go_q0 16 (.load 25 (.tmp 15)) 25 (qv_load rfl .auto (ldv_sca sc25 (get_Rec_35 _))) ?_
  refine go_q0 17 (.convert 25 30 (.tmp 16)) 30 (qv_conv un25 un30 rfl (u64_16 hw.key_.srcPort_)) ?_
  refine go_q0 18 (.fieldAddr 47 (.tmp 1) 0) 0 (qv_field rfl fd47_0) ?_
  refine go_q0 19 (.fieldAddr 45 (.tmp 18) 4) 0 (qv_field rfl fd45_4) ?_
  refine go_q0 20 (.load 25 (.tmp 19)) 25 (qv_load rfl .auto (ldv_sca sc25 (get_Rec_36 _))) ?_
  refine go_q0 21 (.convert 25 30 (.tmp 20)) 30 (qv_conv un25 un30 rfl (u64_16 hw.key_.dstPort_)) ?_
  refine go_q0 22 (.fieldAddr 47 (.tmp 1) 2) 0 (qv_field rfl fd47_2) ?_
  refine go_q0 23 (.load 30 (.tmp 22)) 30 (qv_load rfl .auto (ldv_sca sc30 (get_Rec_38 _))) ?_
  refine go_q0 24 (.fieldAddr 47 (.tmp 1) 1) 0 (qv_field rfl fd47_1) ?_
  refine go_q0 25 (.load 30 (.tmp 24)) 30 (qv_load rfl .auto (ldv_sca sc30 (get_Rec_37 _))) ?_
  refine go_q0 26 (.fieldAddr 47 (.tmp 1) 3) 0 (qv_field rfl fd47_3) ?_
  refine go_q0 27 (.load 30 (.tmp 26)) 30 (qv_load rfl .auto (ldv_sca sc30 (get_Rec_39 _))) ?_
  refine go_q0 28 (.fieldAddr 47 (.tmp 1) 4) 0 (qv_field rfl fd47_4) ?_
  refine go_q0 29 (.load 30 (.tmp 28)) 30 (qv_load rfl .auto (ldv_sca sc30 (get_Rec_40 _))) ?_
  refine go_q0 30 (.fieldAddr 47 (.tmp 1) 5) 0 (qv_field rfl fd47_5) ?_
  refine go_q0 31 (.load 5 (.tmp 30)) 5 (qv_load rfl .auto (ldv_sca sc5 (get_Rec_41 _))) ?_
  refine go_q0 32 (.convert 5 30 (.tmp 31)) 30 (qv_conv un5 un30 rfl (u64_8 hw.flags_)) ?_
  refine go_q0 33 (.fieldAddr 47 (.tmp 1) 6) 0 (qv_field rfl fd47_6) ?_
  refine go_q0 34 (.load 5 (.tmp 33)) 5 (qv_load rfl .auto (ldv_sca sc5 (get_Rec_42 _))) ?_
  refine go_q0 35 (.convert 5 30 (.tmp 34)) 30 (qv_conv un5 un30 rfl (u64_8 hw.reason_)) ?_
  refine go_q0 36 (.fieldAddr 47 (.tmp 1) 7) 0 (qv_field rfl fd47_7) ?_
  refine go_q0 37 (.load 5 (.tmp 36)) 5 (qv_load rfl .auto (ldv_sca sc5 (get_Rec_43 _))) ?_
  refine go_q0 38 (.convert 5 30 (.tmp 37)) 30 (qv_conv un5 un30 rfl (u64_8 hw.cls_)) ?_
  refine go_s0 (some 39) (.buildSlice 29 10 #[(0, .tmp 13), (1, .tmp 17), (2, .tmp 21), (3, .tmp 23), (4, .tmp 25), (5, .tmp 27), (6, .tmp 29), (7, .tmp 32), (8, .tmp 35), (9, .tmp 38)]) 29 ?_
  refine os_buildSlice (Nat.le_of_ble_eq_true rfl) rfl (bls29_10 _ _ _ _ _ _ _ _ _ _) (fun b39 => ?_)
  refine go_q0 4 (.assign (.tmp 39)) 29 (qv_assign rfl) ?_
  refine go_nil ?_
  change G _ _ _ _
  refine p_weaken [1, 2, 3, 4] rfl ?_
  refine p_seq0 ?_
  refine p_draw (by kernel_rfl) mixed 13 14 _ (fun _ h => h) (by kernel_rfl) ?_
  refine gd_q (i := 0) (d := 40) (op := .fieldAddr 47 (.tmp 1) 0) (ty := 0) (g := none) (by kernel_rfl) trivial rfl (by kernel_rfl) (by kernel_rfl) (by kernel_rfl) (by kernel_rfl) (qv_field rfl fd47_0) ?_
  refine gd_q (i := 1) (d := 41) (op := .fieldAddr 45 (.tmp 40) 0) (ty := 0) (g := none) (by kernel_rfl) trivial rfl (by kernel_rfl) (by kernel_rfl) (by kernel_rfl) (by kernel_rfl) (qv_field rfl fd45_0) ?_
  refine gd_q (i := 2) (d := 42) (op := .load 43 (.tmp 41)) (ty := 43) (g := none) (by kernel_rfl) trivial rfl (by kernel_rfl) (by kernel_rfl) (by kernel_rfl) (by kernel_rfl) (qv_load rfl .auto (ldv_agg agg43 (ext_Rec_0_17 _) (Nat.le_of_ble_eq_true rfl))) ?_
  refine gd_q (i := 6) (d := 46) (op := .fieldAddr 47 (.tmp 1) 0) (ty := 0) (g := none) (by kernel_rfl) trivial rfl (by kernel_rfl) (by kernel_rfl) (by kernel_rfl) (by kernel_rfl) (qv_field rfl fd47_0) ?_
  refine gd_q (i := 7) (d := 47) (op := .fieldAddr 45 (.tmp 46) 1) (ty := 0) (g := none) (by kernel_rfl) trivial rfl (by kernel_rfl) (by kernel_rfl) (by kernel_rfl) (by kernel_rfl) (qv_field rfl fd45_1) ?_
  refine gd_q (i := 8) (d := 48) (op := .load 43 (.tmp 47)) (ty := 43) (g := none) (by kernel_rfl) trivial rfl (by kernel_rfl) (by kernel_rfl) (by kernel_rfl) (by kernel_rfl) (qv_load rfl .auto (ldv_agg agg43 (ext_Rec_17_17 _) (Nat.le_of_ble_eq_true rfl))) ?_
  refine gd_one (i := 3) (d := some 43) (op := .call { callee := .value (.func 89), args := #[.tmp 42], argTypes := #[43] }) (ty := 74) (g := none) (by kernel_rfl) trivial rfl (by kernel_rfl) ?_
  refine os_call (Nat.le_of_ble_eq_true rfl) en89 rfl .auto (ct_refAdrBytes r.key.src) ?_
  rintro v43 A43 ⟨p43, c43, rfl, h43⟩
  try dsimp only [List.nil_append, List.cons_append]
  refine ⟨fun _ h => by first | exact h | (cases h; done) | exact .tail _ h | exact .tail _ (.tail _ h) | exact List.mem_append_right _ (List.mem_append_right _ h) | exact List.mem_append_right _ h | (simp only [List.mem_cons, List.not_mem_nil, or_false] at h ⊢; first | exact .inl h | exact .inr (.inl h) | exact .inr (.inr (.inl h)) | exact .inr (.inr (.inr (.inl h))) | (subst h; simp; done) | grind), ?_⟩
  refine gd_two (i := 4) (j := 9) (d := some 44) (op := .convert 74 9 (.tmp 43)) (ty := 9) (g := none) (d' := some 49) (op' := .call { callee := .value (.func 89), args := #[.tmp 48], argTypes := #[43] }) (ty' := 74) (g' := none) (by kernel_rfl) (by kernel_rfl) trivial rfl (by kernel_rfl) trivial rfl ?_ ?_
  · refine os_of_qv (Nat.le_of_ble_eq_true rfl) (qv_bstr (l := adrBytes r.key.src) un74 un5 un9 rfl rfl (by first | exact Lst.left h43.lst | exact Lst.right (Lst.left h43.lst))) ?_
    refine ⟨fun _ h => by first | exact h | (cases h; done) | exact .tail _ h | exact .tail _ (.tail _ h) | exact List.mem_append_right _ (List.mem_append_right _ h) | exact List.mem_append_right _ h | (simp only [List.mem_cons, List.not_mem_nil, or_false] at h ⊢; first | exact .inl h | exact .inr (.inl h) | exact .inr (.inr (.inl h)) | exact .inr (.inr (.inr (.inl h))) | (subst h; simp; done) | grind), ?_⟩
    refine gd_q (i := 5) (d := 45) (op := .build 165 #[(1, .tmp 44)]) (ty := 165) (g := none) (by kernel_rfl) trivial rfl (by kernel_rfl) (by kernel_rfl) (by kernel_rfl) (by kernel_rfl) (qv_build (v := .agg (⟨0, .string (strOfNums (adrBytes r.key.src))⟩ : RVal).c) rfl (fun w => by kernel_rfl)) ?_
    refine gd_one (i := 9) (d := some 49) (op := .call { callee := .value (.func 89), args := #[.tmp 48], argTypes := #[43] }) (ty := 74) (g := none) (by kernel_rfl) trivial rfl (by kernel_rfl) ?_
    refine os_call (Nat.le_of_ble_eq_true rfl) en89 rfl .auto (ct_refAdrBytes r.key.dst) ?_
    rintro v49 A49 ⟨p49, c49, rfl, h49⟩
    try dsimp only [List.nil_append, List.cons_append]
    refine ⟨fun _ h => by first | exact h | (cases h; done) | exact .tail _ h | exact .tail _ (.tail _ h) | exact List.mem_append_right _ (List.mem_append_right _ h) | exact List.mem_append_right _ h | (simp only [List.mem_cons, List.not_mem_nil, or_false] at h ⊢; first | exact .inl h | exact .inr (.inl h) | exact .inr (.inr (.inl h)) | exact .inr (.inr (.inr (.inl h))) | (subst h; simp; done) | grind), ?_⟩
    refine gd_one (i := 10) (d := some 50) (op := .convert 74 9 (.tmp 49)) (ty := 9) (g := none) (by kernel_rfl) trivial rfl (by kernel_rfl) ?_
    refine os_of_qv (Nat.le_of_ble_eq_true rfl) (qv_bstr (l := adrBytes r.key.dst) un74 un5 un9 rfl rfl (by first | exact Lst.left h49.lst | exact Lst.right (Lst.left h49.lst))) ?_
    refine ⟨fun _ h => by first | exact h | (cases h; done) | exact .tail _ h | exact .tail _ (.tail _ h) | exact List.mem_append_right _ (List.mem_append_right _ h) | exact List.mem_append_right _ h | (simp only [List.mem_cons, List.not_mem_nil, or_false] at h ⊢; first | exact .inl h | exact .inr (.inl h) | exact .inr (.inr (.inl h)) | exact .inr (.inr (.inr (.inl h))) | (subst h; simp; done) | grind), ?_⟩
    refine gd_q (i := 11) (d := 51) (op := .build 165 #[(1, .tmp 50)]) (ty := 165) (g := none) (by kernel_rfl) trivial rfl (by kernel_rfl) (by kernel_rfl) (by kernel_rfl) (by kernel_rfl) (qv_build (v := .agg (⟨0, .string (strOfNums (adrBytes r.key.dst))⟩ : RVal).c) rfl (fun w => by kernel_rfl)) ?_
    refine gd_one (i := 12) (d := some 52) (op := .buildSlice 60 2 #[(0, .tmp 45), (1, .tmp 51)]) (ty := 60) (g := none) (by kernel_rfl) trivial rfl (by kernel_rfl) ?_
    refine os_buildSlice (Nat.le_of_ble_eq_true rfl) rfl (bls60_2 _ _) (fun b52 => ?_)
    refine ⟨fun _ h => by first | exact h | (cases h; done) | exact .tail _ h | exact .tail _ (.tail _ h) | exact List.mem_append_right _ (List.mem_append_right _ h) | exact List.mem_append_right _ h | (simp only [List.mem_cons, List.not_mem_nil, or_false] at h ⊢; first | exact .inl h | exact .inr (.inl h) | exact .inr (.inr (.inl h)) | exact .inr (.inr (.inr (.inl h))) | (subst h; simp; done) | grind), ?_⟩
    refine gd_tail [13] rfl (by kernel_rfl) (by kernel_rfl) ?_
    refine go_q0 5 (.assign (.tmp 52)) 60 (qv_assign rfl) ?_
    refine go_nil ?_
    change G _ _ _ _
    refine p_weaken [2, 3, 4, 5] rfl ?_
    refine p_seq0 ?_
    refine p_seq0 ?_
    refine p_plain0 (0 :: []) ?_
    refine go_q0 6 (.assign (.const (.int .i64 0))) 3 (qv_assign rfl) ?_
    refine go_nil ?_
    change G _ _ _ _
    refine p_block 0 (by kernel_rfl) ?_
    refine p_loopE (by kernel_rfl) (fun s m => ∃ (i : Nat) (out : List RV) (q : Option Addr) (cq : Nat) (A : Mem), (i ≤ 10) ∧ (out = [⟨0, adrBytes r.key.src⟩, ⟨0, adrBytes r.key.dst⟩] ++ ((numsV r).take i).map (⟨·, []⟩)) ∧ (OwnL eRV 165 q cq out A) ∧ Ge s ⟨[], [(2, .slice none 0 0), (3, .int .i64 0), (4, .slice (some ⟨b39, 0, none⟩) 10 10), (5, .slice q out.length cq), (6, .int .i64 i)], A ++ [(b39, .cells #[.int .u64 r.key.proto, .int .u64 r.key.srcPort, .int .u64 r.key.dstPort, .int .u64 r.bytes, .int .u64 r.packets, .int .u64 r.first, .int .u64 r.last, .int .u64 r.flags, .int .u64 r.reason, .int .u64 r.cls] 30 (0, 0))]⟩ ∧ m = 11 - i) ?_ ?_
    · exact ⟨_, ⟨0, [⟨0, adrBytes r.key.src⟩, ⟨0, adrBytes r.key.dst⟩], some ⟨b52, 0, none⟩, 2, [_], by omega, rfl, OwnL.of_build rfl rfl (by decide), ⟨rfl, ⟨[2, 3, 4, 5, 6], rfl⟩, .auto⟩, rfl⟩⟩
    rintro s m ⟨i, out, q, cq, A, hi, ho, hO, hs, rfl⟩
    refine ge_ok hs ?_
    refine p_seq0 ?_
    refine p_seq0 ?_
    refine p_plain0 (0 :: 1 :: 2 :: 3 :: []) ?_
    refine go_q0 53 (.move (.tmp 6)) 3 (qv_move rfl) ?_
    refine go_q0 54 (.move (.tmp 4)) 29 (qv_move rfl) ?_
    refine go_q0 55 (.call { callee := .builtin .len, args := #[.tmp 54], argTypes := #[29] }) 3 (qv_lenS un29 rfl) ?_
    refine go_q0 56 (.binOp .lss 3 (.tmp 53) (.tmp 55) 3) 4 (qv_lss rfl rfl rfl) ?_
    refine go_nil ?_
    change G _ _ _ _
    refine p_weaken [2, 3, 4, 5, 6, 56] rfl ?_
    refine p_cond (.tmp 56) (by kernel_rfl) rfl (fun h56 => ?_) (fun h56 => ?_)
    rotate_left
    · replace h56 := kn h56
      refine p_exit 0 (by kernel_rfl) ?_
      change G _ _ _ _
      refine p_weaken [2, 3, 5] rfl ?_
      refine p_seq0 ?_
      refine p_plain0 (0 :: 1 :: 2 :: []) ?_
      refine go_q0 67 (.move (.tmp 5)) 60 (qv_move rfl) ?_
      refine go_q0 2 (.assign (.tmp 67)) 60 (qv_assign rfl) ?_
      refine go_q0 3 (.assign (.const (.int .i64 0))) 61 (qv_assign rfl) ?_
      refine go_nil ?_
      change G _ _ _ _
      refine p_weaken [2, 3] rfl ?_
      refine p_ret0 ?_
      try dsimp only [thenQ, inBlockQ]
      try rw [if_pos rfl]
      refine ret_left (A) (.inr rfl) (.cons (res_tmp rfl) (.cons (res_tmp rfl) .nil)) .auto ?_
      have hie : i = 10 := by omega
      subst hie
      have hoV : out = refV r := ho
      subst hoV
      exact ⟨q, cq, rfl, hO⟩
    replace h56 := kn h56
    refine p_skip0 ?_
    change G _ _ _ _
    refine p_weaken [2, 3, 4, 5, 6] rfl ?_
    refine p_seq0 ?_
    refine p_block 1 (by kernel_rfl) ?_
    have Hn : Holds (eI .u64) #[.int .u64 r.key.proto, .int .u64 r.key.srcPort, .int .u64 r.key.dstPort, .int .u64 r.bytes, .int .u64 r.packets, .int .u64 r.first, .int .u64 r.last, .int .u64 r.flags, .int .u64 r.reason, .int .u64 r.cls] 0 (numsV r) := Holds.whole rfl
    obtain ⟨x, hx⟩ : ∃ x, (numsV r)[i]? = some x := ⟨_, List.getElem?_eq_getElem (show i < 10 by omega)⟩
    have hol : out.length ≤ 12 := by rw [ho]; simp; omega
    refine p_plain0 (0 :: 1 :: 2 :: 3 :: 4 :: 5 :: 6 :: 7 :: 8 :: []) ?_
    refine go_q0 59 (.move (.tmp 5)) 60 (qv_move rfl) ?_
    refine go_q0 60 (.move (.tmp 4)) 29 (qv_move rfl) ?_
    refine go_q0 61 (.move (.tmp 6)) 3 (qv_move rfl) ?_
    refine go_q0 62 (.indexAddr 29 (.tmp 60) (.tmp 61)) 0 (qv_index un29 sz30 rfl rfl rfl (by omega)) ?_
    refine go_q0 63 (.load 30 (.tmp 62)) 30 (qv_load rfl .auto (ldv_el Hn hx sc30 (k := 0) rfl rfl)) ?_
    refine go_q0 64 (.build 165 #[(0, .tmp 63)]) 165 (qv_build (v := .agg (⟨x, .string (strOfNums [])⟩ : RVal).c) rfl (fun w => by kernel_rfl)) ?_
    refine go_s0 (some 65) (.buildSlice 60 1 #[(0, .tmp 64)]) 60 ?_
    refine os_buildSlice (Nat.le_of_ble_eq_true rfl) rfl (bls60_1 _) (fun b65 => ?_)
    refine go_s0 (some 66) (.call { callee := .builtin .append, args := #[.tmp 59, .tmp 65], argTypes := #[60, 60] }) 60 ?_
    refine os_appendK (E := eRV) (l := out) (l2 := [⟨x, []⟩]) rfl el60 rfl rfl rfl rfl (hO) .auto .auto ((Holds.whole rfl)) (one_RV) (by simp [maxLen] <;> omega) (by simp <;> omega) (fun p66 c66 A66 h66 => ?_)
    refine go_q0 5 (.assign (.tmp 66)) 60 (qv_assign rfl) ?_
    refine go_nil ?_
    change G _ _ _ _
    refine p_weaken [2, 3, 4, 5, 6] rfl ?_
    refine p_plain0 (0 :: 1 :: 2 :: []) ?_
    refine go_q0 57 (.move (.tmp 6)) 3 (qv_move rfl) ?_
    refine go_q0 58 (.binOp .add 3 (.tmp 57) (.const (.int .i64 1)) 3) 3 (qv_add rfl rfl (by first | exact IntWalk.i64_in _ (by omega) | exact IntWalk.i64_in _ (by dsimp only; omega) | rfl)) ?_
    refine go_q0 6 (.assign (.tmp 58)) 3 (qv_assign rfl) ?_
    refine go_nil ?_
    exact ⟨_, ⟨i + 1, _, _, _, _, by omega, by rw [ho, List.take_add_one, hx]; simp, h66, ⟨rfl, ⟨[2, 3, 4, 5, 6], rfl⟩, .auto⟩, rfl⟩, by omega⟩
  refine os_call (Nat.le_of_ble_eq_true rfl) en89 rfl .auto (ct_refAdrBytes r.key.dst) ?_
  rintro v49 A49 ⟨p49, c49, rfl, h49⟩
  try dsimp only [List.nil_append, List.cons_append]
  refine ⟨fun _ h => by first | exact h | (cases h; done) | exact .tail _ h | exact .tail _ (.tail _ h) | exact List.mem_append_right _ (List.mem_append_right _ h) | exact List.mem_append_right _ h | (simp only [List.mem_cons, List.not_mem_nil, or_false] at h ⊢; first | exact .inl h | exact .inr (.inl h) | exact .inr (.inr (.inl h)) | exact .inr (.inr (.inr (.inl h))) | (subst h; simp; done) | grind), ?_⟩
  refine gd_two (i := 4) (j := 10) (d := some 44) (op := .convert 74 9 (.tmp 43)) (ty := 9) (g := none) (d' := some 50) (op' := .convert 74 9 (.tmp 49)) (ty' := 9) (g' := none) (by kernel_rfl) (by kernel_rfl) trivial rfl (by kernel_rfl) trivial rfl ?_ ?_
  · refine os_of_qv (Nat.le_of_ble_eq_true rfl) (qv_bstr (l := adrBytes r.key.src) un74 un5 un9 rfl rfl (by first | exact Lst.left h43.lst | exact Lst.right (Lst.left h43.lst))) ?_
    refine ⟨fun _ h => by first | exact h | (cases h; done) | exact .tail _ h | exact .tail _ (.tail _ h) | exact List.mem_append_right _ (List.mem_append_right _ h) | exact List.mem_append_right _ h | (simp only [List.mem_cons, List.not_mem_nil, or_false] at h ⊢; first | exact .inl h | exact .inr (.inl h) | exact .inr (.inr (.inl h)) | exact .inr (.inr (.inr (.inl h))) | (subst h; simp; done) | grind), ?_⟩
    refine gd_q (i := 5) (d := 45) (op := .build 165 #[(1, .tmp 44)]) (ty := 165) (g := none) (by kernel_rfl) trivial rfl (by kernel_rfl) (by kernel_rfl) (by kernel_rfl) (by kernel_rfl) (qv_build (v := .agg (⟨0, .string (strOfNums (adrBytes r.key.src))⟩ : RVal).c) rfl (fun w => by kernel_rfl)) ?_
    refine gd_one (i := 10) (d := some 50) (op := .convert 74 9 (.tmp 49)) (ty := 9) (g := none) (by kernel_rfl) trivial rfl (by kernel_rfl) ?_
    refine os_of_qv (Nat.le_of_ble_eq_true rfl) (qv_bstr (l := adrBytes r.key.dst) un74 un5 un9 rfl rfl (by first | exact Lst.left h49.lst | exact Lst.right (Lst.left h49.lst))) ?_
    refine ⟨fun _ h => by first | exact h | (cases h; done) | exact .tail _ h | exact .tail _ (.tail _ h) | exact List.mem_append_right _ (List.mem_append_right _ h) | exact List.mem_append_right _ h | (simp only [List.mem_cons, List.not_mem_nil, or_false] at h ⊢; first | exact .inl h | exact .inr (.inl h) | exact .inr (.inr (.inl h)) | exact .inr (.inr (.inr (.inl h))) | (subst h; simp; done) | grind), ?_⟩
    refine gd_q (i := 11) (d := 51) (op := .build 165 #[(1, .tmp 50)]) (ty := 165) (g := none) (by kernel_rfl) trivial rfl (by kernel_rfl) (by kernel_rfl) (by kernel_rfl) (by kernel_rfl) (qv_build (v := .agg (⟨0, .string (strOfNums (adrBytes r.key.dst))⟩ : RVal).c) rfl (fun w => by kernel_rfl)) ?_
    refine gd_one (i := 12) (d := some 52) (op := .buildSlice 60 2 #[(0, .tmp 45), (1, .tmp 51)]) (ty := 60) (g := none) (by kernel_rfl) trivial rfl (by kernel_rfl) ?_
    refine os_buildSlice (Nat.le_of_ble_eq_true rfl) rfl (bls60_2 _ _) (fun b52 => ?_)
    refine ⟨fun _ h => by first | exact h | (cases h; done) | exact .tail _ h | exact .tail _ (.tail _ h) | exact List.mem_append_right _ (List.mem_append_right _ h) | exact List.mem_append_right _ h | (simp only [List.mem_cons, List.not_mem_nil, or_false] at h ⊢; first | exact .inl h | exact .inr (.inl h) | exact .inr (.inr (.inl h)) | exact .inr (.inr (.inr (.inl h))) | (subst h; simp; done) | grind), ?_⟩
    refine gd_tail [13] rfl (by kernel_rfl) (by kernel_rfl) ?_
    refine go_q0 5 (.assign (.tmp 52)) 60 (qv_assign rfl) ?_
    refine go_nil ?_
    change G _ _ _ _
    refine p_weaken [2, 3, 4, 5] rfl ?_
    refine p_seq0 ?_
    refine p_seq0 ?_
    refine p_plain0 (0 :: []) ?_
    refine go_q0 6 (.assign (.const (.int .i64 0))) 3 (qv_assign rfl) ?_
    refine go_nil ?_
    change G _ _ _ _
    refine p_block 0 (by kernel_rfl) ?_
    refine p_loopE (by kernel_rfl) (fun s m => ∃ (i : Nat) (out : List RV) (q : Option Addr) (cq : Nat) (A : Mem), (i ≤ 10) ∧ (out = [⟨0, adrBytes r.key.src⟩, ⟨0, adrBytes r.key.dst⟩] ++ ((numsV r).take i).map (⟨·, []⟩)) ∧ (OwnL eRV 165 q cq out A) ∧ Ge s ⟨[], [(2, .slice none 0 0), (3, .int .i64 0), (4, .slice (some ⟨b39, 0, none⟩) 10 10), (5, .slice q out.length cq), (6, .int .i64 i)], A ++ [(b39, .cells #[.int .u64 r.key.proto, .int .u64 r.key.srcPort, .int .u64 r.key.dstPort, .int .u64 r.bytes, .int .u64 r.packets, .int .u64 r.first, .int .u64 r.last, .int .u64 r.flags, .int .u64 r.reason, .int .u64 r.cls] 30 (0, 0))]⟩ ∧ m = 11 - i) ?_ ?_
    · exact ⟨_, ⟨0, [⟨0, adrBytes r.key.src⟩, ⟨0, adrBytes r.key.dst⟩], some ⟨b52, 0, none⟩, 2, [_], by omega, rfl, OwnL.of_build rfl rfl (by decide), ⟨rfl, ⟨[2, 3, 4, 5, 6], rfl⟩, .auto⟩, rfl⟩⟩
    rintro s m ⟨i, out, q, cq, A, hi, ho, hO, hs, rfl⟩
    refine ge_ok hs ?_
    refine p_seq0 ?_
    refine p_seq0 ?_
    refine p_plain0 (0 :: 1 :: 2 :: 3 :: []) ?_
    refine go_q0 53 (.move (.tmp 6)) 3 (qv_move rfl) ?_
    refine go_q0 54 (.move (.tmp 4)) 29 (qv_move rfl) ?_
    refine go_q0 55 (.call { callee := .builtin .len, args := #[.tmp 54], argTypes := #[29] }) 3 (qv_lenS un29 rfl) ?_
    refine go_q0 56 (.binOp .lss 3 (.tmp 53) (.tmp 55) 3) 4 (qv_lss rfl rfl rfl) ?_
    refine go_nil ?_
    change G _ _ _ _
    refine p_weaken [2, 3, 4, 5, 6, 56] rfl ?_
    refine p_cond (.tmp 56) (by kernel_rfl) rfl (fun h56 => ?_) (fun h56 => ?_)
    rotate_left
    · replace h56 := kn h56
      refine p_exit 0 (by kernel_rfl) ?_
      change G _ _ _ _
      refine p_weaken [2, 3, 5] rfl ?_
      refine p_seq0 ?_
      refine p_plain0 (0 :: 1 :: 2 :: []) ?_
      refine go_q0 67 (.move (.tmp 5)) 60 (qv_move rfl) ?_
      refine go_q0 2 (.assign (.tmp 67)) 60 (qv_assign rfl) ?_
      refine go_q0 3 (.assign (.const (.int .i64 0))) 61 (qv_assign rfl) ?_
      refine go_nil ?_
      change G _ _ _ _
      refine p_weaken [2, 3] rfl ?_
      refine p_ret0 ?_
      try dsimp only [thenQ, inBlockQ]
      try rw [if_pos rfl]
      refine ret_left (A) (.inr rfl) (.cons (res_tmp rfl) (.cons (res_tmp rfl) .nil)) .auto ?_
      have hie : i = 10 := by omega
      subst hie
      have hoV : out = refV r := ho
      subst hoV
      exact ⟨q, cq, rfl, hO⟩
    replace h56 := kn h56
    refine p_skip0 ?_
    change G _ _ _ _
    refine p_weaken [2, 3, 4, 5, 6] rfl ?_
    refine p_seq0 ?_
    refine p_block 1 (by kernel_rfl) ?_
    have Hn : Holds (eI .u64) #[.int .u64 r.key.proto, .int .u64 r.key.srcPort, .int .u64 r.key.dstPort, .int .u64 r.bytes, .int .u64 r.packets, .int .u64 r.first, .int .u64 r.last, .int .u64 r.flags, .int .u64 r.reason, .int .u64 r.cls] 0 (numsV r) := Holds.whole rfl
    obtain ⟨x, hx⟩ : ∃ x, (numsV r)[i]? = some x := ⟨_, List.getElem?_eq_getElem (show i < 10 by omega)⟩
    have hol : out.length ≤ 12 := by rw [ho]; simp; omega
    refine p_plain0 (0 :: 1 :: 2 :: 3 :: 4 :: 5 :: 6 :: 7 :: 8 :: []) ?_
    refine go_q0 59 (.move (.tmp 5)) 60 (qv_move rfl) ?_
    refine go_q0 60 (.move (.tmp 4)) 29 (qv_move rfl) ?_
    refine go_q0 61 (.move (.tmp 6)) 3 (qv_move rfl) ?_
    refine go_q0 62 (.indexAddr 29 (.tmp 60) (.tmp 61)) 0 (qv_index un29 sz30 rfl rfl rfl (by omega)) ?_
    refine go_q0 63 (.load 30 (.tmp 62)) 30 (qv_load rfl .auto (ldv_el Hn hx sc30 (k := 0) rfl rfl)) ?_
    refine go_q0 64 (.build 165 #[(0, .tmp 63)]) 165 (qv_build (v := .agg (⟨x, .string (strOfNums [])⟩ : RVal).c) rfl (fun w => by kernel_rfl)) ?_
    refine go_s0 (some 65) (.buildSlice 60 1 #[(0, .tmp 64)]) 60 ?_
    refine os_buildSlice (Nat.le_of_ble_eq_true rfl) rfl (bls60_1 _) (fun b65 => ?_)
    refine go_s0 (some 66) (.call { callee := .builtin .append, args := #[.tmp 59, .tmp 65], argTypes := #[60, 60] }) 60 ?_
    refine os_appendK (E := eRV) (l := out) (l2 := [⟨x, []⟩]) rfl el60 rfl rfl rfl rfl (hO) .auto .auto ((Holds.whole rfl)) (one_RV) (by simp [maxLen] <;> omega) (by simp <;> omega) (fun p66 c66 A66 h66 => ?_)
    refine go_q0 5 (.assign (.tmp 66)) 60 (qv_assign rfl) ?_
    refine go_nil ?_
    change G _ _ _ _
    refine p_weaken [2, 3, 4, 5, 6] rfl ?_
    refine p_plain0 (0 :: 1 :: 2 :: []) ?_
    refine go_q0 57 (.move (.tmp 6)) 3 (qv_move rfl) ?_
    refine go_q0 58 (.binOp .add 3 (.tmp 57) (.const (.int .i64 1)) 3) 3 (qv_add rfl rfl (by first | exact IntWalk.i64_in _ (by omega) | exact IntWalk.i64_in _ (by dsimp only; omega) | rfl)) ?_
    refine go_q0 6 (.assign (.tmp 58)) 3 (qv_assign rfl) ?_
    refine go_nil ?_
    exact ⟨_, ⟨i + 1, _, _, _, _, by omega, by rw [ho, List.take_add_one, hx]; simp, h66, ⟨rfl, ⟨[2, 3, 4, 5, 6], rfl⟩, .auto⟩, rfl⟩, by omega⟩
  refine os_of_qv (Nat.le_of_ble_eq_true rfl) (qv_bstr (l := adrBytes r.key.dst) un74 un5 un9 rfl rfl (by first | exact Lst.left h49.lst | exact Lst.right (Lst.left h49.lst))) ?_
  refine ⟨fun _ h => by first | exact h | (cases h; done) | exact .tail _ h | exact .tail _ (.tail _ h) | exact List.mem_append_right _ (List.mem_append_right _ h) | exact List.mem_append_right _ h | (simp only [List.mem_cons, List.not_mem_nil, or_false] at h ⊢; first | exact .inl h | exact .inr (.inl h) | exact .inr (.inr (.inl h)) | exact .inr (.inr (.inr (.inl h))) | (subst h; simp; done) | grind), ?_⟩
  refine gd_q (i := 11) (d := 51) (op := .build 165 #[(1, .tmp 50)]) (ty := 165) (g := none) (by kernel_rfl) trivial rfl (by kernel_rfl) (by kernel_rfl) (by kernel_rfl) (by kernel_rfl) (qv_build (v := .agg (⟨0, .string (strOfNums (adrBytes r.key.dst))⟩ : RVal).c) rfl (fun w => by kernel_rfl)) ?_
  refine gd_one (i := 4) (d := some 44) (op := .convert 74 9 (.tmp 43)) (ty := 9) (g := none) (by kernel_rfl) trivial rfl (by kernel_rfl) ?_
  refine os_of_qv (Nat.le_of_ble_eq_true rfl) (qv_bstr (l := adrBytes r.key.src) un74 un5 un9 rfl rfl (by first | exact Lst.left h43.lst | exact Lst.right (Lst.left h43.lst))) ?_
  refine ⟨fun _ h => by first | exact h | (cases h; done) | exact .tail _ h | exact .tail _ (.tail _ h) | exact List.mem_append_right _ (List.mem_append_right _ h) | exact List.mem_append_right _ h | (simp only [List.mem_cons, List.not_mem_nil, or_false] at h ⊢; first | exact .inl h | exact .inr (.inl h) | exact .inr (.inr (.inl h)) | exact .inr (.inr (.inr (.inl h))) | (subst h; simp; done) | grind), ?_⟩
  refine gd_q (i := 5) (d := 45) (op := .build 165 #[(1, .tmp 44)]) (ty := 165) (g := none) (by kernel_rfl) trivial rfl (by kernel_rfl) (by kernel_rfl) (by kernel_rfl) (by kernel_rfl) (qv_build (v := .agg (⟨0, .string (strOfNums (adrBytes r.key.src))⟩ : RVal).c) rfl (fun w => by kernel_rfl)) ?_
  refine gd_one (i := 12) (d := some 52) (op := .buildSlice 60 2 #[(0, .tmp 45), (1, .tmp 51)]) (ty := 60) (g := none) (by kernel_rfl) trivial rfl (by kernel_rfl) ?_
  refine os_buildSlice (Nat.le_of_ble_eq_true rfl) rfl (bls60_2 _ _) (fun b52 => ?_)
  refine ⟨fun _ h => by first | exact h | (cases h; done) | exact .tail _ h | exact .tail _ (.tail _ h) | exact List.mem_append_right _ (List.mem_append_right _ h) | exact List.mem_append_right _ h | (simp only [List.mem_cons, List.not_mem_nil, or_false] at h ⊢; first | exact .inl h | exact .inr (.inl h) | exact .inr (.inr (.inl h)) | exact .inr (.inr (.inr (.inl h))) | (subst h; simp; done) | grind), ?_⟩
  refine gd_tail [13] rfl (by kernel_rfl) (by kernel_rfl) ?_
  refine go_q0 5 (.assign (.tmp 52)) 60 (qv_assign rfl) ?_
  refine go_nil ?_
  change G _ _ _ _
  refine p_weaken [2, 3, 4, 5] rfl ?_
  refine p_seq0 ?_
  refine p_seq0 ?_
  refine p_plain0 (0 :: []) ?_
  refine go_q0 6 (.assign (.const (.int .i64 0))) 3 (qv_assign rfl) ?_
  refine go_nil ?_
  change G _ _ _ _
  refine p_block 0 (by kernel_rfl) ?_
  refine p_loopE (by kernel_rfl) (fun s m => ∃ (i : Nat) (out : List RV) (q : Option Addr) (cq : Nat) (A : Mem), (i ≤ 10) ∧ (out = [⟨0, adrBytes r.key.src⟩, ⟨0, adrBytes r.key.dst⟩] ++ ((numsV r).take i).map (⟨·, []⟩)) ∧ (OwnL eRV 165 q cq out A) ∧ Ge s ⟨[], [(2, .slice none 0 0), (3, .int .i64 0), (4, .slice (some ⟨b39, 0, none⟩) 10 10), (5, .slice q out.length cq), (6, .int .i64 i)], A ++ [(b39, .cells #[.int .u64 r.key.proto, .int .u64 r.key.srcPort, .int .u64 r.key.dstPort, .int .u64 r.bytes, .int .u64 r.packets, .int .u64 r.first, .int .u64 r.last, .int .u64 r.flags, .int .u64 r.reason, .int .u64 r.cls] 30 (0, 0))]⟩ ∧ m = 11 - i) ?_ ?_
  · exact ⟨_, ⟨0, [⟨0, adrBytes r.key.src⟩, ⟨0, adrBytes r.key.dst⟩], some ⟨b52, 0, none⟩, 2, [_], by omega, rfl, OwnL.of_build rfl rfl (by decide), ⟨rfl, ⟨[2, 3, 4, 5, 6], rfl⟩, .auto⟩, rfl⟩⟩
  rintro s m ⟨i, out, q, cq, A, hi, ho, hO, hs, rfl⟩
  refine ge_ok hs ?_
  refine p_seq0 ?_
  refine p_seq0 ?_
  refine p_plain0 (0 :: 1 :: 2 :: 3 :: []) ?_
  refine go_q0 53 (.move (.tmp 6)) 3 (qv_move rfl) ?_
  refine go_q0 54 (.move (.tmp 4)) 29 (qv_move rfl) ?_
  refine go_q0 55 (.call { callee := .builtin .len, args := #[.tmp 54], argTypes := #[29] }) 3 (qv_lenS un29 rfl) ?_
  refine go_q0 56 (.binOp .lss 3 (.tmp 53) (.tmp 55) 3) 4 (qv_lss rfl rfl rfl) ?_
  refine go_nil ?_
  change G _ _ _ _
  refine p_weaken [2, 3, 4, 5, 6, 56] rfl ?_
  refine p_cond (.tmp 56) (by kernel_rfl) rfl (fun h56 => ?_) (fun h56 => ?_)
  rotate_left
  · replace h56 := kn h56
    refine p_exit 0 (by kernel_rfl) ?_
    change G _ _ _ _
    refine p_weaken [2, 3, 5] rfl ?_
    refine p_seq0 ?_
    refine p_plain0 (0 :: 1 :: 2 :: []) ?_
    refine go_q0 67 (.move (.tmp 5)) 60 (qv_move rfl) ?_
    refine go_q0 2 (.assign (.tmp 67)) 60 (qv_assign rfl) ?_
    refine go_q0 3 (.assign (.const (.int .i64 0))) 61 (qv_assign rfl) ?_
    refine go_nil ?_
    change G _ _ _ _
    refine p_weaken [2, 3] rfl ?_
    refine p_ret0 ?_
    try dsimp only [thenQ, inBlockQ]
    try rw [if_pos rfl]
    refine ret_left (A) (.inr rfl) (.cons (res_tmp rfl) (.cons (res_tmp rfl) .nil)) .auto ?_
    have hie : i = 10 := by omega
    subst hie
    have hoV : out = refV r := ho
    subst hoV
    exact ⟨q, cq, rfl, hO⟩
  replace h56 := kn h56
  refine p_skip0 ?_
  change G _ _ _ _
  refine p_weaken [2, 3, 4, 5, 6] rfl ?_
  refine p_seq0 ?_
  refine p_block 1 (by kernel_rfl) ?_
  have Hn : Holds (eI .u64) #[.int .u64 r.key.proto, .int .u64 r.key.srcPort, .int .u64 r.key.dstPort, .int .u64 r.bytes, .int .u64 r.packets, .int .u64 r.first, .int .u64 r.last, .int .u64 r.flags, .int .u64 r.reason, .int .u64 r.cls] 0 (numsV r) := Holds.whole rfl
  obtain ⟨x, hx⟩ : ∃ x, (numsV r)[i]? = some x := ⟨_, List.getElem?_eq_getElem (show i < 10 by omega)⟩
  have hol : out.length ≤ 12 := by rw [ho]; simp; omega
  refine p_plain0 (0 :: 1 :: 2 :: 3 :: 4 :: 5 :: 6 :: 7 :: 8 :: []) ?_
  refine go_q0 59 (.move (.tmp 5)) 60 (qv_move rfl) ?_
  refine go_q0 60 (.move (.tmp 4)) 29 (qv_move rfl) ?_
  refine go_q0 61 (.move (.tmp 6)) 3 (qv_move rfl) ?_
  refine go_q0 62 (.indexAddr 29 (.tmp 60) (.tmp 61)) 0 (qv_index un29 sz30 rfl rfl rfl (by omega)) ?_
  refine go_q0 63 (.load 30 (.tmp 62)) 30 (qv_load rfl .auto (ldv_el Hn hx sc30 (k := 0) rfl rfl)) ?_
  refine go_q0 64 (.build 165 #[(0, .tmp 63)]) 165 (qv_build (v := .agg (⟨x, .string (strOfNums [])⟩ : RVal).c) rfl (fun w => by kernel_rfl)) ?_
  refine go_s0 (some 65) (.buildSlice 60 1 #[(0, .tmp 64)]) 60 ?_
  refine os_buildSlice (Nat.le_of_ble_eq_true rfl) rfl (bls60_1 _) (fun b65 => ?_)
  refine go_s0 (some 66) (.call { callee := .builtin .append, args := #[.tmp 59, .tmp 65], argTypes := #[60, 60] }) 60 ?_
  refine os_appendK (E := eRV) (l := out) (l2 := [⟨x, []⟩]) rfl el60 rfl rfl rfl rfl (hO) .auto .auto ((Holds.whole rfl)) (one_RV) (by simp [maxLen] <;> omega) (by simp <;> omega) (fun p66 c66 A66 h66 => ?_)
  refine go_q0 5 (.assign (.tmp 66)) 60 (qv_assign rfl) ?_
  refine go_nil ?_
  change G _ _ _ _
  refine p_weaken [2, 3, 4, 5, 6] rfl ?_
  refine p_plain0 (0 :: 1 :: 2 :: []) ?_
  refine go_q0 57 (.move (.tmp 6)) 3 (qv_move rfl) ?_
  refine go_q0 58 (.binOp .add 3 (.tmp 57) (.const (.int .i64 1)) 3) 3 (qv_add rfl rfl (by first | exact IntWalk.i64_in _ (by omega) | exact IntWalk.i64_in _ (by dsimp only; omega) | rfl)) ?_
  refine go_q0 6 (.assign (.tmp 58)) 3 (qv_assign rfl) ?_
  refine go_nil ?_
  exact ⟨_, ⟨i + 1, _, _, _, _, by omega, by rw [ho, List.take_add_one, hx]; simp, h66, ⟨rfl, ⟨[2, 3, 4, 5, 6], rfl⟩, .auto⟩, rfl⟩, by omega⟩
end Go.Proofs.Ytobmcpoejhhemaa
