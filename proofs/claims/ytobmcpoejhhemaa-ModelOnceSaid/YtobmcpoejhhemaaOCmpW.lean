import Derived.Test.YtobmcpoejhhemaaORefB
import Derived.Test.YtobmcpoejhhemaaOLay
import Derived.Lib.BytesEntry
namespace Go.Proofs.Ytobmcpoejhhemaa
open Go.E

theorem pu_Cmp (a b : Key) (ha : a.Wf) (hb : b.Wf) : Pu Try.prog 121 [.agg a.c, .agg b.c] (.int .i64 (cmpK a b)) := by
  refine ct_body (rv := [.tmp 4]) [(0, _), (1, _)] Try.func121 (by kernel_rfl) Try.ntmps121 Try.results121 rfl rfl (fun w0 => ?_)
  refine p_seq0 ?_
  refine p_plain0 (0 :: 1 :: 2 :: []) ?_
  refine go_s0 (some 2) (.box 27 (.tmp 0)) 0 ?_
  refine os_boxA rfl rfl (fun b2 => ?_)
  refine go_s0 (some 3) (.box 27 (.tmp 1)) 0 ?_
  refine os_boxA rfl rfl (fun b3 => ?_)
  refine go_q0 4 (.assign (.const (.int .i64 0))) 3 (qv_assign rfl) ?_
  refine go_nil ?_
  change G _ _ _ _
  refine p_weaken [2, 3, 4] rfl ?_
  refine p_seq0 ?_
  refine p_draw (by kernel_rfl) mixed 5 6 _ (fun _ h => h) (by kernel_rfl) ?_
  refine gd_q (i := 0) (d := 5) (op := .load 27 (.tmp 2)) (ty := 27) (g := none) (by kernel_rfl) trivial rfl (by kernel_rfl) (by kernel_rfl) (by kernel_rfl) (by kernel_rfl) (qv_load rfl .auto (ldv_agg agg27 (extw_Key _) (Nat.le_of_ble_eq_true rfl))) ?_
  refine gd_q (i := 2) (d := 7) (op := .load 27 (.tmp 3)) (ty := 27) (g := none) (by kernel_rfl) trivial rfl (by kernel_rfl) (by kernel_rfl) (by kernel_rfl) (by kernel_rfl) (qv_load rfl .auto (ldv_agg agg27 (extw_Key _) (Nat.le_of_ble_eq_true rfl))) ?_
  refine gd_one (i := 1) (d := some 6) (op := .call { callee := .value (.func 115), args := #[.tmp 5], argTypes := #[27] }) (ty := 74) (g := none) (by kernel_rfl) trivial rfl (by kernel_rfl) ?_
  refine os_call (Nat.le_of_ble_eq_true rfl) en115 rfl .auto (ct_KeyBytes a ha) ?_
  rintro v6 A6 ⟨p6, c6, rfl, h6⟩
  try dsimp only [List.nil_append, List.cons_append]
  refine ⟨fun _ h => by first | exact h | (cases h; done) | exact .tail _ h | exact .tail _ (.tail _ h) | exact List.mem_append_right _ (List.mem_append_right _ h) | exact List.mem_append_right _ h | (simp only [List.mem_cons, List.not_mem_nil, or_false] at h ⊢; first | exact .inl h | exact .inr (.inl h) | exact .inr (.inr (.inl h)) | exact .inr (.inr (.inr (.inl h))) | (subst h; simp; done) | grind), ?_⟩
  refine gd_one (i := 3) (d := some 8) (op := .call { callee := .value (.func 115), args := #[.tmp 7], argTypes := #[27] }) (ty := 74) (g := none) (by kernel_rfl) trivial rfl (by kernel_rfl) ?_
  refine os_call (Nat.le_of_ble_eq_true rfl) en115 rfl .auto (ct_KeyBytes b hb) ?_
  rintro v8 A8 ⟨p8, c8, rfl, h8⟩
  try dsimp only [List.nil_append, List.cons_append]
  refine ⟨fun _ h => by first | exact h | (cases h; done) | exact .tail _ h | exact .tail _ (.tail _ h) | exact List.mem_append_right _ (List.mem_append_right _ h) | exact List.mem_append_right _ h | (simp only [List.mem_cons, List.not_mem_nil, or_false] at h ⊢; first | exact .inl h | exact .inr (.inl h) | exact .inr (.inr (.inl h)) | exact .inr (.inr (.inr (.inl h))) | (subst h; simp; done) | grind), ?_⟩
  refine gd_one (i := 4) (d := some 9) (op := .call { callee := .value (.func 161), args := #[.tmp 6, .tmp 8], argTypes := #[74, 74] }) (ty := 3) (g := none) (by kernel_rfl) trivial rfl (by kernel_rfl) ?_
  refine os_pv rfl (pv_callR en161 rfl (by rw [← List.append_assoc]; exact Sel.app) (ct_bytesCompare (M := A8 ++ A6) (Lst.right h6.lst) (Lst.left h8.lst))) ?_
  refine ⟨fun _ h => by first | exact h | (cases h; done) | exact .tail _ h | exact .tail _ (.tail _ h) | exact List.mem_append_right _ (List.mem_append_right _ h) | exact List.mem_append_right _ h | (simp only [List.mem_cons, List.not_mem_nil, or_false] at h ⊢; first | exact .inl h | exact .inr (.inl h) | exact .inr (.inr (.inl h)) | exact .inr (.inr (.inr (.inl h))) | (subst h; simp; done) | grind), ?_⟩
  refine gd_tail [5] rfl (by kernel_rfl) (by kernel_rfl) ?_
  refine go_q0 4 (.assign (.tmp 9)) 3 (qv_assign rfl) ?_
  refine go_nil ?_
  change G _ _ _ _
  refine p_weaken [4] rfl ?_
  refine p_ret0 ?_
  try dsimp only [thenQ, inBlockQ]
  try rw [if_pos rfl]
  refine ret_left ([]) (.inr rfl) (.cons (res_tmp rfl) .nil) .auto ?_
  exact ⟨rfl, rfl⟩
/-- The order of keys. -/
def ltK (a b : Key) : Prop := cmpK a b < 0
end Go.Proofs.Ytobmcpoejhhemaa
