import Derived.Test.YtobmcpoejhhemaaGreatKTab2
namespace Go.Proofs.YtobmcpoejhhemaaGreat
open Go.E

def zeroS : Slot := ⟨false, { src := { six := false, b := { x0 := 0, x1 := 0, x2 := 0, x3 := 0, x4 := 0, x5 := 0, x6 := 0, x7 := 0, x8 := 0, x9 := 0, x10 := 0, x11 := 0, x12 := 0, x13 := 0, x14 := 0, x15 := 0 } }, dst := { six := false, b := { x0 := 0, x1 := 0, x2 := 0, x3 := 0, x4 := 0, x5 := 0, x6 := 0, x7 := 0, x8 := 0, x9 := 0, x10 := 0, x11 := 0, x12 := 0, x13 := 0, x14 := 0, x15 := 0 } }, proto := 0, srcPort := 0, dstPort := 0 }, 0⟩
theorem zeL_slot : ZeL Tryz.prog 146 eSlot zeroS 56 := ⟨(Tryz.prog.info? 146).get (by kernel_rfl), (((Tryz.prog.info? 146).get (by kernel_rfl)).zero).get (by kernel_rfl), by kernel_rfl, by kernel_rfl, by kernel_rfl, by kernel_rfl, by kernel_rfl⟩
theorem ct_New (n : Nat) (h1 : 1 ≤ n) (h2 : n ≤ 65536) (h3 : bits .and .i64 n ((n : Int) - 1) = 0) : Ct Tryz.prog 31 [.int .i64 n].toArray [] (fun v M' => ∃ bt bs, v = .tuple #[.pointer (some ⟨bt, 0, none⟩), .int .i64 0] ∧ M' = [tabO bt bs n 0, slotO bs (List.replicate n zeroS)]) := by
  refine ct_body (rv := [.tmp 2, .tmp 3]) [(0, _)] Tryz.func31 (by kernel_rfl) Tryz.ntmps31 Tryz.results31 rfl rfl (fun w0 => ?_)
  refine p_seq0 ?_
  refine p_plain0 (0 :: 1 :: []) ?_
  refine go_q0 2 (.assign (.const (.pointer none))) 78 (qv_assign rfl) ?_
  refine go_q0 3 (.assign (.const (.int .i64 0))) 44 (qv_assign rfl) ?_
  refine go_nil ?_
  change G _ _ _ _
  refine p_seq0 ?_
  refine p_seq0 ?_
  refine p_plain0 (0 :: 1 :: 2 :: 3 :: 4 :: 5 :: 6 :: 7 :: 8 :: 9 :: 10 :: 11 :: 12 :: []) ?_
  refine go_q0 4 (.move (.tmp 0)) 3 (qv_move rfl) ?_
  refine go_q0 5 (.binOp .lss 3 (.tmp 4) (.const (.int .i64 1)) 3) 4 (qv_lss (b := false) rfl rfl (decide_eq_false (by omega))) ?_
  refine go_q0 6 (.move (.tmp 5)) 4 (qv_move rfl) ?_
  refine go_q (d := 7) (op := .move (.tmp 0)) (ty := 3) (g := some (2, false)) (by kernel_rfl) ⟨6, by kernel_rfl, rfl⟩ rfl (qv_move rfl) ?_
  refine go_q (d := 8) (op := .binOp .gtr 3 (.tmp 7) (.const (.int .i64 65536)) 3) (ty := 4) (g := some (2, false)) (by kernel_rfl) ⟨6, by kernel_rfl, rfl⟩ rfl (qv_gtr (b := false) rfl rfl (decide_eq_false (by omega))) ?_
  refine go_q0 9 (.pick (.tmp 6) (.const (.bool true)) (.tmp 8)) 4 (qv_pick_f rfl rfl) ?_
  refine go_q0 10 (.move (.tmp 9)) 4 (qv_move rfl) ?_
  refine go_q (d := 11) (op := .move (.tmp 0)) (ty := 3) (g := some (6, false)) (by kernel_rfl) ⟨10, by kernel_rfl, rfl⟩ rfl (qv_move rfl) ?_
  refine go_q (d := 12) (op := .move (.tmp 0)) (ty := 3) (g := some (6, false)) (by kernel_rfl) ⟨10, by kernel_rfl, rfl⟩ rfl (qv_move rfl) ?_
  refine go_q (d := 13) (op := .binOp .sub 3 (.tmp 12) (.const (.int .i64 1)) 3) (ty := 3) (g := some (6, false)) (by kernel_rfl) ⟨10, by kernel_rfl, rfl⟩ rfl (qv_sub rfl rfl (rfl)) ?_
  refine go_q (d := 14) (op := .binOp .and 3 (.tmp 11) (.tmp 13) 3) (ty := 3) (g := some (6, false)) (by kernel_rfl) ⟨10, by kernel_rfl, rfl⟩ rfl (qv_and rfl rfl (rfl)) ?_
  refine go_q (d := 15) (op := .binOp .neq 3 (.tmp 14) (.const (.int .i64 0)) 3) (ty := 4) (g := some (6, false)) (by kernel_rfl) ⟨10, by kernel_rfl, rfl⟩ rfl (qv_neq (b := false) rfl rfl (bne_eq_false_iff_eq.2 (by rw [show IntKind.i64.wrap ((n : Int) - 1) = (n : Int) - 1 from IntWalk.i64_in _ (by omega)]; exact h3))) ?_
  refine go_q0 16 (.pick (.tmp 10) (.const (.bool true)) (.tmp 15)) 4 (qv_pick_f rfl rfl) ?_
  refine go_nil ?_
  change G _ _ _ _
  refine p_weaken [0, 2, 3, 16] rfl ?_
  refine p_condF (.tmp 16) (by kernel_rfl) rfl ?_
  refine p_skip0 ?_
  change G _ _ _ _
  refine p_weaken [0, 2, 3] rfl ?_
  refine p_seq0 ?_
  refine p_plain0 (0 :: 1 :: 2 :: 3 :: 4 :: 5 :: []) ?_
  refine go_q0 17 (.move (.tmp 0)) 3 (qv_move rfl) ?_
  refine go_s0 (some 18) (.makeSlice 124 (.tmp 17) (.tmp 17)) 124 ?_
  refine os_makeL rfl un124 zeL_slot (by decide) rfl rfl rfl rfl (by simp [eSlot]; omega) (by omega) (by omega) (fun b18 => ?_)
  refine go_q0 19 (.build 126 #[(0, .tmp 18)]) 126 (qv_build rfl (bld126_0 _ _ _)) ?_
  refine go_s0 (some 20) (.box 126 (.tmp 19)) 78 ?_
  refine os_boxA rfl rfl (fun b20 => ?_)
  refine go_q0 2 (.assign (.tmp 20)) 78 (qv_assign rfl) ?_
  refine go_q0 3 (.assign (.const (.int .i64 0))) 44 (qv_assign rfl) ?_
  refine go_nil ?_
  change G _ _ _ _
  refine p_weaken [2, 3] rfl ?_
  refine p_ret0 ?_
  try dsimp only [thenQ, inBlockQ]
  try rw [if_pos rfl]
  refine ret_left ([tabO b20 b18 n 0, slotO b18 (List.replicate n zeroS)]) (.inr rfl) (.cons (res_tmp rfl) (.cons (res_tmp rfl) .nil)) .auto ?_
  exact ⟨b20, b18, rfl, rfl⟩
def okSize (s : Int) : Bool := decide (1 ≤ s) && decide (s ≤ 65536) && decide (bits .and .i64 s (s - 1) = 0)
end Go.Proofs.YtobmcpoejhhemaaGreat
