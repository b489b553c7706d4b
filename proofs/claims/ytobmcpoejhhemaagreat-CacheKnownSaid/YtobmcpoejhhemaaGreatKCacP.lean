import Derived.Test.YtobmcpoejhhemaaGreatKTabK
import Derived.Test.YtobmcpoejhhemaaGreatKFlow
import Derived.Test.YtobmcpoejhhemaaGreatKKeys
import Derived.Test.YtobmcpoejhhemaaGreatKRd
namespace Go.Proofs.YtobmcpoejhhemaaGreat
open Go.E

def cmpI (a b : Int) : Int := if a < b then -1 else if b < a then 1 else 0
def orI (x y : Int) : Int := if x = 0 then y else x
def idleR (bd : Bnd) (r : Rec) : Int := sat r.last bd.idle
def dueR (bd : Bnd) (r : Rec) : Int := min (idleR bd r) (sat r.first bd.active)
def cmpDue (bd : Bnd) (a b : Rec) : Int := orI (cmpI (dueR bd a) (dueR bd b)) (cmpK a.key b.key)
def cmpLast (a b : Rec) : Int := orI (cmpI a.last b.last) (cmpK a.key b.key)
def reasonR (bd : Bnd) (r : Rec) : Int := if idleR bd r = dueR bd r then 1 else 2
theorem lex_neg {a b c : Int} : orI (cmpI a b) c < 0 ↔ a < b ∨ (a = b ∧ c < 0) := by
  unfold orI cmpI
  by_cases h1 : a < b
  · simp [h1]
  · by_cases h2 : b < a
    · simp [h1, h2]; omega
    · have : a = b := by omega
      simp [this]
theorem swo_lex {α : Type} (f : α → Int) (g : α → List UInt8) : Go.Sort.SWO (fun x y : α => decide (orI (cmpI (f x) (f y)) (Lib.compareBytes (g x) (g y)) < 0)) where
  irrefl x := by simp only [decide_eq_false_iff_not, lex_neg, cb_self]; omega
  trans x y z h1 h2 := by
    simp only [decide_eq_true_eq, lex_neg] at *
    rcases h1 with h1 | ⟨h1, h3⟩ <;> rcases h2 with h2 | ⟨h2, h4⟩
    · exact .inl (by omega)
    · exact .inl (by omega)
    · exact .inl (by omega)
    · exact .inr ⟨by omega, cb_trans _ _ _ h3 h4⟩
  ntrans x y z h1 h2 := by
    have h3 := (swo_cb g).ntrans x y z
    simp only [decide_eq_false_iff_not, lex_neg] at *
    intro h
    rcases h with h | ⟨h, h4⟩
    · omega
    · refine h3 ?_ ?_ h4
      · intro h5; exact h1 (.inr ⟨by omega, h5⟩)
      · intro h5; exact h2 (.inr ⟨by omega, h5⟩)
/-- The cache at bc. -/
def cacO (bc : Nat) (tick : Int) (bd : Bnd) (bt : Nat) (pf : Option Addr) (nf cf : Nat) : Nat × Obj := (bc, .cells (⟨tick, bd, .pointer (some ⟨bt, 0, none⟩), .slice pf nf cf⟩ : Cac).c 84 (0, 0))

theorem pu_cplus {x y : Int} (hx : U64 x) (hy : U64 y) : Pu Tryz.prog 74 [.int .u64 x, .int .u64 y] (.int .u64 (sat x y)) := by
  refine ct_body (rv := [.tmp 4]) [(0, _), (1, _)] Tryz.func74 (by kernel_rfl) Tryz.ntmps74 Tryz.results74 rfl rfl (fun w0 => ?_)
  obtain ⟨hx0, hx1⟩ := hx
  obtain ⟨hy0, hy1⟩ := hy
  refine p_seq0 ?_
  refine p_plain0 (0 :: []) ?_
  refine go_q0 4 (.assign (.const (.int .u64 0))) 23 (qv_assign rfl) ?_
  refine go_nil ?_
  change G _ _ _ _
  refine p_seq0 ?_
  refine p_plain0 (0 :: 1 :: 2 :: 3 :: 4 :: 5 :: 6 :: 7 :: []) ?_
  refine go_q0 8 (.move (.tmp 0)) 23 (qv_move rfl) ?_
  refine go_q0 9 (.move (.tmp 1)) 23 (qv_move rfl) ?_
  refine go_q0 10 (.call { callee := .value (.func 94), args := #[.tmp 8, .tmp 9, .const (.int .u64 0)], argTypes := #[23, 23, 23] }) 157 (qv_extern rfl (fun w _ => run_add64_ ⟨hx0, hx1⟩ ⟨hy0, hy1⟩ w)) ?_
  refine go_q0 7 (.move (.tmp 10)) 157 (qv_move rfl) ?_
  refine go_q0 11 (.extract (.tmp 7) 0) 23 (qv_extract rfl rfl) ?_
  refine go_q0 12 (.extract (.tmp 7) 1) 23 (qv_extract rfl rfl) ?_
  refine go_q0 5 (.assign (.tmp 11)) 23 (qv_assign rfl) ?_
  refine go_q0 6 (.assign (.tmp 12)) 23 (qv_assign rfl) ?_
  refine go_nil ?_
  change G _ _ _ _
  refine p_weaken [4, 5, 6] rfl ?_
  refine p_seq0 ?_
  refine p_seq0 ?_
  refine p_plain0 (0 :: 1 :: []) ?_
  refine go_q0 13 (.move (.tmp 6)) 23 (qv_move rfl) ?_
  refine go_q0 14 (.binOp .gtr 23 (.tmp 13) (.const (.int .u64 0)) 23) 4 (qv_gtr rfl rfl rfl) ?_
  refine go_nil ?_
  change G _ _ _ _
  refine p_weaken [4, 5, 14] rfl ?_
  refine p_cond (.tmp 14) (by kernel_rfl) rfl (fun h14 => ?_) (fun h14 => ?_)
  · replace h14 := kn h14
    refine p_seq0 ?_
    refine p_plain0 (0 :: []) ?_
    refine go_q0 4 (.assign (.const (.int .u64 18446744073709551615))) 23 (qv_assign rfl) ?_
    refine go_nil ?_
    change G _ _ _ _
    refine p_weaken [4, 5] rfl ?_
    refine p_ret0 ?_
    try dsimp only [thenQ, inBlockQ]
    try rw [if_pos rfl]
    refine ret_now (.inr rfl) (.cons (res_tmp rfl) .nil) (by repeat constructor) ?_
    refine ⟨?_, rfl⟩
    unfold sat
    rw [if_pos (by omega)]
    rfl
  replace h14 := kn h14
  refine p_skip0 ?_
  change G _ _ _ _
  refine p_weaken [4, 5] rfl ?_
  refine p_seq0 ?_
  refine p_plain0 (0 :: 1 :: []) ?_
  refine go_q0 15 (.move (.tmp 5)) 23 (qv_move rfl) ?_
  refine go_q0 4 (.assign (.tmp 15)) 23 (qv_assign rfl) ?_
  refine go_nil ?_
  change G _ _ _ _
  refine p_weaken [4] rfl ?_
  refine p_ret0 ?_
  try dsimp only [thenQ, inBlockQ]
  try rw [if_pos rfl]
  refine ret_now (.inr rfl) (.cons (res_tmp rfl) .nil) (by repeat constructor) ?_
  refine ⟨?_, rfl⟩
  unfold sat
  rw [if_neg (by omega), Int.emod_eq_of_lt (by omega) (by omega)]
  rfl
section
variable {bc bt nf cf : Nat} {tick : Int} {bd : Bnd} {pf : Option Addr} {r : Rec}
theorem ct_idle (hb : bd.Wf) (hr : r.Wf) : Ct Tryz.prog 51 [.pointer (some ⟨bc, 0, none⟩), .agg r.c].toArray [cacO bc tick bd bt pf nf cf] (fun v M' => v = .int .u64 (idleR bd r) ∧ M' = [cacO bc tick bd bt pf nf cf]) := by
  unfold cacO
  refine ct_body (rv := [.tmp 4]) [(0, _), (1, _)] Tryz.func51 (by kernel_rfl) Tryz.ntmps51 Tryz.results51 rfl rfl (fun w0 => ?_)
  refine p_seq0 ?_
  refine p_plain0 (0 :: 1 :: []) ?_
  refine go_s0 (some 3) (.box 69 (.tmp 1)) 0 ?_
  refine os_boxA rfl rfl (fun b3 => ?_)
  refine go_q0 4 (.assign (.const (.int .u64 0))) 23 (qv_assign rfl) ?_
  refine go_nil ?_
  change G _ _ _ _
  refine p_weaken [0, 3, 4] rfl ?_
  refine p_seq0 ?_
  refine p_draw (by kernel_rfl) mixed 8 9 _ (fun _ h => h) (by kernel_rfl) ?_
  refine gd_all (0 :: 1 :: 2 :: 3 :: 4 :: 5 :: 6 :: 7 :: []) _ rfl (by kernel_rfl) (by decide) (fun _ h => h) rfl ?_
  refine sq_q0 5 (.fieldAddr 69 (.tmp 3) 4) 0 (qv_field rfl fd69_4) ?_
  refine sq_q0 6 (.load 23 (.tmp 5)) 23 (qv_load rfl .auto (ldv_sca sc23 (get_Rec_40 _))) ?_
  refine sq_q0 7 (.move (.tmp 0)) 43 (qv_move rfl) ?_
  refine sq_q0 8 (.nilCheck (.tmp 7)) 0 (qv_nilCheck rfl) ?_
  refine sq_q0 9 (.fieldAddr 84 (.tmp 8) 1) 0 (qv_field rfl fd84_1) ?_
  refine sq_q0 10 (.fieldAddr 36 (.tmp 9) 1) 0 (qv_field rfl fd36_1) ?_
  refine sq_q0 11 (.load 23 (.tmp 10)) 23 (qv_load rfl .auto (ldv_sca sc23 (get_Cac_2 _))) ?_
  refine sq_p (d := 12) (op := .call { callee := .value (.func 74), args := #[.tmp 6, .tmp 11], argTypes := #[23, 23] }) (ty := 23) (g := none) (by kernel_rfl) trivial (pv_call en74 rfl (pu_cplus hr.last_ hb.idle_)) ?_
  refine SeqK.nil (fun β => ?_)
  refine gd_tail [8] rfl (by kernel_rfl) (by kernel_rfl) ?_
  refine go_q0 4 (.assign (.tmp 12)) 23 (qv_assign rfl) ?_
  refine go_nil ?_
  change G _ _ _ _
  refine p_weaken [4] rfl ?_
  refine p_ret0 ?_
  try dsimp only [thenQ, inBlockQ]
  try rw [if_pos rfl]
  refine ret_left ([(bc, .cells (⟨tick, bd, .pointer (some ⟨bt, 0, none⟩), .slice pf nf cf⟩ : Cac).c 84 (0, 0))]) (.inr rfl) (.cons (res_tmp rfl) .nil) .auto ?_
  exact ⟨rfl, rfl⟩
theorem ct_due (hb : bd.Wf) (hr : r.Wf) : Ct Tryz.prog 44 [.pointer (some ⟨bc, 0, none⟩), .agg r.c].toArray [cacO bc tick bd bt pf nf cf] (fun v M' => v = .int .u64 (dueR bd r) ∧ M' = [cacO bc tick bd bt pf nf cf]) := by
  have hI := ct_idle (bc := bc) (bt := bt) (nf := nf) (cf := cf) (tick := tick) (pf := pf) hb hr
  unfold cacO at hI ⊢
  refine ct_body (rv := [.tmp 4]) [(0, _), (1, _)] Tryz.func44 (by kernel_rfl) Tryz.ntmps44 Tryz.results44 rfl rfl (fun w0 => ?_)
  refine p_seq0 ?_
  refine p_plain0 (0 :: 1 :: []) ?_
  refine go_s0 (some 3) (.box 69 (.tmp 1)) 0 ?_
  refine os_boxA rfl rfl (fun b3 => ?_)
  refine go_q0 4 (.assign (.const (.int .u64 0))) 23 (qv_assign rfl) ?_
  refine go_nil ?_
  change G _ _ _ _
  refine p_weaken [0, 3, 4] rfl ?_
  refine p_seq0 ?_
  refine p_draw (by kernel_rfl) mixed 12 13 _ (fun _ h => h) (by kernel_rfl) ?_
  refine gd_all (0 :: 1 :: 2 :: 3 :: 4 :: 5 :: 6 :: 7 :: 8 :: 9 :: 10 :: 11 :: []) _ rfl (by kernel_rfl) (by decide) (fun _ h => h) rfl ?_
  refine sq_q0 5 (.move (.tmp 0)) 43 (qv_move rfl) ?_
  refine sq_q0 6 (.load 69 (.tmp 3)) 69 (qv_load rfl .auto (ldv_agg agg69 (extw_Rec _) (Nat.le_of_ble_eq_true rfl))) ?_
  refine sq_p (d := 7) (op := .call { callee := .value (.func 51), args := #[.tmp 5, .tmp 6], argTypes := #[43, 69] }) (ty := 23) (g := none) (by kernel_rfl) trivial (pv_callR en51 rfl .auto (hI)) ?_
  refine sq_q0 8 (.fieldAddr 69 (.tmp 3) 3) 0 (qv_field rfl fd69_3) ?_
  refine sq_q0 9 (.load 23 (.tmp 8)) 23 (qv_load rfl .auto (ldv_sca sc23 (get_Rec_39 _))) ?_
  refine sq_q0 10 (.move (.tmp 0)) 43 (qv_move rfl) ?_
  refine sq_q0 11 (.nilCheck (.tmp 10)) 0 (qv_nilCheck rfl) ?_
  refine sq_q0 12 (.fieldAddr 84 (.tmp 11) 1) 0 (qv_field rfl fd84_1) ?_
  refine sq_q0 13 (.fieldAddr 36 (.tmp 12) 2) 0 (qv_field rfl fd36_2) ?_
  refine sq_q0 14 (.load 23 (.tmp 13)) 23 (qv_load rfl .auto (ldv_sca sc23 (get_Cac_3 _))) ?_
  refine sq_p (d := 15) (op := .call { callee := .value (.func 74), args := #[.tmp 9, .tmp 14], argTypes := #[23, 23] }) (ty := 23) (g := none) (by kernel_rfl) trivial (pv_call en74 rfl (pu_cplus hr.first_ hb.active_)) ?_
  refine sq_q0 16 (.call { callee := .builtin .min, args := #[.tmp 7, .tmp 15], argTypes := #[23, 23] }) 23 (qv_min rfl rfl rfl) ?_
  refine SeqK.nil (fun β => ?_)
  refine gd_tail [12] rfl (by kernel_rfl) (by kernel_rfl) ?_
  refine go_q0 4 (.assign (.tmp 16)) 23 (qv_assign rfl) ?_
  refine go_nil ?_
  change G _ _ _ _
  refine p_weaken [4] rfl ?_
  refine p_ret0 ?_
  try dsimp only [thenQ, inBlockQ]
  try rw [if_pos rfl]
  refine ret_left ([(bc, .cells (⟨tick, bd, .pointer (some ⟨bt, 0, none⟩), .slice pf nf cf⟩ : Cac).c 84 (0, 0))]) (.inr rfl) (.cons (res_tmp rfl) .nil) .auto ?_
  exact ⟨rfl, rfl⟩
end
theorem pu_byKey {a b : Rec} (ha : a.Wf) (hb : b.Wf) : Pu Tryz.prog 49 [.agg a.c, .agg b.c] (.int .i64 (cmpK a.key b.key)) := by
  refine ct_body (rv := [.tmp 4]) [(0, _), (1, _)] Tryz.func49 (by kernel_rfl) Tryz.ntmps49 Tryz.results49 rfl rfl (fun w0 => ?_)
  refine p_seq0 ?_
  refine p_plain0 (0 :: 1 :: 2 :: []) ?_
  refine go_s0 (some 2) (.box 69 (.tmp 0)) 0 ?_
  refine os_boxA rfl rfl (fun b2 => ?_)
  refine go_s0 (some 3) (.box 69 (.tmp 1)) 0 ?_
  refine os_boxA rfl rfl (fun b3 => ?_)
  refine go_q0 4 (.assign (.const (.int .i64 0))) 3 (qv_assign rfl) ?_
  refine go_nil ?_
  change G _ _ _ _
  refine p_weaken [2, 3, 4] rfl ?_
  refine p_seq0 ?_
  refine p_plain0 (0 :: 1 :: 2 :: 3 :: 4 :: 5 :: []) ?_
  refine go_q0 5 (.fieldAddr 69 (.tmp 2) 0) 0 (qv_field rfl fd69_0) ?_
  refine go_q0 6 (.load 29 (.tmp 5)) 29 (qv_load rfl .auto (ldv_agg agg29 (ext_Rec_0_37 _) (Nat.le_of_ble_eq_true rfl))) ?_
  refine go_q0 7 (.fieldAddr 69 (.tmp 3) 0) 0 (qv_field rfl fd69_0) ?_
  refine go_q0 8 (.load 29 (.tmp 7)) 29 (qv_load rfl .auto (ldv_agg agg29 (ext_Rec_0_37 _) (Nat.le_of_ble_eq_true rfl))) ?_
  refine go_s0 (some 9) (.call { callee := .value (.func 77), args := #[.tmp 6, .tmp 8], argTypes := #[29, 29] }) 3 ?_
  refine os_callP rfl en77 rfl (pu_Cmp a.key b.key ha.key_ hb.key_) ?_
  refine go_q0 4 (.assign (.tmp 9)) 3 (qv_assign rfl) ?_
  refine go_nil ?_
  change G _ _ _ _
  refine p_weaken [4] rfl ?_
  refine p_ret0 ?_
  try dsimp only [thenQ, inBlockQ]
  try rw [if_pos rfl]
  refine ret_now (.inr rfl) (.cons (res_tmp rfl) .nil) (by repeat constructor) ?_
  exact ⟨rfl, rfl⟩
theorem pu_forced (r : Rec) : Pu Tryz.prog 43 [.agg r.c] (.int .u8 4) := by
  refine ct_body (rv := [.tmp 2]) [(0, _)] Tryz.func43 (by kernel_rfl) Tryz.ntmps43 Tryz.results43 rfl rfl (fun w0 => ?_)
  refine p_seq0 ?_
  refine p_plain0 (0 :: 1 :: []) ?_
  refine go_s0 (some 1) (.box 69 (.tmp 0)) 0 ?_
  refine os_boxA rfl rfl (fun b1 => ?_)
  refine go_q0 2 (.assign (.const (.int .u8 0))) 5 (qv_assign rfl) ?_
  refine go_nil ?_
  change G _ _ _ _
  refine p_weaken [2] rfl ?_
  refine p_seq0 ?_
  refine p_plain0 (0 :: []) ?_
  refine go_q0 2 (.assign (.const (.int .u8 4))) 5 (qv_assign rfl) ?_
  refine go_nil ?_
  change G _ _ _ _
  refine p_ret0 ?_
  try dsimp only [thenQ, inBlockQ]
  try rw [if_pos rfl]
  refine ret_now (.inr rfl) (.cons (res_tmp rfl) .nil) (by repeat constructor) ?_
  exact ⟨rfl, rfl⟩
theorem pu_isNaN (x : Int) : Pu Tryz.prog 76 [.int .u64 x] (.bool false) := by
  refine ct_body (rv := [.tmp 2]) [(0, _)] Tryz.func76 (by kernel_rfl) Tryz.ntmps76 Tryz.results76 rfl rfl (fun w0 => ?_)
  refine p_seq0 ?_
  refine p_plain0 (0 :: []) ?_
  refine go_q0 2 (.assign (.const (.bool false))) 4 (qv_assign rfl) ?_
  refine go_nil ?_
  change G _ _ _ _
  refine p_seq0 ?_
  refine p_plain0 (0 :: 1 :: 2 :: 3 :: []) ?_
  refine go_q0 3 (.move (.tmp 0)) 23 (qv_move rfl) ?_
  refine go_q0 4 (.move (.tmp 0)) 23 (qv_move rfl) ?_
  refine go_q0 5 (.binOp .neq 23 (.tmp 3) (.tmp 4) 23) 4 (qv_neq (b := false) rfl rfl (bne_eq_false_iff_eq.2 (by omega))) ?_
  refine go_q0 2 (.assign (.tmp 5)) 4 (qv_assign rfl) ?_
  refine go_nil ?_
  change G _ _ _ _
  refine p_weaken [2] rfl ?_
  refine p_ret0 ?_
  try dsimp only [thenQ, inBlockQ]
  try rw [if_pos rfl]
  refine ret_now (.inr rfl) (.cons (res_tmp rfl) .nil) (by repeat constructor) ?_
  exact ⟨rfl, rfl⟩
theorem pu_CompareU (x y : Int) : Pu Tryz.prog 48 [.int .u64 x, .int .u64 y] (.int .i64 (cmpI x y)) := by
  refine ct_body (rv := [.tmp 4]) [(0, _), (1, _)] Tryz.func48 (by kernel_rfl) Tryz.ntmps48 Tryz.results48 rfl rfl (fun w0 => ?_)
  refine p_seq0 ?_
  refine p_plain0 (0 :: []) ?_
  refine go_q0 4 (.assign (.const (.int .i64 0))) 3 (qv_assign rfl) ?_
  refine go_nil ?_
  change G _ _ _ _
  refine p_seq0 ?_
  refine p_plain0 (0 :: 1 :: 2 :: []) ?_
  refine go_q0 7 (.move (.tmp 0)) 23 (qv_move rfl) ?_
  refine go_s0 (some 8) (.call { callee := .value (.func 76), args := #[.tmp 7], argTypes := #[23] }) 4 ?_
  refine os_callP rfl en76 rfl (pu_isNaN x) ?_
  refine go_q0 5 (.assign (.tmp 8)) 4 (qv_assign rfl) ?_
  refine go_nil ?_
  change G _ _ _ _
  refine p_weaken [0, 1, 4, 5] rfl ?_
  refine p_seq0 ?_
  refine p_plain0 (0 :: 1 :: 2 :: []) ?_
  refine go_q0 9 (.move (.tmp 1)) 23 (qv_move rfl) ?_
  refine go_s0 (some 10) (.call { callee := .value (.func 76), args := #[.tmp 9], argTypes := #[23] }) 4 ?_
  refine os_callP rfl en76 rfl (pu_isNaN y) ?_
  refine go_q0 6 (.assign (.tmp 10)) 4 (qv_assign rfl) ?_
  refine go_nil ?_
  change G _ _ _ _
  refine p_weaken [0, 1, 4, 5, 6] rfl ?_
  refine p_seq0 ?_
  refine p_seq0 ?_
  refine p_plain0 (0 :: []) ?_
  refine go_q0 11 (.move (.tmp 5)) 4 (qv_move rfl) ?_
  refine go_nil ?_
  change G _ _ _ _
  refine p_weaken [0, 1, 4, 6, 11] rfl ?_
  refine p_condF (.tmp 11) (by kernel_rfl) rfl ?_
  refine p_skip0 ?_
  change G _ _ _ _
  refine p_weaken [0, 1, 4, 6] rfl ?_
  refine p_seq0 ?_
  refine p_seq0 ?_
  refine p_plain0 (0 :: []) ?_
  refine go_q0 13 (.move (.tmp 6)) 4 (qv_move rfl) ?_
  refine go_nil ?_
  change G _ _ _ _
  refine p_weaken [0, 1, 4, 13] rfl ?_
  refine p_condF (.tmp 13) (by kernel_rfl) rfl ?_
  refine p_skip0 ?_
  change G _ _ _ _
  refine p_weaken [0, 1, 4] rfl ?_
  refine p_seq0 ?_
  refine p_seq0 ?_
  refine p_plain0 (0 :: 1 :: 2 :: []) ?_
  refine go_q0 14 (.move (.tmp 0)) 23 (qv_move rfl) ?_
  refine go_q0 15 (.move (.tmp 1)) 23 (qv_move rfl) ?_
  refine go_q0 16 (.binOp .lss 23 (.tmp 14) (.tmp 15) 23) 4 (qv_lss rfl rfl rfl) ?_
  refine go_nil ?_
  change G _ _ _ _
  refine p_weaken [0, 1, 4, 16] rfl ?_
  refine p_cond (.tmp 16) (by kernel_rfl) rfl (fun h16 => ?_) (fun h16 => ?_)
  · replace h16 := kn h16
    have hv : cmpI x y = -1 := by unfold cmpI; rw [if_pos h16]
    refine p_seq0 ?_
    refine p_plain0 (0 :: []) ?_
    refine go_q0 4 (.assign (.const (.int .i64 (-1)))) 3 (qv_assign rfl) ?_
    refine go_nil ?_
    change G _ _ _ _
    refine p_weaken [0, 1, 4] rfl ?_
    refine p_ret0 ?_
    try dsimp only [thenQ, inBlockQ]
    try rw [if_pos rfl]
    refine ret_now (.inr rfl) (.cons (res_tmp rfl) .nil) (by repeat constructor) ?_
    exact ⟨by rw [hv]; rfl, rfl⟩
  replace h16 := kn h16
  refine p_skip0 ?_
  change G _ _ _ _
  refine p_weaken [0, 1, 4] rfl ?_
  refine p_seq0 ?_
  refine p_seq0 ?_
  refine p_plain0 (0 :: 1 :: 2 :: []) ?_
  refine go_q0 17 (.move (.tmp 0)) 23 (qv_move rfl) ?_
  refine go_q0 18 (.move (.tmp 1)) 23 (qv_move rfl) ?_
  refine go_q0 19 (.binOp .gtr 23 (.tmp 17) (.tmp 18) 23) 4 (qv_gtr rfl rfl rfl) ?_
  refine go_nil ?_
  change G _ _ _ _
  refine p_weaken [4, 19] rfl ?_
  refine p_cond (.tmp 19) (by kernel_rfl) rfl (fun h19 => ?_) (fun h19 => ?_)
  · replace h19 := kn h19
    have hv : cmpI x y = 1 := by unfold cmpI; rw [if_neg h16, if_pos h19]
    refine p_seq0 ?_
    refine p_plain0 (0 :: []) ?_
    refine go_q0 4 (.assign (.const (.int .i64 1))) 3 (qv_assign rfl) ?_
    refine go_nil ?_
    change G _ _ _ _
    refine p_weaken [4] rfl ?_
    refine p_ret0 ?_
    try dsimp only [thenQ, inBlockQ]
    try rw [if_pos rfl]
    refine ret_now (.inr rfl) (.cons (res_tmp rfl) .nil) (by repeat constructor) ?_
    exact ⟨by rw [hv]; rfl, rfl⟩
  replace h19 := kn h19
  have hv : cmpI x y = 0 := by unfold cmpI; rw [if_neg h16, if_neg h19]
  refine p_skip0 ?_
  change G _ _ _ _
  refine p_weaken [4] rfl ?_
  refine p_seq0 ?_
  refine p_plain0 (0 :: []) ?_
  refine go_q0 4 (.assign (.const (.int .i64 0))) 3 (qv_assign rfl) ?_
  refine go_nil ?_
  change G _ _ _ _
  refine p_ret0 ?_
  try dsimp only [thenQ, inBlockQ]
  try rw [if_pos rfl]
  refine ret_now (.inr rfl) (.cons (res_tmp rfl) .nil) (by repeat constructor) ?_
  exact ⟨by rw [hv]; rfl, rfl⟩
theorem or_at0 {x y u : Int} {i : Nat} (hu : [x, y][i]? = some u) (h : u = 0) (hz : 0 < i → x = 0) : x = 0 := by
  rcases Nat.eq_zero_or_pos i with rfl | h0
  · cases hu; omega
  · exact hz h0
theorem or_at1 {x y u : Int} {i : Nat} (hu : [x, y][i]? = some u) (h : u = 0) (hi : i = 1) : y = 0 := by
  subst hi; cases hu; omega
theorem or_val {x y u : Int} {i : Nat} (hu : [x, y][i]? = some u) (h : ¬ u = 0) (hz : 0 < i → x = 0) (hi : i < 2) : orI x y = u := by
  unfold orI
  rcases Nat.eq_zero_or_pos i with rfl | h0
  · cases hu; rw [if_neg h]
  · have : i = 1 := by omega
    subst this; cases hu; rw [if_pos (hz h0)]
/-- cmp.Or of two numbers. -/
theorem ct_Or2 {b cap : Nat} {e : TypeId} (x y : Int) : Ct Tryz.prog 47 [.slice (some ⟨b, 0, none⟩) 2 cap].toArray [(b, .cells #[.int .i64 x, .int .i64 y] e (0, 0))] (fun v M' => v = .int .i64 (orI x y) ∧ M' = [(b, .cells #[.int .i64 x, .int .i64 y] e (0, 0))]) := by
  have H : Holds (eI .i64) #[.int .i64 x, .int .i64 y] 0 [x, y] := Holds.whole rfl
  refine ct_body (rv := [.tmp 2]) [(0, _)] Tryz.func47 (by kernel_rfl) Tryz.ntmps47 Tryz.results47 rfl rfl (fun w0 => ?_)
  refine p_seq0 ?_
  refine p_plain0 (0 :: []) ?_
  refine go_q0 2 (.assign (.const (.int .i64 0))) 3 (qv_assign rfl) ?_
  refine go_nil ?_
  change G _ _ _ _
  refine p_seq0 ?_
  refine p_plain0 (0 :: []) ?_
  refine go_q0 3 (.assign (.const (.int .i64 0))) 3 (qv_assign rfl) ?_
  refine go_nil ?_
  change G _ _ _ _
  refine p_seq0 ?_
  refine p_seq0 ?_
  refine p_plain0 (0 :: 1 :: 2 :: []) ?_
  refine go_q0 6 (.move (.tmp 0)) 140 (qv_move rfl) ?_
  refine go_q0 7 (.call { callee := .builtin .len, args := #[.tmp 6], argTypes := #[140] }) 3 (qv_lenS un140 rfl) ?_
  refine go_q0 8 (.move (.const (.int .i64 0))) 3 (qv_move rfl) ?_
  refine go_nil ?_
  change G _ _ _ _
  refine p_weaken [2, 3, 6, 7, 8] rfl ?_
  refine p_block 0 (by kernel_rfl) ?_
  refine p_loopE (by kernel_rfl) (fun s m => ∃ (i : Nat), (i ≤ 2) ∧ (0 < i → x = 0) ∧ (1 < i → y = 0) ∧ Ge s ⟨[], [(3, .int .i64 0), (6, .slice (some ⟨b, 0, none⟩) 2 cap), (7, .int .i64 2), (8, .int .i64 i)], [(b, .cells #[.int .i64 x, .int .i64 y] e (0, 0))]⟩ ∧ m = 3 - i) ?_ ?_
  · exact ⟨_, ⟨0, by omega, fun h => absurd h (by omega), fun h => absurd h (by omega), ⟨rfl, ⟨[3, 6, 7, 8], rfl⟩, .auto⟩, rfl⟩⟩
  rintro s m ⟨i, hi, hz, hz2, hs, rfl⟩
  refine ge_ok hs ?_
  refine p_seq0 ?_
  refine p_plain0 (0 :: []) ?_
  refine go_q0 9 (.binOp .lss 3 (.tmp 8) (.tmp 7) 3) 0 (qv_lss rfl rfl rfl) ?_
  refine go_nil ?_
  change G _ _ _ _
  refine p_seq0 ?_
  refine p_cond (.tmp 9) (by kernel_rfl) rfl (fun h9 => ?_) (fun h9 => ?_)
  rotate_left
  · replace h9 := kn h9
    refine p_exit 0 (by kernel_rfl) ?_
    change G _ _ _ _
    refine p_weaken [3] rfl ?_
    refine p_seq0 ?_
    refine p_plain0 (0 :: 1 :: []) ?_
    refine go_q0 17 (.move (.tmp 3)) 3 (qv_move rfl) ?_
    refine go_q0 2 (.assign (.tmp 17)) 3 (qv_assign rfl) ?_
    refine go_nil ?_
    change G _ _ _ _
    refine p_weaken [2] rfl ?_
    refine p_ret0 ?_
    try dsimp only [thenQ, inBlockQ]
    try rw [if_pos rfl]
    refine ret_left ([(b, .cells #[.int .i64 x, .int .i64 y] e (0, 0))]) (.inr rfl) (.cons (res_tmp rfl) .nil) .auto ?_
    have hi2 : i = 2 := by omega
    exact ⟨by unfold orI; rw [if_pos (hz (by omega)), hz2 (by omega)]; rfl, rfl⟩
  replace h9 := kn h9
  refine p_skip0 ?_
  change G _ _ _ _
  refine p_weaken [3, 6, 7, 8] rfl ?_
  refine p_seq0 ?_
  refine p_block 1 (by kernel_rfl) ?_
  refine p_seq0 ?_
  obtain ⟨u, hu⟩ : ∃ u, [x, y][i]? = some u := ⟨_, List.getElem?_eq_getElem (by simp; omega)⟩
  refine p_plain0 (0 :: 1 :: 2 :: []) ?_
  refine go_q0 10 (.indexAddr 140 (.tmp 6) (.tmp 8)) 0 (qv_index un140 sz3 rfl rfl rfl (by omega)) ?_
  refine go_q0 11 (.load 3 (.tmp 10)) 3 (qv_load rfl .auto (ldv_el H hu sc3 (k := 0) rfl rfl)) ?_
  refine go_q0 5 (.assign (.tmp 11)) 3 (qv_assign rfl) ?_
  refine go_nil ?_
  change G _ _ _ _
  refine p_weaken [3, 5, 6, 7, 8] rfl ?_
  refine p_seq0 ?_
  refine p_plain0 (0 :: 1 :: 2 :: []) ?_
  refine go_q0 12 (.move (.tmp 5)) 3 (qv_move rfl) ?_
  refine go_q0 13 (.move (.tmp 3)) 3 (qv_move rfl) ?_
  refine go_q0 14 (.binOp .neq 3 (.tmp 12) (.tmp 13) 3) 4 (qv_neq rfl rfl rfl) ?_
  refine go_nil ?_
  change G _ _ _ _
  refine p_weaken [3, 5, 6, 7, 8, 14] rfl ?_
  refine p_cond (.tmp 14) (by kernel_rfl) rfl (fun h14 => ?_) (fun h14 => ?_)
  rotate_left
  · replace h14 := kn h14
    refine p_skip0 ?_
    change G _ _ _ _
    refine p_weaken [3, 6, 7, 8] rfl ?_
    refine p_plain0 (0 :: 1 :: []) ?_
    refine go_q0 16 (.binOp .add 3 (.tmp 8) (.const (.int .i64 1)) 3) 3 (qv_add rfl rfl (by first | exact IntWalk.i64_in _ (by omega) | exact IntWalk.i64_in _ (by dsimp only; omega) | rfl)) ?_
    refine go_q0 8 (.move (.tmp 16)) 3 (qv_move rfl) ?_
    refine go_nil ?_
    exact ⟨_, ⟨i + 1, by omega, fun _ => or_at0 hu h14 hz, fun h => or_at1 hu h14 (by omega), ⟨rfl, ⟨[3, 6, 7, 8], rfl⟩, .auto⟩, rfl⟩, by omega⟩
  replace h14 := kn h14
  have hv : orI x y = u := or_val hu h14 hz (by omega)
  refine p_seq0 ?_
  refine p_plain0 (0 :: 1 :: []) ?_
  refine go_q0 15 (.move (.tmp 5)) 3 (qv_move rfl) ?_
  refine go_q0 2 (.assign (.tmp 15)) 3 (qv_assign rfl) ?_
  refine go_nil ?_
  change G _ _ _ _
  refine p_weaken [2, 3, 6, 7, 8] rfl ?_
  refine p_ret0 ?_
  try dsimp only [thenQ, inBlockQ]
  try rw [if_pos rfl]
  refine ret_left ([(b, .cells #[.int .i64 x, .int .i64 y] e (0, 0))]) (.inr rfl) (.cons (res_tmp rfl) .nil) .auto ?_
  exact ⟨by rw [hv]; rfl, rfl⟩
end Go.Proofs.YtobmcpoejhhemaaGreat
