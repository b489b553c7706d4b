import Derived.Test.YtobmcpoejhhemaaGreatKFlow
namespace Go.Proofs.YtobmcpoejhhemaaGreat
open Go.E

def b4 (b : B16) : B16 := { x0 := b.x0, x1 := b.x1, x2 := b.x2, x3 := b.x3, x4 := 0, x5 := 0, x6 := 0, x7 := 0, x8 := 0, x9 := 0, x10 := 0, x11 := 0, x12 := 0, x13 := 0, x14 := 0, x15 := 0 }
def Adr.right (a : Adr) : Bool := a.six || decide (a.b = b4 a.b)
def B16.at (b : B16) : Nat → Int
  | 0 => b.x0 | 1 => b.x1 | 2 => b.x2 | 3 => b.x3 | 4 => b.x4 | 5 => b.x5 | 6 => b.x6 | 7 => b.x7 | 8 => b.x8 | 9 => b.x9 | 10 => b.x10 | 11 => b.x11 | 12 => b.x12 | 13 => b.x13 | 14 => b.x14 | 15 => b.x15 | _ => 0
theorem adr_at (a : Adr) {i : Nat} (h : i < 16) : a.c[0 + 1 + i * 1]? = some (.int .u8 (a.b.at i)) := by
  have : i = 0 ∨ i = 1 ∨ i = 2 ∨ i = 3 ∨ i = 4 ∨ i = 5 ∨ i = 6 ∨ i = 7 ∨ i = 8 ∨ i = 9 ∨ i = 10 ∨ i = 11 ∨ i = 12 ∨ i = 13 ∨ i = 14 ∨ i = 15 := by omega
  rcases this with rfl | rfl | rfl | rfl | rfl | rfl | rfl | rfl | rfl | rfl | rfl | rfl | rfl | rfl | rfl | rfl <;> rfl
theorem b4_iff (b : B16) : b = b4 b ↔ ∀ j, 4 ≤ j → j < 16 → b.at j = 0 := by
  constructor
  · intro h j h1 h2
    rw [h]
    have : j = 4 ∨ j = 5 ∨ j = 6 ∨ j = 7 ∨ j = 8 ∨ j = 9 ∨ j = 10 ∨ j = 11 ∨ j = 12 ∨ j = 13 ∨ j = 14 ∨ j = 15 := by omega
    rcases this with rfl | rfl | rfl | rfl | rfl | rfl | rfl | rfl | rfl | rfl | rfl | rfl <;> rfl
  · intro h
    obtain ⟨x0, x1, x2, x3, x4, x5, x6, x7, x8, x9, x10, x11, x12, x13, x14, x15⟩ := b
    simp only [b4, B16.mk.injEq, true_and]
    exact ⟨h 4 (by omega) (by omega), h 5 (by omega) (by omega), h 6 (by omega) (by omega), h 7 (by omega) (by omega), h 8 (by omega) (by omega), h 9 (by omega) (by omega), h 10 (by omega) (by omega), h 11 (by omega) (by omega), h 12 (by omega) (by omega), h 13 (by omega) (by omega), h 14 (by omega) (by omega), h 15 (by omega) (by omega)⟩

theorem pu_size6 (b : B16) : Pu Tryz.prog 78 [.agg (⟨true, b⟩ : Adr).c] (.int .i64 16) := by
  refine ct_body (rv := [.tmp 2]) [(0, _)] Tryz.func78 (by kernel_rfl) Tryz.ntmps78 Tryz.results78 rfl rfl (fun w0 => ?_)
  refine p_seq0 ?_
  refine p_plain0 (0 :: 1 :: []) ?_
  refine go_s0 (some 1) (.box 26 (.tmp 0)) 0 ?_
  refine os_boxA rfl rfl (fun b1 => ?_)
  refine go_q0 2 (.assign (.const (.int .i64 0))) 3 (qv_assign rfl) ?_
  refine go_nil ?_
  change G _ _ _ _
  refine p_weaken [1, 2] rfl ?_
  refine p_seq0 ?_
  refine p_seq0 ?_
  refine p_plain0 (0 :: 1 :: []) ?_
  refine go_q0 3 (.fieldAddr 26 (.tmp 1) 0) 0 (qv_field rfl fd26_0) ?_
  refine go_q0 4 (.load 4 (.tmp 3)) 4 (qv_load rfl .auto (ldv_sca sc4 (get_Adr_0 _))) ?_
  refine go_nil ?_
  change G _ _ _ _
  refine p_weaken [2, 4] rfl ?_
  refine p_cond (.tmp 4) (by kernel_rfl) rfl (fun h4 => ?_) (fun h4 => ?_)
  rotate_left
  · replace h4 := kn h4
    cases h4
  replace h4 := kn h4
  refine p_seq0 ?_
  refine p_plain0 (0 :: []) ?_
  refine go_q0 2 (.assign (.const (.int .i64 16))) 3 (qv_assign rfl) ?_
  refine go_nil ?_
  change G _ _ _ _
  refine p_weaken [2] rfl ?_
  refine p_ret0 ?_
  try dsimp only [thenQ, inBlockQ]
  try rw [if_pos rfl]
  refine ret_now (.inr rfl) (.cons (res_tmp rfl) .nil) (by repeat constructor) ?_
  exact ⟨rfl, rfl⟩
theorem pu_size4 (b : B16) : Pu Tryz.prog 78 [.agg (⟨false, b⟩ : Adr).c] (.int .i64 4) := by
  refine ct_body (rv := [.tmp 2]) [(0, _)] Tryz.func78 (by kernel_rfl) Tryz.ntmps78 Tryz.results78 rfl rfl (fun w0 => ?_)
  refine p_seq0 ?_
  refine p_plain0 (0 :: 1 :: []) ?_
  refine go_s0 (some 1) (.box 26 (.tmp 0)) 0 ?_
  refine os_boxA rfl rfl (fun b1 => ?_)
  refine go_q0 2 (.assign (.const (.int .i64 0))) 3 (qv_assign rfl) ?_
  refine go_nil ?_
  change G _ _ _ _
  refine p_weaken [1, 2] rfl ?_
  refine p_seq0 ?_
  refine p_seq0 ?_
  refine p_plain0 (0 :: 1 :: []) ?_
  refine go_q0 3 (.fieldAddr 26 (.tmp 1) 0) 0 (qv_field rfl fd26_0) ?_
  refine go_q0 4 (.load 4 (.tmp 3)) 4 (qv_load rfl .auto (ldv_sca sc4 (get_Adr_0 _))) ?_
  refine go_nil ?_
  change G _ _ _ _
  refine p_weaken [2, 4] rfl ?_
  refine p_cond (.tmp 4) (by kernel_rfl) rfl (fun h4 => ?_) (fun h4 => ?_)
  · replace h4 := kn h4
    cases h4
  replace h4 := kn h4
  refine p_skip0 ?_
  change G _ _ _ _
  refine p_weaken [2] rfl ?_
  refine p_seq0 ?_
  refine p_plain0 (0 :: []) ?_
  refine go_q0 2 (.assign (.const (.int .i64 4))) 3 (qv_assign rfl) ?_
  refine go_nil ?_
  change G _ _ _ _
  refine p_ret0 ?_
  try dsimp only [thenQ, inBlockQ]
  try rw [if_pos rfl]
  refine ret_now (.inr rfl) (.cons (res_tmp rfl) .nil) (by repeat constructor) ?_
  exact ⟨rfl, rfl⟩
theorem pu_Right6 (b : B16) : Pu Tryz.prog 54 [.agg (⟨true, b⟩ : Adr).c] (.bool true) := by
  refine ct_body (rv := [.tmp 2]) [(0, _)] Tryz.func54 (by kernel_rfl) Tryz.ntmps54 Tryz.results54 rfl rfl (fun w0 => ?_)
  refine p_seq0 ?_
  refine p_plain0 (0 :: 1 :: []) ?_
  refine go_s0 (some 1) (.box 26 (.tmp 0)) 0 ?_
  refine os_boxA rfl rfl (fun b1 => ?_)
  refine go_q0 2 (.assign (.const (.bool false))) 4 (qv_assign rfl) ?_
  refine go_nil ?_
  change G _ _ _ _
  refine p_weaken [1, 2] rfl ?_
  refine p_seq0 ?_
  refine p_plain0 (0 :: []) ?_
  refine go_s0 (some 3) (.alloc 24) 0 ?_
  refine os_allocA rfl ze24 (fun b3 => ?_)
  refine go_nil ?_
  change G _ _ _ _
  refine p_seq0 ?_
  refine p_draw (by kernel_rfl) mixed 5 6 _ (fun _ h => h) (by kernel_rfl) ?_
  refine gd_all (0 :: 1 :: 2 :: 3 :: 4 :: []) _ rfl (by kernel_rfl) (by decide) (fun _ h => h) rfl ?_
  refine sq_q0 4 (.load 26 (.tmp 1)) 26 (qv_load rfl .auto (ldv_agg agg26 (extw_Adr _) (Nat.le_of_ble_eq_true rfl))) ?_
  refine sq_p (d := 5) (op := .call { callee := .value (.func 78), args := #[.tmp 4], argTypes := #[26] }) (ty := 3) (g := none) (by kernel_rfl) trivial (pv_call en78 rfl (pu_size6 b)) ?_
  refine sq_q0 6 (.slice 24 (.tmp 3) none (some (.tmp 5)) none) 143 (qv_slA0 un24 sz5 rfl rfl (bd_some (n := 16) rfl rfl) (by omega)) ?_
  refine sq_q0 7 (.fieldAddr 26 (.tmp 1) 1) 0 (qv_field rfl fd26_1) ?_
  refine sq_q0 8 (.slice 24 (.tmp 7) none none none) 143 (qv_slA0 un24 sz5 rfl rfl bd_none (Nat.le_refl _)) ?_
  refine SeqK.nil (fun β => ?_)
  refine gd_tail [5] rfl (by kernel_rfl) (by kernel_rfl) ?_
  refine go_s0 (some 9) (.call { callee := .builtin .copy, args := #[.tmp 6, .tmp 8], argTypes := #[143, 143] }) 3 ?_
  refine os_copy (n := 16) (cur' := b.c) (fz := (0, 0)) rfl un143 (by kernel_rfl) rfl rfl (by decide) (by repeat constructor) (Nat.le_of_ble_eq_true rfl) (one_Adr _) (by repeat constructor) (Nat.le_of_ble_eq_true rfl) (by kernel_rfl) ?_
  refine go_nil ?_
  change G _ _ _ _
  refine p_weaken [1, 2, 3] rfl ?_
  refine p_seq0 ?_
  refine p_plain0 (0 :: 1 :: 2 :: 3 :: 4 :: []) ?_
  refine go_q0 10 (.fieldAddr 26 (.tmp 1) 1) 0 (qv_field rfl fd26_1) ?_
  refine go_q0 11 (.load 24 (.tmp 10)) 24 (qv_load rfl .auto (ldv_agg agg24 (ext_Adr_1_16 _) (Nat.le_of_ble_eq_true rfl))) ?_
  refine go_q0 12 (.load 24 (.tmp 3)) 24 (qv_load rfl .auto (ldv_agg agg24 (extw_B16 _) (Nat.le_of_ble_eq_true rfl))) ?_
  refine go_q0 13 (.binOp .eql 24 (.tmp 11) (.tmp 12) 24) 4 (qv_eql_24 (b := true) rfl rfl (by simp)) ?_
  refine go_q0 2 (.assign (.tmp 13)) 4 (qv_assign rfl) ?_
  refine go_nil ?_
  change G _ _ _ _
  refine p_weaken [2] rfl ?_
  refine p_ret0 ?_
  try dsimp only [thenQ, inBlockQ]
  try rw [if_pos rfl]
  refine ret_now (.inr rfl) (.cons (res_tmp rfl) .nil) (by repeat constructor) ?_
  exact ⟨rfl, rfl⟩
theorem pu_Right4 (b : B16) : Pu Tryz.prog 54 [.agg (⟨false, b⟩ : Adr).c] (.bool (decide (b = b4 b))) := by
  refine ct_body (rv := [.tmp 2]) [(0, _)] Tryz.func54 (by kernel_rfl) Tryz.ntmps54 Tryz.results54 rfl rfl (fun w0 => ?_)
  refine p_seq0 ?_
  refine p_plain0 (0 :: 1 :: []) ?_
  refine go_s0 (some 1) (.box 26 (.tmp 0)) 0 ?_
  refine os_boxA rfl rfl (fun b1 => ?_)
  refine go_q0 2 (.assign (.const (.bool false))) 4 (qv_assign rfl) ?_
  refine go_nil ?_
  change G _ _ _ _
  refine p_weaken [1, 2] rfl ?_
  refine p_seq0 ?_
  refine p_plain0 (0 :: []) ?_
  refine go_s0 (some 3) (.alloc 24) 0 ?_
  refine os_allocA rfl ze24 (fun b3 => ?_)
  refine go_nil ?_
  change G _ _ _ _
  refine p_seq0 ?_
  refine p_draw (by kernel_rfl) mixed 5 6 _ (fun _ h => h) (by kernel_rfl) ?_
  refine gd_all (0 :: 1 :: 2 :: 3 :: 4 :: []) _ rfl (by kernel_rfl) (by decide) (fun _ h => h) rfl ?_
  refine sq_q0 4 (.load 26 (.tmp 1)) 26 (qv_load rfl .auto (ldv_agg agg26 (extw_Adr _) (Nat.le_of_ble_eq_true rfl))) ?_
  refine sq_p (d := 5) (op := .call { callee := .value (.func 78), args := #[.tmp 4], argTypes := #[26] }) (ty := 3) (g := none) (by kernel_rfl) trivial (pv_call en78 rfl (pu_size4 b)) ?_
  refine sq_q0 6 (.slice 24 (.tmp 3) none (some (.tmp 5)) none) 143 (qv_slA0 un24 sz5 rfl rfl (bd_some (n := 4) rfl rfl) (by omega)) ?_
  refine sq_q0 7 (.fieldAddr 26 (.tmp 1) 1) 0 (qv_field rfl fd26_1) ?_
  refine sq_q0 8 (.slice 24 (.tmp 7) none none none) 143 (qv_slA0 un24 sz5 rfl rfl bd_none (Nat.le_refl _)) ?_
  refine SeqK.nil (fun β => ?_)
  refine gd_tail [5] rfl (by kernel_rfl) (by kernel_rfl) ?_
  refine go_s0 (some 9) (.call { callee := .builtin .copy, args := #[.tmp 6, .tmp 8], argTypes := #[143, 143] }) 3 ?_
  refine os_copy (n := 4) (cur' := (b4 b).c) (fz := (0, 0)) rfl un143 (by kernel_rfl) rfl rfl (by decide) (by repeat constructor) (Nat.le_of_ble_eq_true rfl) (one_Adr _) (by repeat constructor) (Nat.le_of_ble_eq_true rfl) (by kernel_rfl) ?_
  refine go_nil ?_
  change G _ _ _ _
  refine p_weaken [1, 2, 3] rfl ?_
  refine p_seq0 ?_
  refine p_plain0 (0 :: 1 :: 2 :: 3 :: 4 :: []) ?_
  refine go_q0 10 (.fieldAddr 26 (.tmp 1) 1) 0 (qv_field rfl fd26_1) ?_
  refine go_q0 11 (.load 24 (.tmp 10)) 24 (qv_load rfl .auto (ldv_agg agg24 (ext_Adr_1_16 _) (Nat.le_of_ble_eq_true rfl))) ?_
  refine go_q0 12 (.load 24 (.tmp 3)) 24 (qv_load rfl .auto (ldv_agg agg24 (extw_B16 _) (Nat.le_of_ble_eq_true rfl))) ?_
  refine go_q0 13 (.binOp .eql 24 (.tmp 11) (.tmp 12) 24) 4 (qv_eql_24 rfl rfl rfl) ?_
  refine go_q0 2 (.assign (.tmp 13)) 4 (qv_assign rfl) ?_
  refine go_nil ?_
  change G _ _ _ _
  refine p_weaken [2] rfl ?_
  refine p_ret0 ?_
  try dsimp only [thenQ, inBlockQ]
  try rw [if_pos rfl]
  refine ret_now (.inr rfl) (.cons (res_tmp rfl) .nil) (by repeat constructor) ?_
  exact ⟨rfl, rfl⟩
theorem pu_AdrRight (a : Adr) : Pu Tryz.prog 54 [.agg a.c] (.bool a.right) := by
  obtain ⟨six, b⟩ := a
  cases six with
  | true => exact pu_Right6 b
  | false => simpa [Adr.right] using pu_Right4 b
theorem pu_refAdrRight (a : Adr) : Pu Tryz.prog 88 [.agg a.c] (.bool a.right) := by
  refine ct_body (rv := [.tmp 2]) [(0, _)] Tryz.func88 (by kernel_rfl) Tryz.ntmps88 Tryz.results88 rfl rfl (fun w0 => ?_)
  refine p_seq0 ?_
  refine p_plain0 (0 :: 1 :: []) ?_
  refine go_s0 (some 1) (.box 90 (.tmp 0)) 0 ?_
  refine os_boxA rfl rfl (fun b1 => ?_)
  refine go_q0 2 (.assign (.const (.bool false))) 4 (qv_assign rfl) ?_
  refine go_nil ?_
  change G _ _ _ _
  refine p_weaken [1, 2] rfl ?_
  refine p_seq0 ?_
  refine p_seq0 ?_
  refine p_plain0 (0 :: []) ?_
  refine go_q0 3 (.assign (.const (.int .i64 4))) 3 (qv_assign rfl) ?_
  refine go_nil ?_
  change G _ _ _ _
  refine p_block 0 (by kernel_rfl) ?_
  refine p_loopE (by kernel_rfl) (fun s m => ∃ (i : Nat), (4 ≤ i ∧ i ≤ 16) ∧ (∀ j, 4 ≤ j → j < i → a.six = true ∨ a.b.at j = 0) ∧ Ge s ⟨[], [(1, .pointer (some ⟨b1, 0, none⟩)), (2, .bool false), (3, .int .i64 i)], [(b1, .cells a.c 90 (0, 0))]⟩ ∧ m = 16 - i) ?_ ?_
  · exact ⟨_, ⟨4, by omega, by omega, ⟨rfl, ⟨[1, 2, 3], rfl⟩, .auto⟩, rfl⟩⟩
  rintro s m ⟨i, hi, hz, hs, rfl⟩
  refine ge_ok hs ?_
  refine p_seq0 ?_
  refine p_seq0 ?_
  refine p_plain0 (0 :: 1 :: []) ?_
  refine go_q0 4 (.move (.tmp 3)) 3 (qv_move rfl) ?_
  refine go_q0 5 (.binOp .lss 3 (.tmp 4) (.const (.int .i64 16)) 3) 4 (qv_lss rfl rfl rfl) ?_
  refine go_nil ?_
  change G _ _ _ _
  refine p_weaken [1, 2, 3, 5] rfl ?_
  refine p_cond (.tmp 5) (by kernel_rfl) rfl (fun h5 => ?_) (fun h5 => ?_)
  rotate_left
  · replace h5 := kn h5
    refine p_exit 0 (by kernel_rfl) ?_
    change G _ _ _ _
    refine p_weaken [2] rfl ?_
    refine p_seq0 ?_
    refine p_plain0 (0 :: []) ?_
    refine go_q0 2 (.assign (.const (.bool true))) 4 (qv_assign rfl) ?_
    refine go_nil ?_
    change G _ _ _ _
    refine p_ret0 ?_
    try dsimp only [thenQ, inBlockQ]
    try rw [if_pos rfl]
    refine ret_now (.inr rfl) (.cons (res_tmp rfl) .nil) (by repeat constructor) ?_
    refine ⟨?_, rfl⟩
    have hi' : i = 16 := by omega
    subst hi'
    cases h6 : a.six
    · have : a.b = b4 a.b := (b4_iff a.b).2 fun j h1 h2 => (hz j h1 h2).resolve_left (by simp [h6])
      simp [Adr.right, h6, ← this]
      rfl
    · simp [Adr.right, h6]
      rfl
  replace h5 := kn h5
  refine p_skip0 ?_
  change G _ _ _ _
  refine p_weaken [1, 2, 3] rfl ?_
  refine p_seq0 ?_
  refine p_block 1 (by kernel_rfl) ?_
  refine p_seq0 ?_
  refine p_plain0 (0 :: 1 :: 2 :: 3 :: 4 :: 5 :: 6 :: 7 :: 8 :: 9 :: []) ?_
  refine go_q0 8 (.fieldAddr 90 (.tmp 1) 0) 0 (qv_field rfl fd90_0) ?_
  refine go_q0 9 (.load 4 (.tmp 8)) 4 (qv_load rfl .auto (ldv_sca sc4 (get_Adr_0 _))) ?_
  refine go_q0 10 (.unOp .not 4 (.tmp 9)) 4 (qv_not rfl) ?_
  refine go_q0 11 (.move (.tmp 10)) 4 (qv_move rfl) ?_
  refine go_case (d := 11) rfl (fun g11 => ?_) (fun g11 => ?_)
  rotate_left
  · replace g11 := kn g11
    refine go_n (d := 12) (op := .move (.tmp 3)) (ty := 3) (g := some (3, true)) (by kernel_rfl) ⟨11, _, by kernel_rfl, rfl, rfl⟩ rfl ?_
    refine go_n (d := 13) (op := .fieldAddr 90 (.tmp 1) 1) (ty := 0) (g := some (3, true)) (by kernel_rfl) ⟨11, _, by kernel_rfl, rfl, rfl⟩ rfl ?_
    refine go_n (d := 14) (op := .indexAddr 24 (.tmp 13) (.tmp 12)) (ty := 0) (g := some (3, true)) (by kernel_rfl) ⟨11, _, by kernel_rfl, rfl, rfl⟩ rfl ?_
    refine go_n (d := 15) (op := .load 5 (.tmp 14)) (ty := 5) (g := some (3, true)) (by kernel_rfl) ⟨11, _, by kernel_rfl, rfl, rfl⟩ rfl ?_
    refine go_n (d := 16) (op := .binOp .neq 5 (.tmp 15) (.const (.int .u8 0)) 5) (ty := 4) (g := some (3, true)) (by kernel_rfl) ⟨11, _, by kernel_rfl, rfl, rfl⟩ rfl ?_
    refine go_q0 17 (.pick (.tmp 11) (.tmp 16) (.const (.bool false))) 4 (qv_pick_f rfl rfl) ?_
    refine go_nil ?_
    change G _ _ _ _
    refine p_weaken [1, 2, 3, 17] rfl ?_
    refine p_condF (.tmp 17) (by kernel_rfl) rfl ?_
    refine p_skip0 ?_
    change G _ _ _ _
    refine p_weaken [1, 2, 3] rfl ?_
    have hz' : ∀ j, 4 ≤ j → j < i + 1 → a.six = true ∨ a.b.at j = 0 := fun j h1 h2 => by
      by_cases hj : j < i
      · exact hz j h1 hj
      · have : j = i := by omega
        subst this
        first | exact Or.inr h17 | exact Or.inl (by simpa using g11)
    refine p_plain0 (0 :: 1 :: 2 :: []) ?_
    refine go_q0 6 (.move (.tmp 3)) 3 (qv_move rfl) ?_
    refine go_q0 7 (.binOp .add 3 (.tmp 6) (.const (.int .i64 1)) 3) 3 (qv_add rfl rfl (by first | exact IntWalk.i64_in _ (by omega) | exact IntWalk.i64_in _ (by dsimp only; omega) | rfl)) ?_
    refine go_q0 3 (.assign (.tmp 7)) 3 (qv_assign rfl) ?_
    refine go_nil ?_
    exact ⟨_, ⟨i + 1, by omega, hz', ⟨rfl, ⟨[1, 2, 3], rfl⟩, .auto⟩, rfl⟩, by omega⟩
  replace g11 := kn g11
  refine go_q (d := 12) (op := .move (.tmp 3)) (ty := 3) (g := some (3, true)) (by kernel_rfl) ⟨11, by kernel_rfl, rfl⟩ rfl (qv_move rfl) ?_
  refine go_q (d := 13) (op := .fieldAddr 90 (.tmp 1) 1) (ty := 0) (g := some (3, true)) (by kernel_rfl) ⟨11, by kernel_rfl, rfl⟩ rfl (qv_field rfl fd90_1) ?_
  refine go_q (d := 14) (op := .indexAddr 24 (.tmp 13) (.tmp 12)) (ty := 0) (g := some (3, true)) (by kernel_rfl) ⟨11, by kernel_rfl, rfl⟩ rfl (qv_indexA un24 sz5 rfl rfl (j := i) rfl (by omega)) ?_
  refine go_q (d := 15) (op := .load 5 (.tmp 14)) (ty := 5) (g := some (3, true)) (by kernel_rfl) ⟨11, by kernel_rfl, rfl⟩ rfl (qv_load rfl .auto (ldv_sca sc5 (adr_at a (by omega)))) ?_
  refine go_q (d := 16) (op := .binOp .neq 5 (.tmp 15) (.const (.int .u8 0)) 5) (ty := 4) (g := some (3, true)) (by kernel_rfl) ⟨11, by kernel_rfl, rfl⟩ rfl (qv_neq rfl rfl rfl) ?_
  refine go_q0 17 (.pick (.tmp 11) (.tmp 16) (.const (.bool false))) 4 (qv_pick_t rfl rfl) ?_
  refine go_nil ?_
  change G _ _ _ _
  refine p_weaken [1, 2, 3, 17] rfl ?_
  refine p_cond (.tmp 17) (by kernel_rfl) rfl (fun h17 => ?_) (fun h17 => ?_)
  · replace h17 := kn h17
    refine p_seq0 ?_
    refine p_plain0 (0 :: []) ?_
    refine go_q0 2 (.assign (.const (.bool false))) 4 (qv_assign rfl) ?_
    refine go_nil ?_
    change G _ _ _ _
    refine p_weaken [1, 2, 3] rfl ?_
    refine p_ret0 ?_
    try dsimp only [thenQ, inBlockQ]
    try rw [if_pos rfl]
    refine ret_now (.inr rfl) (.cons (res_tmp rfl) .nil) (by repeat constructor) ?_
    refine ⟨?_, rfl⟩
    have h6 : a.six = false := by simpa using g11
    have : ¬ a.b = b4 a.b := fun h => h17 ((b4_iff a.b).1 h i (by omega) (by omega))
    simp [Adr.right, h6, this]
    rfl
  replace h17 := kn h17
  have hz' : ∀ j, 4 ≤ j → j < i + 1 → a.six = true ∨ a.b.at j = 0 := fun j h1 h2 => by
    by_cases hj : j < i
    · exact hz j h1 hj
    · have : j = i := by omega
      subst this
      exact Or.inr h17
  refine p_skip0 ?_
  change G _ _ _ _
  refine p_weaken [1, 2, 3] rfl ?_
  have hz' : ∀ j, 4 ≤ j → j < i + 1 → a.six = true ∨ a.b.at j = 0 := fun j h1 h2 => by
    by_cases hj : j < i
    · exact hz j h1 hj
    · have : j = i := by omega
      subst this
      first | exact Or.inr h17 | exact Or.inl (by simpa using g11)
  refine p_plain0 (0 :: 1 :: 2 :: []) ?_
  refine go_q0 6 (.move (.tmp 3)) 3 (qv_move rfl) ?_
  refine go_q0 7 (.binOp .add 3 (.tmp 6) (.const (.int .i64 1)) 3) 3 (qv_add rfl rfl (by first | exact IntWalk.i64_in _ (by omega) | exact IntWalk.i64_in _ (by dsimp only; omega) | rfl)) ?_
  refine go_q0 3 (.assign (.tmp 7)) 3 (qv_assign rfl) ?_
  refine go_nil ?_
  exact ⟨_, ⟨i + 1, by omega, hz', ⟨rfl, ⟨[1, 2, 3], rfl⟩, .auto⟩, rfl⟩, by omega⟩

def ports (x : Int) : Bool := decide (x = 6) || decide (x = 17)
def icmp (x : Int) : Bool := decide (x = 1) || decide (x = 58)

theorem pu_ports (x : Int) : Pu Tryz.prog 52 [.int .u8 x] (.bool (ports x)) := by
  refine ct_body (rv := [.tmp 2]) [(0, _)] Tryz.func52 (by kernel_rfl) Tryz.ntmps52 Tryz.results52 rfl rfl (fun w0 => ?_)
  refine p_seq0 ?_
  refine p_plain0 (0 :: []) ?_
  refine go_q0 2 (.assign (.const (.bool false))) 4 (qv_assign rfl) ?_
  refine go_nil ?_
  change G _ _ _ _
  refine p_seq0 ?_
  refine p_plain0 (0 :: 1 :: 2 :: 3 :: 4 :: 5 :: 6 :: []) ?_
  refine go_q0 3 (.move (.tmp 0)) 5 (qv_move rfl) ?_
  refine go_q0 4 (.binOp .eql 5 (.tmp 3) (.const (.int .u8 6)) 5) 4 (qv_eql rfl rfl rfl) ?_
  refine go_q0 5 (.move (.tmp 4)) 4 (qv_move rfl) ?_
  refine go_case (d := 5) rfl (fun g5 => ?_) (fun g5 => ?_)
  · replace g5 := kn g5
    refine go_n (d := 6) (op := .move (.tmp 0)) (ty := 5) (g := some (2, false)) (by kernel_rfl) ⟨5, _, by kernel_rfl, rfl, rfl⟩ rfl ?_
    refine go_n (d := 7) (op := .binOp .eql 5 (.tmp 6) (.const (.int .u8 17)) 5) (ty := 4) (g := some (2, false)) (by kernel_rfl) ⟨5, _, by kernel_rfl, rfl, rfl⟩ rfl ?_
    refine go_q0 8 (.pick (.tmp 5) (.const (.bool true)) (.tmp 7)) 4 (qv_pick_t rfl rfl) ?_
    refine go_q0 2 (.assign (.tmp 8)) 4 (qv_assign rfl) ?_
    refine go_nil ?_
    change G _ _ _ _
    refine p_weaken [2] rfl ?_
    refine p_ret0 ?_
    try dsimp only [thenQ, inBlockQ]
    try rw [if_pos rfl]
    refine ret_now (.inr rfl) (.cons (res_tmp rfl) .nil) (by repeat constructor) ?_
    refine ⟨congrArg Value.bool (?_ : (_ : Bool) = _), rfl⟩; unfold ports; (try simp [*]); try rfl
  replace g5 := kn g5
  refine go_q (d := 6) (op := .move (.tmp 0)) (ty := 5) (g := some (2, false)) (by kernel_rfl) ⟨5, by kernel_rfl, rfl⟩ rfl (qv_move rfl) ?_
  refine go_q (d := 7) (op := .binOp .eql 5 (.tmp 6) (.const (.int .u8 17)) 5) (ty := 4) (g := some (2, false)) (by kernel_rfl) ⟨5, by kernel_rfl, rfl⟩ rfl (qv_eql rfl rfl rfl) ?_
  refine go_q0 8 (.pick (.tmp 5) (.const (.bool true)) (.tmp 7)) 4 (qv_pick_f rfl rfl) ?_
  refine go_q0 2 (.assign (.tmp 8)) 4 (qv_assign rfl) ?_
  refine go_nil ?_
  change G _ _ _ _
  refine p_weaken [2] rfl ?_
  refine p_ret0 ?_
  try dsimp only [thenQ, inBlockQ]
  try rw [if_pos rfl]
  refine ret_now (.inr rfl) (.cons (res_tmp rfl) .nil) (by repeat constructor) ?_
  refine ⟨congrArg Value.bool (?_ : (_ : Bool) = _), rfl⟩; unfold ports; (try simp [*]); try rfl

theorem pu_icmp (x : Int) : Pu Tryz.prog 53 [.int .u8 x] (.bool (icmp x)) := by
  refine ct_body (rv := [.tmp 2]) [(0, _)] Tryz.func53 (by kernel_rfl) Tryz.ntmps53 Tryz.results53 rfl rfl (fun w0 => ?_)
  refine p_seq0 ?_
  refine p_plain0 (0 :: []) ?_
  refine go_q0 2 (.assign (.const (.bool false))) 4 (qv_assign rfl) ?_
  refine go_nil ?_
  change G _ _ _ _
  refine p_seq0 ?_
  refine p_plain0 (0 :: 1 :: 2 :: 3 :: 4 :: 5 :: 6 :: []) ?_
  refine go_q0 3 (.move (.tmp 0)) 5 (qv_move rfl) ?_
  refine go_q0 4 (.binOp .eql 5 (.tmp 3) (.const (.int .u8 1)) 5) 4 (qv_eql rfl rfl rfl) ?_
  refine go_q0 5 (.move (.tmp 4)) 4 (qv_move rfl) ?_
  refine go_case (d := 5) rfl (fun g5 => ?_) (fun g5 => ?_)
  · replace g5 := kn g5
    refine go_n (d := 6) (op := .move (.tmp 0)) (ty := 5) (g := some (2, false)) (by kernel_rfl) ⟨5, _, by kernel_rfl, rfl, rfl⟩ rfl ?_
    refine go_n (d := 7) (op := .binOp .eql 5 (.tmp 6) (.const (.int .u8 58)) 5) (ty := 4) (g := some (2, false)) (by kernel_rfl) ⟨5, _, by kernel_rfl, rfl, rfl⟩ rfl ?_
    refine go_q0 8 (.pick (.tmp 5) (.const (.bool true)) (.tmp 7)) 4 (qv_pick_t rfl rfl) ?_
    refine go_q0 2 (.assign (.tmp 8)) 4 (qv_assign rfl) ?_
    refine go_nil ?_
    change G _ _ _ _
    refine p_weaken [2] rfl ?_
    refine p_ret0 ?_
    try dsimp only [thenQ, inBlockQ]
    try rw [if_pos rfl]
    refine ret_now (.inr rfl) (.cons (res_tmp rfl) .nil) (by repeat constructor) ?_
    refine ⟨congrArg Value.bool (?_ : (_ : Bool) = _), rfl⟩; unfold icmp; (try simp [*]); try rfl
  replace g5 := kn g5
  refine go_q (d := 6) (op := .move (.tmp 0)) (ty := 5) (g := some (2, false)) (by kernel_rfl) ⟨5, by kernel_rfl, rfl⟩ rfl (qv_move rfl) ?_
  refine go_q (d := 7) (op := .binOp .eql 5 (.tmp 6) (.const (.int .u8 58)) 5) (ty := 4) (g := some (2, false)) (by kernel_rfl) ⟨5, by kernel_rfl, rfl⟩ rfl (qv_eql rfl rfl rfl) ?_
  refine go_q0 8 (.pick (.tmp 5) (.const (.bool true)) (.tmp 7)) 4 (qv_pick_f rfl rfl) ?_
  refine go_q0 2 (.assign (.tmp 8)) 4 (qv_assign rfl) ?_
  refine go_nil ?_
  change G _ _ _ _
  refine p_weaken [2] rfl ?_
  refine p_ret0 ?_
  try dsimp only [thenQ, inBlockQ]
  try rw [if_pos rfl]
  refine ret_now (.inr rfl) (.cons (res_tmp rfl) .nil) (by repeat constructor) ?_
  refine ⟨congrArg Value.bool (?_ : (_ : Bool) = _), rfl⟩; unfold icmp; (try simp [*]); try rfl

theorem pu_refPorts (x : Int) : Pu Tryz.prog 89 [.int .u8 x] (.bool (ports x)) := by
  refine ct_body (rv := [.tmp 2]) [(0, _)] Tryz.func89 (by kernel_rfl) Tryz.ntmps89 Tryz.results89 rfl rfl (fun w0 => ?_)
  refine p_seq0 ?_
  refine p_plain0 (0 :: []) ?_
  refine go_q0 2 (.assign (.const (.bool false))) 4 (qv_assign rfl) ?_
  refine go_nil ?_
  change G _ _ _ _
  refine p_seq0 ?_
  refine p_plain0 (0 :: 1 :: 2 :: 3 :: 4 :: 5 :: 6 :: []) ?_
  refine go_q0 3 (.move (.tmp 0)) 5 (qv_move rfl) ?_
  refine go_q0 4 (.binOp .eql 5 (.tmp 3) (.const (.int .u8 6)) 5) 4 (qv_eql rfl rfl rfl) ?_
  refine go_q0 5 (.move (.tmp 4)) 4 (qv_move rfl) ?_
  refine go_case (d := 5) rfl (fun g5 => ?_) (fun g5 => ?_)
  · replace g5 := kn g5
    refine go_n (d := 6) (op := .move (.tmp 0)) (ty := 5) (g := some (2, false)) (by kernel_rfl) ⟨5, _, by kernel_rfl, rfl, rfl⟩ rfl ?_
    refine go_n (d := 7) (op := .binOp .eql 5 (.tmp 6) (.const (.int .u8 17)) 5) (ty := 4) (g := some (2, false)) (by kernel_rfl) ⟨5, _, by kernel_rfl, rfl, rfl⟩ rfl ?_
    refine go_q0 8 (.pick (.tmp 5) (.const (.bool true)) (.tmp 7)) 4 (qv_pick_t rfl rfl) ?_
    refine go_q0 2 (.assign (.tmp 8)) 4 (qv_assign rfl) ?_
    refine go_nil ?_
    change G _ _ _ _
    refine p_weaken [2] rfl ?_
    refine p_ret0 ?_
    try dsimp only [thenQ, inBlockQ]
    try rw [if_pos rfl]
    refine ret_now (.inr rfl) (.cons (res_tmp rfl) .nil) (by repeat constructor) ?_
    refine ⟨congrArg Value.bool (?_ : (_ : Bool) = _), rfl⟩; unfold ports; (try simp [*]); try rfl
  replace g5 := kn g5
  refine go_q (d := 6) (op := .move (.tmp 0)) (ty := 5) (g := some (2, false)) (by kernel_rfl) ⟨5, by kernel_rfl, rfl⟩ rfl (qv_move rfl) ?_
  refine go_q (d := 7) (op := .binOp .eql 5 (.tmp 6) (.const (.int .u8 17)) 5) (ty := 4) (g := some (2, false)) (by kernel_rfl) ⟨5, by kernel_rfl, rfl⟩ rfl (qv_eql rfl rfl rfl) ?_
  refine go_q0 8 (.pick (.tmp 5) (.const (.bool true)) (.tmp 7)) 4 (qv_pick_f rfl rfl) ?_
  refine go_q0 2 (.assign (.tmp 8)) 4 (qv_assign rfl) ?_
  refine go_nil ?_
  change G _ _ _ _
  refine p_weaken [2] rfl ?_
  refine p_ret0 ?_
  try dsimp only [thenQ, inBlockQ]
  try rw [if_pos rfl]
  refine ret_now (.inr rfl) (.cons (res_tmp rfl) .nil) (by repeat constructor) ?_
  refine ⟨congrArg Value.bool (?_ : (_ : Bool) = _), rfl⟩; unfold ports; (try simp [*]); try rfl

theorem pu_refIcmp (x : Int) : Pu Tryz.prog 90 [.int .u8 x] (.bool (icmp x)) := by
  refine ct_body (rv := [.tmp 2]) [(0, _)] Tryz.func90 (by kernel_rfl) Tryz.ntmps90 Tryz.results90 rfl rfl (fun w0 => ?_)
  refine p_seq0 ?_
  refine p_plain0 (0 :: []) ?_
  refine go_q0 2 (.assign (.const (.bool false))) 4 (qv_assign rfl) ?_
  refine go_nil ?_
  change G _ _ _ _
  refine p_seq0 ?_
  refine p_plain0 (0 :: 1 :: 2 :: 3 :: 4 :: 5 :: 6 :: []) ?_
  refine go_q0 3 (.move (.tmp 0)) 5 (qv_move rfl) ?_
  refine go_q0 4 (.binOp .eql 5 (.tmp 3) (.const (.int .u8 1)) 5) 4 (qv_eql rfl rfl rfl) ?_
  refine go_q0 5 (.move (.tmp 4)) 4 (qv_move rfl) ?_
  refine go_case (d := 5) rfl (fun g5 => ?_) (fun g5 => ?_)
  · replace g5 := kn g5
    refine go_n (d := 6) (op := .move (.tmp 0)) (ty := 5) (g := some (2, false)) (by kernel_rfl) ⟨5, _, by kernel_rfl, rfl, rfl⟩ rfl ?_
    refine go_n (d := 7) (op := .binOp .eql 5 (.tmp 6) (.const (.int .u8 58)) 5) (ty := 4) (g := some (2, false)) (by kernel_rfl) ⟨5, _, by kernel_rfl, rfl, rfl⟩ rfl ?_
    refine go_q0 8 (.pick (.tmp 5) (.const (.bool true)) (.tmp 7)) 4 (qv_pick_t rfl rfl) ?_
    refine go_q0 2 (.assign (.tmp 8)) 4 (qv_assign rfl) ?_
    refine go_nil ?_
    change G _ _ _ _
    refine p_weaken [2] rfl ?_
    refine p_ret0 ?_
    try dsimp only [thenQ, inBlockQ]
    try rw [if_pos rfl]
    refine ret_now (.inr rfl) (.cons (res_tmp rfl) .nil) (by repeat constructor) ?_
    refine ⟨congrArg Value.bool (?_ : (_ : Bool) = _), rfl⟩; unfold icmp; (try simp [*]); try rfl
  replace g5 := kn g5
  refine go_q (d := 6) (op := .move (.tmp 0)) (ty := 5) (g := some (2, false)) (by kernel_rfl) ⟨5, by kernel_rfl, rfl⟩ rfl (qv_move rfl) ?_
  refine go_q (d := 7) (op := .binOp .eql 5 (.tmp 6) (.const (.int .u8 58)) 5) (ty := 4) (g := some (2, false)) (by kernel_rfl) ⟨5, by kernel_rfl, rfl⟩ rfl (qv_eql rfl rfl rfl) ?_
  refine go_q0 8 (.pick (.tmp 5) (.const (.bool true)) (.tmp 7)) 4 (qv_pick_f rfl rfl) ?_
  refine go_q0 2 (.assign (.tmp 8)) 4 (qv_assign rfl) ?_
  refine go_nil ?_
  change G _ _ _ _
  refine p_weaken [2] rfl ?_
  refine p_ret0 ?_
  try dsimp only [thenQ, inBlockQ]
  try rw [if_pos rfl]
  refine ret_now (.inr rfl) (.cons (res_tmp rfl) .nil) (by repeat constructor) ?_
  refine ⟨congrArg Value.bool (?_ : (_ : Bool) = _), rfl⟩; unfold icmp; (try simp [*]); try rfl

def Key.right (k : Key) : Bool := k.src.right && k.dst.right && decide (k.src.six = k.dst.six) && (ports k.proto || decide (k.srcPort = 0) && (icmp k.proto || decide (k.dstPort = 0)))
def Rec.right (r : Rec) : Bool := r.key.right && decide (1 ≤ r.packets) && decide (r.first ≤ r.last) && decide (1 ≤ r.reason) && decide (r.reason ≤ 5)
theorem pu_KeyRight (k : Key) : Pu Tryz.prog 20 [.agg k.c] (.bool k.right) := by
  refine ct_body (rv := [.tmp 2]) [(0, _)] Tryz.func20 (by kernel_rfl) Tryz.ntmps20 Tryz.results20 rfl rfl (fun w0 => ?_)
  refine p_seq0 ?_
  refine p_plain0 (0 :: 1 :: []) ?_
  refine go_s0 (some 1) (.box 29 (.tmp 0)) 0 ?_
  refine os_boxA rfl rfl (fun b1 => ?_)
  refine go_q0 2 (.assign (.const (.bool false))) 4 (qv_assign rfl) ?_
  refine go_nil ?_
  change G _ _ _ _
  refine p_weaken [1, 2] rfl ?_
  refine p_seq0 ?_
  refine p_plain0 (0 :: 1 :: 2 :: []) ?_
  refine go_q0 4 (.load 29 (.tmp 1)) 29 (qv_load rfl .auto (ldv_agg agg29 (extw_Key _) (Nat.le_of_ble_eq_true rfl))) ?_
  refine go_s0 (some 3) (.alloc 29) 0 ?_
  refine os_allocA rfl ze29 (fun b3 => ?_)
  refine go_s0 none (.store 29 (.tmp 3) (.tmp 4)) 0 ?_
  refine os_store rfl rfl sz29 rfl (one_Key _) .auto (Nat.le_of_ble_eq_true rfl) (splw_Key _ _ (siz_Key _)) ?_
  refine go_nil ?_
  change G _ _ _ _
  refine p_weaken [1, 2, 3] rfl ?_
  refine p_seq0 ?_
  refine p_seq0 ?_
  refine p_plain0 (0 :: 1 :: 2 :: 3 :: []) ?_
  refine go_q0 5 (.fieldAddr 29 (.tmp 1) 2) 0 (qv_field rfl fd29_2) ?_
  refine go_q0 6 (.load 5 (.tmp 5)) 5 (qv_load rfl .auto (ldv_sca sc5 (get_Key_34 _))) ?_
  refine go_s0 (some 7) (.call { callee := .value (.func 52), args := #[.tmp 6], argTypes := #[5] }) 4 ?_
  refine os_callP rfl en52 rfl (pu_ports k.proto) ?_
  refine go_q0 8 (.unOp .not 4 (.tmp 7)) 4 (qv_not rfl) ?_
  refine go_nil ?_
  change G _ _ _ _
  refine p_weaken [1, 2, 3, 8] rfl ?_
  refine p_cond (.tmp 8) (by kernel_rfl) rfl (fun h8 => ?_) (fun h8 => ?_)
  rotate_left
  · replace h8 := kn h8
    refine p_skip0 ?_
    change G _ _ _ _
    refine p_weaken [1, 2, 3] rfl ?_
    refine p_seq0 ?_
    refine p_plain0 (0 :: 1 :: 2 :: 3 :: 4 :: 5 :: 6 :: 7 :: 8 :: 9 :: 10 :: 11 :: 12 :: 13 :: 14 :: 15 :: 16 :: 17 :: 18 :: 19 :: 20 :: 21 :: 22 :: []) ?_
    refine go_q0 15 (.fieldAddr 29 (.tmp 1) 0) 0 (qv_field rfl fd29_0) ?_
    refine go_q0 16 (.load 26 (.tmp 15)) 26 (qv_load rfl .auto (ldv_agg agg26 (ext_Key_0_17 _) (Nat.le_of_ble_eq_true rfl))) ?_
    refine go_s0 (some 17) (.call { callee := .value (.func 54), args := #[.tmp 16], argTypes := #[26] }) 4 ?_
    refine os_callP rfl en54 rfl (pu_AdrRight k.src) ?_
    refine go_q0 18 (.move (.tmp 17)) 4 (qv_move rfl) ?_
    refine go_case (d := 18) rfl (fun g18 => ?_) (fun g18 => ?_)
    rotate_left
    · replace g18 := kn g18
      refine go_n (d := 19) (op := .fieldAddr 29 (.tmp 1) 1) (ty := 0) (g := some (3, true)) (by kernel_rfl) ⟨18, _, by kernel_rfl, rfl, rfl⟩ rfl ?_
      refine go_n (d := 20) (op := .load 26 (.tmp 19)) (ty := 26) (g := some (3, true)) (by kernel_rfl) ⟨18, _, by kernel_rfl, rfl, rfl⟩ rfl ?_
      refine go_n (d := 21) (op := .call { callee := .value (.func 54), args := #[.tmp 20], argTypes := #[26] }) (ty := 4) (g := some (3, true)) (by kernel_rfl) ⟨18, _, by kernel_rfl, rfl, rfl⟩ rfl ?_
      refine go_q0 22 (.pick (.tmp 18) (.tmp 21) (.const (.bool false))) 4 (qv_pick_f rfl rfl) ?_
      refine go_q0 23 (.move (.tmp 22)) 4 (qv_move rfl) ?_
      refine go_n (d := 24) (op := .fieldAddr 29 (.tmp 1) 0) (ty := 0) (g := some (8, true)) (by kernel_rfl) ⟨23, _, by kernel_rfl, rfl, rfl⟩ rfl ?_
      refine go_n (d := 25) (op := .fieldAddr 26 (.tmp 24) 0) (ty := 0) (g := some (8, true)) (by kernel_rfl) ⟨23, _, by kernel_rfl, rfl, rfl⟩ rfl ?_
      refine go_n (d := 26) (op := .load 4 (.tmp 25)) (ty := 4) (g := some (8, true)) (by kernel_rfl) ⟨23, _, by kernel_rfl, rfl, rfl⟩ rfl ?_
      refine go_n (d := 27) (op := .fieldAddr 29 (.tmp 1) 1) (ty := 0) (g := some (8, true)) (by kernel_rfl) ⟨23, _, by kernel_rfl, rfl, rfl⟩ rfl ?_
      refine go_n (d := 28) (op := .fieldAddr 26 (.tmp 27) 0) (ty := 0) (g := some (8, true)) (by kernel_rfl) ⟨23, _, by kernel_rfl, rfl, rfl⟩ rfl ?_
      refine go_n (d := 29) (op := .load 4 (.tmp 28)) (ty := 4) (g := some (8, true)) (by kernel_rfl) ⟨23, _, by kernel_rfl, rfl, rfl⟩ rfl ?_
      refine go_n (d := 30) (op := .binOp .eql 4 (.tmp 26) (.tmp 29) 4) (ty := 4) (g := some (8, true)) (by kernel_rfl) ⟨23, _, by kernel_rfl, rfl, rfl⟩ rfl ?_
      refine go_q0 31 (.pick (.tmp 23) (.tmp 30) (.const (.bool false))) 4 (qv_pick_f rfl rfl) ?_
      refine go_q0 32 (.move (.tmp 31)) 4 (qv_move rfl) ?_
      refine go_n (d := 33) (op := .load 29 (.tmp 1)) (ty := 29) (g := some (17, true)) (by kernel_rfl) ⟨32, _, by kernel_rfl, rfl, rfl⟩ rfl ?_
      refine go_n (d := 34) (op := .load 29 (.tmp 3)) (ty := 29) (g := some (17, true)) (by kernel_rfl) ⟨32, _, by kernel_rfl, rfl, rfl⟩ rfl ?_
      refine go_n (d := 35) (op := .binOp .eql 29 (.tmp 33) (.tmp 34) 29) (ty := 4) (g := some (17, true)) (by kernel_rfl) ⟨32, _, by kernel_rfl, rfl, rfl⟩ rfl ?_
      refine go_q0 36 (.pick (.tmp 32) (.tmp 35) (.const (.bool false))) 4 (qv_pick_f rfl rfl) ?_
      refine go_q0 2 (.assign (.tmp 36)) 4 (qv_assign rfl) ?_
      refine go_nil ?_
      change G _ _ _ _
      refine p_weaken [2] rfl ?_
      refine p_ret0 ?_
      try dsimp only [thenQ, inBlockQ]
      try rw [if_pos rfl]
      refine ret_now (.inr rfl) (.cons (res_tmp rfl) .nil) (by repeat constructor) ?_
      refine ⟨congrArg Value.bool (?_ : (_ : Bool) = _), rfl⟩; obtain ⟨ksrc, kdst, kproto, ksp, kdp⟩ := k; (try simp_all [Key.right]); try rfl
    replace g18 := kn g18
    refine go_q (d := 19) (op := .fieldAddr 29 (.tmp 1) 1) (ty := 0) (g := some (3, true)) (by kernel_rfl) ⟨18, by kernel_rfl, rfl⟩ rfl (qv_field rfl fd29_1) ?_
    refine go_q (d := 20) (op := .load 26 (.tmp 19)) (ty := 26) (g := some (3, true)) (by kernel_rfl) ⟨18, by kernel_rfl, rfl⟩ rfl (qv_load rfl .auto (ldv_agg agg26 (ext_Key_17_17 _) (Nat.le_of_ble_eq_true rfl))) ?_
    refine go_s (d := some 21) (op := .call { callee := .value (.func 54), args := #[.tmp 20], argTypes := #[26] }) (ty := 4) (g := some (3, true)) (by kernel_rfl) ⟨18, by kernel_rfl, rfl⟩ ?_
    refine os_callP rfl en54 rfl (pu_AdrRight k.dst) ?_
    refine go_q0 22 (.pick (.tmp 18) (.tmp 21) (.const (.bool false))) 4 (qv_pick_t rfl rfl) ?_
    refine go_q0 23 (.move (.tmp 22)) 4 (qv_move rfl) ?_
    refine go_case (d := 23) rfl (fun g23 => ?_) (fun g23 => ?_)
    rotate_left
    · replace g23 := kn g23
      refine go_n (d := 24) (op := .fieldAddr 29 (.tmp 1) 0) (ty := 0) (g := some (8, true)) (by kernel_rfl) ⟨23, _, by kernel_rfl, rfl, rfl⟩ rfl ?_
      refine go_n (d := 25) (op := .fieldAddr 26 (.tmp 24) 0) (ty := 0) (g := some (8, true)) (by kernel_rfl) ⟨23, _, by kernel_rfl, rfl, rfl⟩ rfl ?_
      refine go_n (d := 26) (op := .load 4 (.tmp 25)) (ty := 4) (g := some (8, true)) (by kernel_rfl) ⟨23, _, by kernel_rfl, rfl, rfl⟩ rfl ?_
      refine go_n (d := 27) (op := .fieldAddr 29 (.tmp 1) 1) (ty := 0) (g := some (8, true)) (by kernel_rfl) ⟨23, _, by kernel_rfl, rfl, rfl⟩ rfl ?_
      refine go_n (d := 28) (op := .fieldAddr 26 (.tmp 27) 0) (ty := 0) (g := some (8, true)) (by kernel_rfl) ⟨23, _, by kernel_rfl, rfl, rfl⟩ rfl ?_
      refine go_n (d := 29) (op := .load 4 (.tmp 28)) (ty := 4) (g := some (8, true)) (by kernel_rfl) ⟨23, _, by kernel_rfl, rfl, rfl⟩ rfl ?_
      refine go_n (d := 30) (op := .binOp .eql 4 (.tmp 26) (.tmp 29) 4) (ty := 4) (g := some (8, true)) (by kernel_rfl) ⟨23, _, by kernel_rfl, rfl, rfl⟩ rfl ?_
      refine go_q0 31 (.pick (.tmp 23) (.tmp 30) (.const (.bool false))) 4 (qv_pick_f rfl rfl) ?_
      refine go_q0 32 (.move (.tmp 31)) 4 (qv_move rfl) ?_
      refine go_n (d := 33) (op := .load 29 (.tmp 1)) (ty := 29) (g := some (17, true)) (by kernel_rfl) ⟨32, _, by kernel_rfl, rfl, rfl⟩ rfl ?_
      refine go_n (d := 34) (op := .load 29 (.tmp 3)) (ty := 29) (g := some (17, true)) (by kernel_rfl) ⟨32, _, by kernel_rfl, rfl, rfl⟩ rfl ?_
      refine go_n (d := 35) (op := .binOp .eql 29 (.tmp 33) (.tmp 34) 29) (ty := 4) (g := some (17, true)) (by kernel_rfl) ⟨32, _, by kernel_rfl, rfl, rfl⟩ rfl ?_
      refine go_q0 36 (.pick (.tmp 32) (.tmp 35) (.const (.bool false))) 4 (qv_pick_f rfl rfl) ?_
      refine go_q0 2 (.assign (.tmp 36)) 4 (qv_assign rfl) ?_
      refine go_nil ?_
      change G _ _ _ _
      refine p_weaken [2] rfl ?_
      refine p_ret0 ?_
      try dsimp only [thenQ, inBlockQ]
      try rw [if_pos rfl]
      refine ret_now (.inr rfl) (.cons (res_tmp rfl) .nil) (by repeat constructor) ?_
      refine ⟨congrArg Value.bool (?_ : (_ : Bool) = _), rfl⟩; obtain ⟨ksrc, kdst, kproto, ksp, kdp⟩ := k; (try simp_all [Key.right]); try rfl
    replace g23 := kn g23
    refine go_q (d := 24) (op := .fieldAddr 29 (.tmp 1) 0) (ty := 0) (g := some (8, true)) (by kernel_rfl) ⟨23, by kernel_rfl, rfl⟩ rfl (qv_field rfl fd29_0) ?_
    refine go_q (d := 25) (op := .fieldAddr 26 (.tmp 24) 0) (ty := 0) (g := some (8, true)) (by kernel_rfl) ⟨23, by kernel_rfl, rfl⟩ rfl (qv_field rfl fd26_0) ?_
    refine go_q (d := 26) (op := .load 4 (.tmp 25)) (ty := 4) (g := some (8, true)) (by kernel_rfl) ⟨23, by kernel_rfl, rfl⟩ rfl (qv_load rfl .auto (ldv_sca sc4 (get_Key_0 _))) ?_
    refine go_q (d := 27) (op := .fieldAddr 29 (.tmp 1) 1) (ty := 0) (g := some (8, true)) (by kernel_rfl) ⟨23, by kernel_rfl, rfl⟩ rfl (qv_field rfl fd29_1) ?_
    refine go_q (d := 28) (op := .fieldAddr 26 (.tmp 27) 0) (ty := 0) (g := some (8, true)) (by kernel_rfl) ⟨23, by kernel_rfl, rfl⟩ rfl (qv_field rfl fd26_0) ?_
    refine go_q (d := 29) (op := .load 4 (.tmp 28)) (ty := 4) (g := some (8, true)) (by kernel_rfl) ⟨23, by kernel_rfl, rfl⟩ rfl (qv_load rfl .auto (ldv_sca sc4 (get_Key_17 _))) ?_
    refine go_q (d := 30) (op := .binOp .eql 4 (.tmp 26) (.tmp 29) 4) (ty := 4) (g := some (8, true)) (by kernel_rfl) ⟨23, by kernel_rfl, rfl⟩ rfl (qv_eqlB un4 rfl rfl) ?_
    refine go_q0 31 (.pick (.tmp 23) (.tmp 30) (.const (.bool false))) 4 (qv_pick_t rfl rfl) ?_
    refine go_q0 32 (.move (.tmp 31)) 4 (qv_move rfl) ?_
    refine go_case (d := 32) rfl (fun g32 => ?_) (fun g32 => ?_)
    · replace g32 := kn g32
      refine go_q (d := 33) (op := .load 29 (.tmp 1)) (ty := 29) (g := some (17, true)) (by kernel_rfl) ⟨32, by kernel_rfl, rfl⟩ rfl (qv_load rfl .auto (ldv_agg agg29 (extw_Key _) (Nat.le_of_ble_eq_true rfl))) ?_
      refine go_q (d := 34) (op := .load 29 (.tmp 3)) (ty := 29) (g := some (17, true)) (by kernel_rfl) ⟨32, by kernel_rfl, rfl⟩ rfl (qv_load rfl .auto (ldv_agg agg29 (extw_Key _) (Nat.le_of_ble_eq_true rfl))) ?_
      refine go_q (d := 35) (op := .binOp .eql 29 (.tmp 33) (.tmp 34) 29) (ty := 4) (g := some (17, true)) (by kernel_rfl) ⟨32, by kernel_rfl, rfl⟩ rfl (qv_eql_29 rfl rfl rfl) ?_
      refine go_q0 36 (.pick (.tmp 32) (.tmp 35) (.const (.bool false))) 4 (qv_pick_t rfl rfl) ?_
      refine go_q0 2 (.assign (.tmp 36)) 4 (qv_assign rfl) ?_
      refine go_nil ?_
      change G _ _ _ _
      refine p_weaken [2] rfl ?_
      refine p_ret0 ?_
      try dsimp only [thenQ, inBlockQ]
      try rw [if_pos rfl]
      refine ret_now (.inr rfl) (.cons (res_tmp rfl) .nil) (by repeat constructor) ?_
      refine ⟨congrArg Value.bool (?_ : (_ : Bool) = _), rfl⟩; obtain ⟨ksrc, kdst, kproto, ksp, kdp⟩ := k; (try simp_all [Key.right]); try rfl
    replace g32 := kn g32
    refine go_n (d := 33) (op := .load 29 (.tmp 1)) (ty := 29) (g := some (17, true)) (by kernel_rfl) ⟨32, _, by kernel_rfl, rfl, rfl⟩ rfl ?_
    refine go_n (d := 34) (op := .load 29 (.tmp 3)) (ty := 29) (g := some (17, true)) (by kernel_rfl) ⟨32, _, by kernel_rfl, rfl, rfl⟩ rfl ?_
    refine go_n (d := 35) (op := .binOp .eql 29 (.tmp 33) (.tmp 34) 29) (ty := 4) (g := some (17, true)) (by kernel_rfl) ⟨32, _, by kernel_rfl, rfl, rfl⟩ rfl ?_
    refine go_q0 36 (.pick (.tmp 32) (.tmp 35) (.const (.bool false))) 4 (qv_pick_f rfl rfl) ?_
    refine go_q0 2 (.assign (.tmp 36)) 4 (qv_assign rfl) ?_
    refine go_nil ?_
    change G _ _ _ _
    refine p_weaken [2] rfl ?_
    refine p_ret0 ?_
    try dsimp only [thenQ, inBlockQ]
    try rw [if_pos rfl]
    refine ret_now (.inr rfl) (.cons (res_tmp rfl) .nil) (by repeat constructor) ?_
    refine ⟨congrArg Value.bool (?_ : (_ : Bool) = _), rfl⟩; obtain ⟨ksrc, kdst, kproto, ksp, kdp⟩ := k; (try simp_all [Key.right]); try rfl
  replace h8 := kn h8
  refine p_seq0 ?_
  refine p_plain0 (0 :: 1 :: []) ?_
  refine go_q0 9 (.fieldAddr 29 (.tmp 3) 3) 0 (qv_field rfl fd29_3) ?_
  refine go_s0 none (.store 27 (.tmp 9) (.const (.int .u16 0))) 0 ?_
  refine os_store1 rfl rfl sz27 rfl rfl .auto (Nat.le_of_ble_eq_true rfl) (set_Key_35 _ _) ?_
  refine go_nil ?_
  change G _ _ _ _
  refine p_weaken [1, 2, 3] rfl ?_
  refine p_seq0 ?_
  refine p_plain0 (0 :: 1 :: 2 :: 3 :: []) ?_
  refine go_q0 10 (.fieldAddr 29 (.tmp 1) 2) 0 (qv_field rfl fd29_2) ?_
  refine go_q0 11 (.load 5 (.tmp 10)) 5 (qv_load rfl .auto (ldv_sca sc5 (get_Key_34 _))) ?_
  refine go_s0 (some 12) (.call { callee := .value (.func 53), args := #[.tmp 11], argTypes := #[5] }) 4 ?_
  refine os_callP rfl en53 rfl (pu_icmp k.proto) ?_
  refine go_q0 13 (.unOp .not 4 (.tmp 12)) 4 (qv_not rfl) ?_
  refine go_nil ?_
  change G _ _ _ _
  refine p_weaken [1, 2, 3, 13] rfl ?_
  refine p_cond (.tmp 13) (by kernel_rfl) rfl (fun h13 => ?_) (fun h13 => ?_)
  rotate_left
  · replace h13 := kn h13
    refine p_skip0 ?_
    change G _ _ _ _
    refine p_weaken [1, 2, 3] rfl ?_
    refine p_seq0 ?_
    refine p_plain0 (0 :: 1 :: 2 :: 3 :: 4 :: 5 :: 6 :: 7 :: 8 :: 9 :: 10 :: 11 :: 12 :: 13 :: 14 :: 15 :: 16 :: 17 :: 18 :: 19 :: 20 :: 21 :: 22 :: []) ?_
    refine go_q0 15 (.fieldAddr 29 (.tmp 1) 0) 0 (qv_field rfl fd29_0) ?_
    refine go_q0 16 (.load 26 (.tmp 15)) 26 (qv_load rfl .auto (ldv_agg agg26 (ext_Key_0_17 _) (Nat.le_of_ble_eq_true rfl))) ?_
    refine go_s0 (some 17) (.call { callee := .value (.func 54), args := #[.tmp 16], argTypes := #[26] }) 4 ?_
    refine os_callP rfl en54 rfl (pu_AdrRight k.src) ?_
    refine go_q0 18 (.move (.tmp 17)) 4 (qv_move rfl) ?_
    refine go_case (d := 18) rfl (fun g18 => ?_) (fun g18 => ?_)
    rotate_left
    · replace g18 := kn g18
      refine go_n (d := 19) (op := .fieldAddr 29 (.tmp 1) 1) (ty := 0) (g := some (3, true)) (by kernel_rfl) ⟨18, _, by kernel_rfl, rfl, rfl⟩ rfl ?_
      refine go_n (d := 20) (op := .load 26 (.tmp 19)) (ty := 26) (g := some (3, true)) (by kernel_rfl) ⟨18, _, by kernel_rfl, rfl, rfl⟩ rfl ?_
      refine go_n (d := 21) (op := .call { callee := .value (.func 54), args := #[.tmp 20], argTypes := #[26] }) (ty := 4) (g := some (3, true)) (by kernel_rfl) ⟨18, _, by kernel_rfl, rfl, rfl⟩ rfl ?_
      refine go_q0 22 (.pick (.tmp 18) (.tmp 21) (.const (.bool false))) 4 (qv_pick_f rfl rfl) ?_
      refine go_q0 23 (.move (.tmp 22)) 4 (qv_move rfl) ?_
      refine go_n (d := 24) (op := .fieldAddr 29 (.tmp 1) 0) (ty := 0) (g := some (8, true)) (by kernel_rfl) ⟨23, _, by kernel_rfl, rfl, rfl⟩ rfl ?_
      refine go_n (d := 25) (op := .fieldAddr 26 (.tmp 24) 0) (ty := 0) (g := some (8, true)) (by kernel_rfl) ⟨23, _, by kernel_rfl, rfl, rfl⟩ rfl ?_
      refine go_n (d := 26) (op := .load 4 (.tmp 25)) (ty := 4) (g := some (8, true)) (by kernel_rfl) ⟨23, _, by kernel_rfl, rfl, rfl⟩ rfl ?_
      refine go_n (d := 27) (op := .fieldAddr 29 (.tmp 1) 1) (ty := 0) (g := some (8, true)) (by kernel_rfl) ⟨23, _, by kernel_rfl, rfl, rfl⟩ rfl ?_
      refine go_n (d := 28) (op := .fieldAddr 26 (.tmp 27) 0) (ty := 0) (g := some (8, true)) (by kernel_rfl) ⟨23, _, by kernel_rfl, rfl, rfl⟩ rfl ?_
      refine go_n (d := 29) (op := .load 4 (.tmp 28)) (ty := 4) (g := some (8, true)) (by kernel_rfl) ⟨23, _, by kernel_rfl, rfl, rfl⟩ rfl ?_
      refine go_n (d := 30) (op := .binOp .eql 4 (.tmp 26) (.tmp 29) 4) (ty := 4) (g := some (8, true)) (by kernel_rfl) ⟨23, _, by kernel_rfl, rfl, rfl⟩ rfl ?_
      refine go_q0 31 (.pick (.tmp 23) (.tmp 30) (.const (.bool false))) 4 (qv_pick_f rfl rfl) ?_
      refine go_q0 32 (.move (.tmp 31)) 4 (qv_move rfl) ?_
      refine go_n (d := 33) (op := .load 29 (.tmp 1)) (ty := 29) (g := some (17, true)) (by kernel_rfl) ⟨32, _, by kernel_rfl, rfl, rfl⟩ rfl ?_
      refine go_n (d := 34) (op := .load 29 (.tmp 3)) (ty := 29) (g := some (17, true)) (by kernel_rfl) ⟨32, _, by kernel_rfl, rfl, rfl⟩ rfl ?_
      refine go_n (d := 35) (op := .binOp .eql 29 (.tmp 33) (.tmp 34) 29) (ty := 4) (g := some (17, true)) (by kernel_rfl) ⟨32, _, by kernel_rfl, rfl, rfl⟩ rfl ?_
      refine go_q0 36 (.pick (.tmp 32) (.tmp 35) (.const (.bool false))) 4 (qv_pick_f rfl rfl) ?_
      refine go_q0 2 (.assign (.tmp 36)) 4 (qv_assign rfl) ?_
      refine go_nil ?_
      change G _ _ _ _
      refine p_weaken [2] rfl ?_
      refine p_ret0 ?_
      try dsimp only [thenQ, inBlockQ]
      try rw [if_pos rfl]
      refine ret_now (.inr rfl) (.cons (res_tmp rfl) .nil) (by repeat constructor) ?_
      refine ⟨congrArg Value.bool (?_ : (_ : Bool) = _), rfl⟩; obtain ⟨ksrc, kdst, kproto, ksp, kdp⟩ := k; (try simp_all [Key.right]); try rfl
    replace g18 := kn g18
    refine go_q (d := 19) (op := .fieldAddr 29 (.tmp 1) 1) (ty := 0) (g := some (3, true)) (by kernel_rfl) ⟨18, by kernel_rfl, rfl⟩ rfl (qv_field rfl fd29_1) ?_
    refine go_q (d := 20) (op := .load 26 (.tmp 19)) (ty := 26) (g := some (3, true)) (by kernel_rfl) ⟨18, by kernel_rfl, rfl⟩ rfl (qv_load rfl .auto (ldv_agg agg26 (ext_Key_17_17 _) (Nat.le_of_ble_eq_true rfl))) ?_
    refine go_s (d := some 21) (op := .call { callee := .value (.func 54), args := #[.tmp 20], argTypes := #[26] }) (ty := 4) (g := some (3, true)) (by kernel_rfl) ⟨18, by kernel_rfl, rfl⟩ ?_
    refine os_callP rfl en54 rfl (pu_AdrRight k.dst) ?_
    refine go_q0 22 (.pick (.tmp 18) (.tmp 21) (.const (.bool false))) 4 (qv_pick_t rfl rfl) ?_
    refine go_q0 23 (.move (.tmp 22)) 4 (qv_move rfl) ?_
    refine go_case (d := 23) rfl (fun g23 => ?_) (fun g23 => ?_)
    rotate_left
    · replace g23 := kn g23
      refine go_n (d := 24) (op := .fieldAddr 29 (.tmp 1) 0) (ty := 0) (g := some (8, true)) (by kernel_rfl) ⟨23, _, by kernel_rfl, rfl, rfl⟩ rfl ?_
      refine go_n (d := 25) (op := .fieldAddr 26 (.tmp 24) 0) (ty := 0) (g := some (8, true)) (by kernel_rfl) ⟨23, _, by kernel_rfl, rfl, rfl⟩ rfl ?_
      refine go_n (d := 26) (op := .load 4 (.tmp 25)) (ty := 4) (g := some (8, true)) (by kernel_rfl) ⟨23, _, by kernel_rfl, rfl, rfl⟩ rfl ?_
      refine go_n (d := 27) (op := .fieldAddr 29 (.tmp 1) 1) (ty := 0) (g := some (8, true)) (by kernel_rfl) ⟨23, _, by kernel_rfl, rfl, rfl⟩ rfl ?_
      refine go_n (d := 28) (op := .fieldAddr 26 (.tmp 27) 0) (ty := 0) (g := some (8, true)) (by kernel_rfl) ⟨23, _, by kernel_rfl, rfl, rfl⟩ rfl ?_
      refine go_n (d := 29) (op := .load 4 (.tmp 28)) (ty := 4) (g := some (8, true)) (by kernel_rfl) ⟨23, _, by kernel_rfl, rfl, rfl⟩ rfl ?_
      refine go_n (d := 30) (op := .binOp .eql 4 (.tmp 26) (.tmp 29) 4) (ty := 4) (g := some (8, true)) (by kernel_rfl) ⟨23, _, by kernel_rfl, rfl, rfl⟩ rfl ?_
      refine go_q0 31 (.pick (.tmp 23) (.tmp 30) (.const (.bool false))) 4 (qv_pick_f rfl rfl) ?_
      refine go_q0 32 (.move (.tmp 31)) 4 (qv_move rfl) ?_
      refine go_n (d := 33) (op := .load 29 (.tmp 1)) (ty := 29) (g := some (17, true)) (by kernel_rfl) ⟨32, _, by kernel_rfl, rfl, rfl⟩ rfl ?_
      refine go_n (d := 34) (op := .load 29 (.tmp 3)) (ty := 29) (g := some (17, true)) (by kernel_rfl) ⟨32, _, by kernel_rfl, rfl, rfl⟩ rfl ?_
      refine go_n (d := 35) (op := .binOp .eql 29 (.tmp 33) (.tmp 34) 29) (ty := 4) (g := some (17, true)) (by kernel_rfl) ⟨32, _, by kernel_rfl, rfl, rfl⟩ rfl ?_
      refine go_q0 36 (.pick (.tmp 32) (.tmp 35) (.const (.bool false))) 4 (qv_pick_f rfl rfl) ?_
      refine go_q0 2 (.assign (.tmp 36)) 4 (qv_assign rfl) ?_
      refine go_nil ?_
      change G _ _ _ _
      refine p_weaken [2] rfl ?_
      refine p_ret0 ?_
      try dsimp only [thenQ, inBlockQ]
      try rw [if_pos rfl]
      refine ret_now (.inr rfl) (.cons (res_tmp rfl) .nil) (by repeat constructor) ?_
      refine ⟨congrArg Value.bool (?_ : (_ : Bool) = _), rfl⟩; obtain ⟨ksrc, kdst, kproto, ksp, kdp⟩ := k; (try simp_all [Key.right]); try rfl
    replace g23 := kn g23
    refine go_q (d := 24) (op := .fieldAddr 29 (.tmp 1) 0) (ty := 0) (g := some (8, true)) (by kernel_rfl) ⟨23, by kernel_rfl, rfl⟩ rfl (qv_field rfl fd29_0) ?_
    refine go_q (d := 25) (op := .fieldAddr 26 (.tmp 24) 0) (ty := 0) (g := some (8, true)) (by kernel_rfl) ⟨23, by kernel_rfl, rfl⟩ rfl (qv_field rfl fd26_0) ?_
    refine go_q (d := 26) (op := .load 4 (.tmp 25)) (ty := 4) (g := some (8, true)) (by kernel_rfl) ⟨23, by kernel_rfl, rfl⟩ rfl (qv_load rfl .auto (ldv_sca sc4 (get_Key_0 _))) ?_
    refine go_q (d := 27) (op := .fieldAddr 29 (.tmp 1) 1) (ty := 0) (g := some (8, true)) (by kernel_rfl) ⟨23, by kernel_rfl, rfl⟩ rfl (qv_field rfl fd29_1) ?_
    refine go_q (d := 28) (op := .fieldAddr 26 (.tmp 27) 0) (ty := 0) (g := some (8, true)) (by kernel_rfl) ⟨23, by kernel_rfl, rfl⟩ rfl (qv_field rfl fd26_0) ?_
    refine go_q (d := 29) (op := .load 4 (.tmp 28)) (ty := 4) (g := some (8, true)) (by kernel_rfl) ⟨23, by kernel_rfl, rfl⟩ rfl (qv_load rfl .auto (ldv_sca sc4 (get_Key_17 _))) ?_
    refine go_q (d := 30) (op := .binOp .eql 4 (.tmp 26) (.tmp 29) 4) (ty := 4) (g := some (8, true)) (by kernel_rfl) ⟨23, by kernel_rfl, rfl⟩ rfl (qv_eqlB un4 rfl rfl) ?_
    refine go_q0 31 (.pick (.tmp 23) (.tmp 30) (.const (.bool false))) 4 (qv_pick_t rfl rfl) ?_
    refine go_q0 32 (.move (.tmp 31)) 4 (qv_move rfl) ?_
    refine go_case (d := 32) rfl (fun g32 => ?_) (fun g32 => ?_)
    · replace g32 := kn g32
      refine go_q (d := 33) (op := .load 29 (.tmp 1)) (ty := 29) (g := some (17, true)) (by kernel_rfl) ⟨32, by kernel_rfl, rfl⟩ rfl (qv_load rfl .auto (ldv_agg agg29 (extw_Key _) (Nat.le_of_ble_eq_true rfl))) ?_
      refine go_q (d := 34) (op := .load 29 (.tmp 3)) (ty := 29) (g := some (17, true)) (by kernel_rfl) ⟨32, by kernel_rfl, rfl⟩ rfl (qv_load rfl .auto (ldv_agg agg29 (extw_Key _) (Nat.le_of_ble_eq_true rfl))) ?_
      refine go_q (d := 35) (op := .binOp .eql 29 (.tmp 33) (.tmp 34) 29) (ty := 4) (g := some (17, true)) (by kernel_rfl) ⟨32, by kernel_rfl, rfl⟩ rfl (qv_eql_29 rfl rfl rfl) ?_
      refine go_q0 36 (.pick (.tmp 32) (.tmp 35) (.const (.bool false))) 4 (qv_pick_t rfl rfl) ?_
      refine go_q0 2 (.assign (.tmp 36)) 4 (qv_assign rfl) ?_
      refine go_nil ?_
      change G _ _ _ _
      refine p_weaken [2] rfl ?_
      refine p_ret0 ?_
      try dsimp only [thenQ, inBlockQ]
      try rw [if_pos rfl]
      refine ret_now (.inr rfl) (.cons (res_tmp rfl) .nil) (by repeat constructor) ?_
      refine ⟨congrArg Value.bool (?_ : (_ : Bool) = _), rfl⟩; obtain ⟨ksrc, kdst, kproto, ksp, kdp⟩ := k; (try simp_all [Key.right]); try rfl
    replace g32 := kn g32
    refine go_n (d := 33) (op := .load 29 (.tmp 1)) (ty := 29) (g := some (17, true)) (by kernel_rfl) ⟨32, _, by kernel_rfl, rfl, rfl⟩ rfl ?_
    refine go_n (d := 34) (op := .load 29 (.tmp 3)) (ty := 29) (g := some (17, true)) (by kernel_rfl) ⟨32, _, by kernel_rfl, rfl, rfl⟩ rfl ?_
    refine go_n (d := 35) (op := .binOp .eql 29 (.tmp 33) (.tmp 34) 29) (ty := 4) (g := some (17, true)) (by kernel_rfl) ⟨32, _, by kernel_rfl, rfl, rfl⟩ rfl ?_
    refine go_q0 36 (.pick (.tmp 32) (.tmp 35) (.const (.bool false))) 4 (qv_pick_f rfl rfl) ?_
    refine go_q0 2 (.assign (.tmp 36)) 4 (qv_assign rfl) ?_
    refine go_nil ?_
    change G _ _ _ _
    refine p_weaken [2] rfl ?_
    refine p_ret0 ?_
    try dsimp only [thenQ, inBlockQ]
    try rw [if_pos rfl]
    refine ret_now (.inr rfl) (.cons (res_tmp rfl) .nil) (by repeat constructor) ?_
    refine ⟨congrArg Value.bool (?_ : (_ : Bool) = _), rfl⟩; obtain ⟨ksrc, kdst, kproto, ksp, kdp⟩ := k; (try simp_all [Key.right]); try rfl
  replace h13 := kn h13
  refine p_plain0 (0 :: 1 :: []) ?_
  refine go_q0 14 (.fieldAddr 29 (.tmp 3) 4) 0 (qv_field rfl fd29_4) ?_
  refine go_s0 none (.store 27 (.tmp 14) (.const (.int .u16 0))) 0 ?_
  refine os_store1 rfl rfl sz27 rfl rfl .auto (Nat.le_of_ble_eq_true rfl) (set_Key_36 _ _) ?_
  refine go_nil ?_
  change G _ _ _ _
  refine p_weaken [1, 2, 3] rfl ?_
  refine p_seq0 ?_
  refine p_plain0 (0 :: 1 :: 2 :: 3 :: 4 :: 5 :: 6 :: 7 :: 8 :: 9 :: 10 :: 11 :: 12 :: 13 :: 14 :: 15 :: 16 :: 17 :: 18 :: 19 :: 20 :: 21 :: 22 :: []) ?_
  refine go_q0 15 (.fieldAddr 29 (.tmp 1) 0) 0 (qv_field rfl fd29_0) ?_
  refine go_q0 16 (.load 26 (.tmp 15)) 26 (qv_load rfl .auto (ldv_agg agg26 (ext_Key_0_17 _) (Nat.le_of_ble_eq_true rfl))) ?_
  refine go_s0 (some 17) (.call { callee := .value (.func 54), args := #[.tmp 16], argTypes := #[26] }) 4 ?_
  refine os_callP rfl en54 rfl (pu_AdrRight k.src) ?_
  refine go_q0 18 (.move (.tmp 17)) 4 (qv_move rfl) ?_
  refine go_case (d := 18) rfl (fun g18 => ?_) (fun g18 => ?_)
  rotate_left
  · replace g18 := kn g18
    refine go_n (d := 19) (op := .fieldAddr 29 (.tmp 1) 1) (ty := 0) (g := some (3, true)) (by kernel_rfl) ⟨18, _, by kernel_rfl, rfl, rfl⟩ rfl ?_
    refine go_n (d := 20) (op := .load 26 (.tmp 19)) (ty := 26) (g := some (3, true)) (by kernel_rfl) ⟨18, _, by kernel_rfl, rfl, rfl⟩ rfl ?_
    refine go_n (d := 21) (op := .call { callee := .value (.func 54), args := #[.tmp 20], argTypes := #[26] }) (ty := 4) (g := some (3, true)) (by kernel_rfl) ⟨18, _, by kernel_rfl, rfl, rfl⟩ rfl ?_
    refine go_q0 22 (.pick (.tmp 18) (.tmp 21) (.const (.bool false))) 4 (qv_pick_f rfl rfl) ?_
    refine go_q0 23 (.move (.tmp 22)) 4 (qv_move rfl) ?_
    refine go_n (d := 24) (op := .fieldAddr 29 (.tmp 1) 0) (ty := 0) (g := some (8, true)) (by kernel_rfl) ⟨23, _, by kernel_rfl, rfl, rfl⟩ rfl ?_
    refine go_n (d := 25) (op := .fieldAddr 26 (.tmp 24) 0) (ty := 0) (g := some (8, true)) (by kernel_rfl) ⟨23, _, by kernel_rfl, rfl, rfl⟩ rfl ?_
    refine go_n (d := 26) (op := .load 4 (.tmp 25)) (ty := 4) (g := some (8, true)) (by kernel_rfl) ⟨23, _, by kernel_rfl, rfl, rfl⟩ rfl ?_
    refine go_n (d := 27) (op := .fieldAddr 29 (.tmp 1) 1) (ty := 0) (g := some (8, true)) (by kernel_rfl) ⟨23, _, by kernel_rfl, rfl, rfl⟩ rfl ?_
    refine go_n (d := 28) (op := .fieldAddr 26 (.tmp 27) 0) (ty := 0) (g := some (8, true)) (by kernel_rfl) ⟨23, _, by kernel_rfl, rfl, rfl⟩ rfl ?_
    refine go_n (d := 29) (op := .load 4 (.tmp 28)) (ty := 4) (g := some (8, true)) (by kernel_rfl) ⟨23, _, by kernel_rfl, rfl, rfl⟩ rfl ?_
    refine go_n (d := 30) (op := .binOp .eql 4 (.tmp 26) (.tmp 29) 4) (ty := 4) (g := some (8, true)) (by kernel_rfl) ⟨23, _, by kernel_rfl, rfl, rfl⟩ rfl ?_
    refine go_q0 31 (.pick (.tmp 23) (.tmp 30) (.const (.bool false))) 4 (qv_pick_f rfl rfl) ?_
    refine go_q0 32 (.move (.tmp 31)) 4 (qv_move rfl) ?_
    refine go_n (d := 33) (op := .load 29 (.tmp 1)) (ty := 29) (g := some (17, true)) (by kernel_rfl) ⟨32, _, by kernel_rfl, rfl, rfl⟩ rfl ?_
    refine go_n (d := 34) (op := .load 29 (.tmp 3)) (ty := 29) (g := some (17, true)) (by kernel_rfl) ⟨32, _, by kernel_rfl, rfl, rfl⟩ rfl ?_
    refine go_n (d := 35) (op := .binOp .eql 29 (.tmp 33) (.tmp 34) 29) (ty := 4) (g := some (17, true)) (by kernel_rfl) ⟨32, _, by kernel_rfl, rfl, rfl⟩ rfl ?_
    refine go_q0 36 (.pick (.tmp 32) (.tmp 35) (.const (.bool false))) 4 (qv_pick_f rfl rfl) ?_
    refine go_q0 2 (.assign (.tmp 36)) 4 (qv_assign rfl) ?_
    refine go_nil ?_
    change G _ _ _ _
    refine p_weaken [2] rfl ?_
    refine p_ret0 ?_
    try dsimp only [thenQ, inBlockQ]
    try rw [if_pos rfl]
    refine ret_now (.inr rfl) (.cons (res_tmp rfl) .nil) (by repeat constructor) ?_
    refine ⟨congrArg Value.bool (?_ : (_ : Bool) = _), rfl⟩; obtain ⟨ksrc, kdst, kproto, ksp, kdp⟩ := k; (try simp_all [Key.right]); try rfl
  replace g18 := kn g18
  refine go_q (d := 19) (op := .fieldAddr 29 (.tmp 1) 1) (ty := 0) (g := some (3, true)) (by kernel_rfl) ⟨18, by kernel_rfl, rfl⟩ rfl (qv_field rfl fd29_1) ?_
  refine go_q (d := 20) (op := .load 26 (.tmp 19)) (ty := 26) (g := some (3, true)) (by kernel_rfl) ⟨18, by kernel_rfl, rfl⟩ rfl (qv_load rfl .auto (ldv_agg agg26 (ext_Key_17_17 _) (Nat.le_of_ble_eq_true rfl))) ?_
  refine go_s (d := some 21) (op := .call { callee := .value (.func 54), args := #[.tmp 20], argTypes := #[26] }) (ty := 4) (g := some (3, true)) (by kernel_rfl) ⟨18, by kernel_rfl, rfl⟩ ?_
  refine os_callP rfl en54 rfl (pu_AdrRight k.dst) ?_
  refine go_q0 22 (.pick (.tmp 18) (.tmp 21) (.const (.bool false))) 4 (qv_pick_t rfl rfl) ?_
  refine go_q0 23 (.move (.tmp 22)) 4 (qv_move rfl) ?_
  refine go_case (d := 23) rfl (fun g23 => ?_) (fun g23 => ?_)
  rotate_left
  · replace g23 := kn g23
    refine go_n (d := 24) (op := .fieldAddr 29 (.tmp 1) 0) (ty := 0) (g := some (8, true)) (by kernel_rfl) ⟨23, _, by kernel_rfl, rfl, rfl⟩ rfl ?_
    refine go_n (d := 25) (op := .fieldAddr 26 (.tmp 24) 0) (ty := 0) (g := some (8, true)) (by kernel_rfl) ⟨23, _, by kernel_rfl, rfl, rfl⟩ rfl ?_
    refine go_n (d := 26) (op := .load 4 (.tmp 25)) (ty := 4) (g := some (8, true)) (by kernel_rfl) ⟨23, _, by kernel_rfl, rfl, rfl⟩ rfl ?_
    refine go_n (d := 27) (op := .fieldAddr 29 (.tmp 1) 1) (ty := 0) (g := some (8, true)) (by kernel_rfl) ⟨23, _, by kernel_rfl, rfl, rfl⟩ rfl ?_
    refine go_n (d := 28) (op := .fieldAddr 26 (.tmp 27) 0) (ty := 0) (g := some (8, true)) (by kernel_rfl) ⟨23, _, by kernel_rfl, rfl, rfl⟩ rfl ?_
    refine go_n (d := 29) (op := .load 4 (.tmp 28)) (ty := 4) (g := some (8, true)) (by kernel_rfl) ⟨23, _, by kernel_rfl, rfl, rfl⟩ rfl ?_
    refine go_n (d := 30) (op := .binOp .eql 4 (.tmp 26) (.tmp 29) 4) (ty := 4) (g := some (8, true)) (by kernel_rfl) ⟨23, _, by kernel_rfl, rfl, rfl⟩ rfl ?_
    refine go_q0 31 (.pick (.tmp 23) (.tmp 30) (.const (.bool false))) 4 (qv_pick_f rfl rfl) ?_
    refine go_q0 32 (.move (.tmp 31)) 4 (qv_move rfl) ?_
    refine go_n (d := 33) (op := .load 29 (.tmp 1)) (ty := 29) (g := some (17, true)) (by kernel_rfl) ⟨32, _, by kernel_rfl, rfl, rfl⟩ rfl ?_
    refine go_n (d := 34) (op := .load 29 (.tmp 3)) (ty := 29) (g := some (17, true)) (by kernel_rfl) ⟨32, _, by kernel_rfl, rfl, rfl⟩ rfl ?_
    refine go_n (d := 35) (op := .binOp .eql 29 (.tmp 33) (.tmp 34) 29) (ty := 4) (g := some (17, true)) (by kernel_rfl) ⟨32, _, by kernel_rfl, rfl, rfl⟩ rfl ?_
    refine go_q0 36 (.pick (.tmp 32) (.tmp 35) (.const (.bool false))) 4 (qv_pick_f rfl rfl) ?_
    refine go_q0 2 (.assign (.tmp 36)) 4 (qv_assign rfl) ?_
    refine go_nil ?_
    change G _ _ _ _
    refine p_weaken [2] rfl ?_
    refine p_ret0 ?_
    try dsimp only [thenQ, inBlockQ]
    try rw [if_pos rfl]
    refine ret_now (.inr rfl) (.cons (res_tmp rfl) .nil) (by repeat constructor) ?_
    refine ⟨congrArg Value.bool (?_ : (_ : Bool) = _), rfl⟩; obtain ⟨ksrc, kdst, kproto, ksp, kdp⟩ := k; (try simp_all [Key.right]); try rfl
  replace g23 := kn g23
  refine go_q (d := 24) (op := .fieldAddr 29 (.tmp 1) 0) (ty := 0) (g := some (8, true)) (by kernel_rfl) ⟨23, by kernel_rfl, rfl⟩ rfl (qv_field rfl fd29_0) ?_
  refine go_q (d := 25) (op := .fieldAddr 26 (.tmp 24) 0) (ty := 0) (g := some (8, true)) (by kernel_rfl) ⟨23, by kernel_rfl, rfl⟩ rfl (qv_field rfl fd26_0) ?_
  refine go_q (d := 26) (op := .load 4 (.tmp 25)) (ty := 4) (g := some (8, true)) (by kernel_rfl) ⟨23, by kernel_rfl, rfl⟩ rfl (qv_load rfl .auto (ldv_sca sc4 (get_Key_0 _))) ?_
  refine go_q (d := 27) (op := .fieldAddr 29 (.tmp 1) 1) (ty := 0) (g := some (8, true)) (by kernel_rfl) ⟨23, by kernel_rfl, rfl⟩ rfl (qv_field rfl fd29_1) ?_
  refine go_q (d := 28) (op := .fieldAddr 26 (.tmp 27) 0) (ty := 0) (g := some (8, true)) (by kernel_rfl) ⟨23, by kernel_rfl, rfl⟩ rfl (qv_field rfl fd26_0) ?_
  refine go_q (d := 29) (op := .load 4 (.tmp 28)) (ty := 4) (g := some (8, true)) (by kernel_rfl) ⟨23, by kernel_rfl, rfl⟩ rfl (qv_load rfl .auto (ldv_sca sc4 (get_Key_17 _))) ?_
  refine go_q (d := 30) (op := .binOp .eql 4 (.tmp 26) (.tmp 29) 4) (ty := 4) (g := some (8, true)) (by kernel_rfl) ⟨23, by kernel_rfl, rfl⟩ rfl (qv_eqlB un4 rfl rfl) ?_
  refine go_q0 31 (.pick (.tmp 23) (.tmp 30) (.const (.bool false))) 4 (qv_pick_t rfl rfl) ?_
  refine go_q0 32 (.move (.tmp 31)) 4 (qv_move rfl) ?_
  refine go_case (d := 32) rfl (fun g32 => ?_) (fun g32 => ?_)
  · replace g32 := kn g32
    refine go_q (d := 33) (op := .load 29 (.tmp 1)) (ty := 29) (g := some (17, true)) (by kernel_rfl) ⟨32, by kernel_rfl, rfl⟩ rfl (qv_load rfl .auto (ldv_agg agg29 (extw_Key _) (Nat.le_of_ble_eq_true rfl))) ?_
    refine go_q (d := 34) (op := .load 29 (.tmp 3)) (ty := 29) (g := some (17, true)) (by kernel_rfl) ⟨32, by kernel_rfl, rfl⟩ rfl (qv_load rfl .auto (ldv_agg agg29 (extw_Key _) (Nat.le_of_ble_eq_true rfl))) ?_
    refine go_q (d := 35) (op := .binOp .eql 29 (.tmp 33) (.tmp 34) 29) (ty := 4) (g := some (17, true)) (by kernel_rfl) ⟨32, by kernel_rfl, rfl⟩ rfl (qv_eql_29 rfl rfl rfl) ?_
    refine go_q0 36 (.pick (.tmp 32) (.tmp 35) (.const (.bool false))) 4 (qv_pick_t rfl rfl) ?_
    refine go_q0 2 (.assign (.tmp 36)) 4 (qv_assign rfl) ?_
    refine go_nil ?_
    change G _ _ _ _
    refine p_weaken [2] rfl ?_
    refine p_ret0 ?_
    try dsimp only [thenQ, inBlockQ]
    try rw [if_pos rfl]
    refine ret_now (.inr rfl) (.cons (res_tmp rfl) .nil) (by repeat constructor) ?_
    refine ⟨congrArg Value.bool (?_ : (_ : Bool) = _), rfl⟩; obtain ⟨ksrc, kdst, kproto, ksp, kdp⟩ := k; (try simp_all [Key.right]); try rfl
  replace g32 := kn g32
  refine go_n (d := 33) (op := .load 29 (.tmp 1)) (ty := 29) (g := some (17, true)) (by kernel_rfl) ⟨32, _, by kernel_rfl, rfl, rfl⟩ rfl ?_
  refine go_n (d := 34) (op := .load 29 (.tmp 3)) (ty := 29) (g := some (17, true)) (by kernel_rfl) ⟨32, _, by kernel_rfl, rfl, rfl⟩ rfl ?_
  refine go_n (d := 35) (op := .binOp .eql 29 (.tmp 33) (.tmp 34) 29) (ty := 4) (g := some (17, true)) (by kernel_rfl) ⟨32, _, by kernel_rfl, rfl, rfl⟩ rfl ?_
  refine go_q0 36 (.pick (.tmp 32) (.tmp 35) (.const (.bool false))) 4 (qv_pick_f rfl rfl) ?_
  refine go_q0 2 (.assign (.tmp 36)) 4 (qv_assign rfl) ?_
  refine go_nil ?_
  change G _ _ _ _
  refine p_weaken [2] rfl ?_
  refine p_ret0 ?_
  try dsimp only [thenQ, inBlockQ]
  try rw [if_pos rfl]
  refine ret_now (.inr rfl) (.cons (res_tmp rfl) .nil) (by repeat constructor) ?_
  refine ⟨congrArg Value.bool (?_ : (_ : Bool) = _), rfl⟩; obtain ⟨ksrc, kdst, kproto, ksp, kdp⟩ := k; (try simp_all [Key.right]); try rfl
theorem pu_refKeyRight (k : Key) : Pu Tryz.prog 66 [.agg k.c] (.bool k.right) := by
  refine ct_body (rv := [.tmp 2]) [(0, _)] Tryz.func66 (by kernel_rfl) Tryz.ntmps66 Tryz.results66 rfl rfl (fun w0 => ?_)
  refine p_seq0 ?_
  refine p_plain0 (0 :: 1 :: []) ?_
  refine go_s0 (some 1) (.box 92 (.tmp 0)) 0 ?_
  refine os_boxA rfl rfl (fun b1 => ?_)
  refine go_q0 2 (.assign (.const (.bool false))) 4 (qv_assign rfl) ?_
  refine go_nil ?_
  change G _ _ _ _
  refine p_weaken [1, 2] rfl ?_
  refine p_seq0 ?_
  refine p_seq0 ?_
  refine p_plain0 (0 :: 1 :: 2 :: 3 :: 4 :: 5 :: 6 :: 7 :: 8 :: 9 :: 10 :: 11 :: 12 :: 13 :: 14 :: 15 :: 16 :: 17 :: 18 :: []) ?_
  refine go_q0 3 (.fieldAddr 92 (.tmp 1) 0) 0 (qv_field rfl fd92_0) ?_
  refine go_q0 4 (.load 90 (.tmp 3)) 90 (qv_load rfl .auto (ldv_agg agg90 (ext_Key_0_17 _) (Nat.le_of_ble_eq_true rfl))) ?_
  refine go_s0 (some 5) (.call { callee := .value (.func 88), args := #[.tmp 4], argTypes := #[90] }) 4 ?_
  refine os_callP rfl en88 rfl (pu_refAdrRight k.src) ?_
  refine go_q0 6 (.unOp .not 4 (.tmp 5)) 4 (qv_not rfl) ?_
  refine go_q0 7 (.move (.tmp 6)) 4 (qv_move rfl) ?_
  refine go_case (d := 7) rfl (fun g7 => ?_) (fun g7 => ?_)
  · replace g7 := kn g7
    refine go_n (d := 8) (op := .fieldAddr 92 (.tmp 1) 1) (ty := 0) (g := some (4, false)) (by kernel_rfl) ⟨7, _, by kernel_rfl, rfl, rfl⟩ rfl ?_
    refine go_n (d := 9) (op := .load 90 (.tmp 8)) (ty := 90) (g := some (4, false)) (by kernel_rfl) ⟨7, _, by kernel_rfl, rfl, rfl⟩ rfl ?_
    refine go_n (d := 10) (op := .call { callee := .value (.func 88), args := #[.tmp 9], argTypes := #[90] }) (ty := 4) (g := some (4, false)) (by kernel_rfl) ⟨7, _, by kernel_rfl, rfl, rfl⟩ rfl ?_
    refine go_n (d := 11) (op := .unOp .not 4 (.tmp 10)) (ty := 4) (g := some (4, false)) (by kernel_rfl) ⟨7, _, by kernel_rfl, rfl, rfl⟩ rfl ?_
    refine go_q0 12 (.pick (.tmp 7) (.const (.bool true)) (.tmp 11)) 4 (qv_pick_t rfl rfl) ?_
    refine go_q0 13 (.move (.tmp 12)) 4 (qv_move rfl) ?_
    refine go_n (d := 14) (op := .fieldAddr 92 (.tmp 1) 0) (ty := 0) (g := some (10, false)) (by kernel_rfl) ⟨13, _, by kernel_rfl, rfl, rfl⟩ rfl ?_
    refine go_n (d := 15) (op := .fieldAddr 90 (.tmp 14) 0) (ty := 0) (g := some (10, false)) (by kernel_rfl) ⟨13, _, by kernel_rfl, rfl, rfl⟩ rfl ?_
    refine go_n (d := 16) (op := .load 4 (.tmp 15)) (ty := 4) (g := some (10, false)) (by kernel_rfl) ⟨13, _, by kernel_rfl, rfl, rfl⟩ rfl ?_
    refine go_n (d := 17) (op := .fieldAddr 92 (.tmp 1) 1) (ty := 0) (g := some (10, false)) (by kernel_rfl) ⟨13, _, by kernel_rfl, rfl, rfl⟩ rfl ?_
    refine go_n (d := 18) (op := .fieldAddr 90 (.tmp 17) 0) (ty := 0) (g := some (10, false)) (by kernel_rfl) ⟨13, _, by kernel_rfl, rfl, rfl⟩ rfl ?_
    refine go_n (d := 19) (op := .load 4 (.tmp 18)) (ty := 4) (g := some (10, false)) (by kernel_rfl) ⟨13, _, by kernel_rfl, rfl, rfl⟩ rfl ?_
    refine go_n (d := 20) (op := .binOp .neq 4 (.tmp 16) (.tmp 19) 4) (ty := 4) (g := some (10, false)) (by kernel_rfl) ⟨13, _, by kernel_rfl, rfl, rfl⟩ rfl ?_
    refine go_q0 21 (.pick (.tmp 13) (.const (.bool true)) (.tmp 20)) 4 (qv_pick_t rfl rfl) ?_
    refine go_nil ?_
    change G _ _ _ _
    refine p_weaken [1, 2, 21] rfl ?_
    refine p_condT (.tmp 21) (by kernel_rfl) rfl ?_
    refine p_seq0 ?_
    refine p_plain0 (0 :: []) ?_
    refine go_q0 2 (.assign (.const (.bool false))) 4 (qv_assign rfl) ?_
    refine go_nil ?_
    change G _ _ _ _
    refine p_weaken [1, 2] rfl ?_
    refine p_ret0 ?_
    try dsimp only [thenQ, inBlockQ]
    try rw [if_pos rfl]
    refine ret_now (.inr rfl) (.cons (res_tmp rfl) .nil) (by repeat constructor) ?_
    refine ⟨congrArg Value.bool (?_ : (_ : Bool) = _), rfl⟩; (try simp_all [Key.right]); try rfl
  replace g7 := kn g7
  refine go_q (d := 8) (op := .fieldAddr 92 (.tmp 1) 1) (ty := 0) (g := some (4, false)) (by kernel_rfl) ⟨7, by kernel_rfl, rfl⟩ rfl (qv_field rfl fd92_1) ?_
  refine go_q (d := 9) (op := .load 90 (.tmp 8)) (ty := 90) (g := some (4, false)) (by kernel_rfl) ⟨7, by kernel_rfl, rfl⟩ rfl (qv_load rfl .auto (ldv_agg agg90 (ext_Key_17_17 _) (Nat.le_of_ble_eq_true rfl))) ?_
  refine go_s (d := some 10) (op := .call { callee := .value (.func 88), args := #[.tmp 9], argTypes := #[90] }) (ty := 4) (g := some (4, false)) (by kernel_rfl) ⟨7, by kernel_rfl, rfl⟩ ?_
  refine os_callP rfl en88 rfl (pu_refAdrRight k.dst) ?_
  refine go_q (d := 11) (op := .unOp .not 4 (.tmp 10)) (ty := 4) (g := some (4, false)) (by kernel_rfl) ⟨7, by kernel_rfl, rfl⟩ rfl (qv_not rfl) ?_
  refine go_q0 12 (.pick (.tmp 7) (.const (.bool true)) (.tmp 11)) 4 (qv_pick_f rfl rfl) ?_
  refine go_q0 13 (.move (.tmp 12)) 4 (qv_move rfl) ?_
  refine go_case (d := 13) rfl (fun g13 => ?_) (fun g13 => ?_)
  · replace g13 := kn g13
    refine go_n (d := 14) (op := .fieldAddr 92 (.tmp 1) 0) (ty := 0) (g := some (10, false)) (by kernel_rfl) ⟨13, _, by kernel_rfl, rfl, rfl⟩ rfl ?_
    refine go_n (d := 15) (op := .fieldAddr 90 (.tmp 14) 0) (ty := 0) (g := some (10, false)) (by kernel_rfl) ⟨13, _, by kernel_rfl, rfl, rfl⟩ rfl ?_
    refine go_n (d := 16) (op := .load 4 (.tmp 15)) (ty := 4) (g := some (10, false)) (by kernel_rfl) ⟨13, _, by kernel_rfl, rfl, rfl⟩ rfl ?_
    refine go_n (d := 17) (op := .fieldAddr 92 (.tmp 1) 1) (ty := 0) (g := some (10, false)) (by kernel_rfl) ⟨13, _, by kernel_rfl, rfl, rfl⟩ rfl ?_
    refine go_n (d := 18) (op := .fieldAddr 90 (.tmp 17) 0) (ty := 0) (g := some (10, false)) (by kernel_rfl) ⟨13, _, by kernel_rfl, rfl, rfl⟩ rfl ?_
    refine go_n (d := 19) (op := .load 4 (.tmp 18)) (ty := 4) (g := some (10, false)) (by kernel_rfl) ⟨13, _, by kernel_rfl, rfl, rfl⟩ rfl ?_
    refine go_n (d := 20) (op := .binOp .neq 4 (.tmp 16) (.tmp 19) 4) (ty := 4) (g := some (10, false)) (by kernel_rfl) ⟨13, _, by kernel_rfl, rfl, rfl⟩ rfl ?_
    refine go_q0 21 (.pick (.tmp 13) (.const (.bool true)) (.tmp 20)) 4 (qv_pick_t rfl rfl) ?_
    refine go_nil ?_
    change G _ _ _ _
    refine p_weaken [1, 2, 21] rfl ?_
    refine p_condT (.tmp 21) (by kernel_rfl) rfl ?_
    refine p_seq0 ?_
    refine p_plain0 (0 :: []) ?_
    refine go_q0 2 (.assign (.const (.bool false))) 4 (qv_assign rfl) ?_
    refine go_nil ?_
    change G _ _ _ _
    refine p_weaken [1, 2] rfl ?_
    refine p_ret0 ?_
    try dsimp only [thenQ, inBlockQ]
    try rw [if_pos rfl]
    refine ret_now (.inr rfl) (.cons (res_tmp rfl) .nil) (by repeat constructor) ?_
    refine ⟨congrArg Value.bool (?_ : (_ : Bool) = _), rfl⟩; (try simp_all [Key.right]); try rfl
  replace g13 := kn g13
  refine go_q (d := 14) (op := .fieldAddr 92 (.tmp 1) 0) (ty := 0) (g := some (10, false)) (by kernel_rfl) ⟨13, by kernel_rfl, rfl⟩ rfl (qv_field rfl fd92_0) ?_
  refine go_q (d := 15) (op := .fieldAddr 90 (.tmp 14) 0) (ty := 0) (g := some (10, false)) (by kernel_rfl) ⟨13, by kernel_rfl, rfl⟩ rfl (qv_field rfl fd90_0) ?_
  refine go_q (d := 16) (op := .load 4 (.tmp 15)) (ty := 4) (g := some (10, false)) (by kernel_rfl) ⟨13, by kernel_rfl, rfl⟩ rfl (qv_load rfl .auto (ldv_sca sc4 (get_Key_0 _))) ?_
  refine go_q (d := 17) (op := .fieldAddr 92 (.tmp 1) 1) (ty := 0) (g := some (10, false)) (by kernel_rfl) ⟨13, by kernel_rfl, rfl⟩ rfl (qv_field rfl fd92_1) ?_
  refine go_q (d := 18) (op := .fieldAddr 90 (.tmp 17) 0) (ty := 0) (g := some (10, false)) (by kernel_rfl) ⟨13, by kernel_rfl, rfl⟩ rfl (qv_field rfl fd90_0) ?_
  refine go_q (d := 19) (op := .load 4 (.tmp 18)) (ty := 4) (g := some (10, false)) (by kernel_rfl) ⟨13, by kernel_rfl, rfl⟩ rfl (qv_load rfl .auto (ldv_sca sc4 (get_Key_17 _))) ?_
  refine go_q (d := 20) (op := .binOp .neq 4 (.tmp 16) (.tmp 19) 4) (ty := 4) (g := some (10, false)) (by kernel_rfl) ⟨13, by kernel_rfl, rfl⟩ rfl (qv_neqB un4 rfl rfl) ?_
  refine go_q0 21 (.pick (.tmp 13) (.const (.bool true)) (.tmp 20)) 4 (qv_pick_f rfl rfl) ?_
  refine go_nil ?_
  change G _ _ _ _
  refine p_weaken [1, 2, 21] rfl ?_
  refine p_cond (.tmp 21) (by kernel_rfl) rfl (fun h21 => ?_) (fun h21 => ?_)
  · replace h21 := kn h21
    refine p_seq0 ?_
    refine p_plain0 (0 :: []) ?_
    refine go_q0 2 (.assign (.const (.bool false))) 4 (qv_assign rfl) ?_
    refine go_nil ?_
    change G _ _ _ _
    refine p_weaken [1, 2] rfl ?_
    refine p_ret0 ?_
    try dsimp only [thenQ, inBlockQ]
    try rw [if_pos rfl]
    refine ret_now (.inr rfl) (.cons (res_tmp rfl) .nil) (by repeat constructor) ?_
    refine ⟨congrArg Value.bool (?_ : (_ : Bool) = _), rfl⟩; (try simp_all [Key.right]); try rfl
  replace h21 := kn h21
  refine p_skip0 ?_
  change G _ _ _ _
  refine p_weaken [1, 2] rfl ?_
  refine p_seq0 ?_
  refine p_plain0 (0 :: 1 :: 2 :: 3 :: 4 :: 5 :: 6 :: 7 :: 8 :: 9 :: 10 :: 11 :: 12 :: 13 :: 14 :: 15 :: 16 :: 17 :: 18 :: []) ?_
  refine go_q0 22 (.fieldAddr 92 (.tmp 1) 2) 0 (qv_field rfl fd92_2) ?_
  refine go_q0 23 (.load 5 (.tmp 22)) 5 (qv_load rfl .auto (ldv_sca sc5 (get_Key_34 _))) ?_
  refine go_s0 (some 24) (.call { callee := .value (.func 89), args := #[.tmp 23], argTypes := #[5] }) 4 ?_
  refine os_callP rfl en89 rfl (pu_refPorts k.proto) ?_
  refine go_q0 25 (.move (.tmp 24)) 4 (qv_move rfl) ?_
  refine go_case (d := 25) rfl (fun g25 => ?_) (fun g25 => ?_)
  · replace g25 := kn g25
    refine go_n (d := 26) (op := .fieldAddr 92 (.tmp 1) 3) (ty := 0) (g := some (3, false)) (by kernel_rfl) ⟨25, _, by kernel_rfl, rfl, rfl⟩ rfl ?_
    refine go_n (d := 27) (op := .load 27 (.tmp 26)) (ty := 27) (g := some (3, false)) (by kernel_rfl) ⟨25, _, by kernel_rfl, rfl, rfl⟩ rfl ?_
    refine go_n (d := 28) (op := .binOp .eql 27 (.tmp 27) (.const (.int .u16 0)) 27) (ty := 4) (g := some (3, false)) (by kernel_rfl) ⟨25, _, by kernel_rfl, rfl, rfl⟩ rfl ?_
    refine go_n (d := 29) (op := .move (.tmp 28)) (ty := 4) (g := some (3, false)) (by kernel_rfl) ⟨25, _, by kernel_rfl, rfl, rfl⟩ rfl ?_
    refine go_n (d := 30) (op := .fieldAddr 92 (.tmp 1) 2) (ty := 0) (g := some (7, true)) (by kernel_rfl) ⟨29, _, by kernel_rfl, rfl, rfl⟩ rfl ?_
    refine go_n (d := 31) (op := .load 5 (.tmp 30)) (ty := 5) (g := some (7, true)) (by kernel_rfl) ⟨29, _, by kernel_rfl, rfl, rfl⟩ rfl ?_
    refine go_n (d := 32) (op := .call { callee := .value (.func 90), args := #[.tmp 31], argTypes := #[5] }) (ty := 4) (g := some (7, true)) (by kernel_rfl) ⟨29, _, by kernel_rfl, rfl, rfl⟩ rfl ?_
    refine go_n (d := 33) (op := .move (.tmp 32)) (ty := 4) (g := some (7, true)) (by kernel_rfl) ⟨29, _, by kernel_rfl, rfl, rfl⟩ rfl ?_
    refine go_n (d := 34) (op := .fieldAddr 92 (.tmp 1) 4) (ty := 0) (g := some (11, false)) (by kernel_rfl) ⟨33, _, by kernel_rfl, rfl, rfl⟩ rfl ?_
    refine go_n (d := 35) (op := .load 27 (.tmp 34)) (ty := 27) (g := some (11, false)) (by kernel_rfl) ⟨33, _, by kernel_rfl, rfl, rfl⟩ rfl ?_
    refine go_n (d := 36) (op := .binOp .eql 27 (.tmp 35) (.const (.int .u16 0)) 27) (ty := 4) (g := some (11, false)) (by kernel_rfl) ⟨33, _, by kernel_rfl, rfl, rfl⟩ rfl ?_
    refine go_n (d := 37) (op := .pick (.tmp 33) (.const (.bool true)) (.tmp 36)) (ty := 4) (g := some (7, true)) (by kernel_rfl) ⟨29, _, by kernel_rfl, rfl, rfl⟩ rfl ?_
    refine go_n (d := 38) (op := .pick (.tmp 29) (.tmp 37) (.const (.bool false))) (ty := 4) (g := some (3, false)) (by kernel_rfl) ⟨25, _, by kernel_rfl, rfl, rfl⟩ rfl ?_
    refine go_q0 39 (.pick (.tmp 25) (.const (.bool true)) (.tmp 38)) 4 (qv_pick_t rfl rfl) ?_
    refine go_q0 2 (.assign (.tmp 39)) 4 (qv_assign rfl) ?_
    refine go_nil ?_
    change G _ _ _ _
    refine p_weaken [2] rfl ?_
    refine p_ret0 ?_
    try dsimp only [thenQ, inBlockQ]
    try rw [if_pos rfl]
    refine ret_now (.inr rfl) (.cons (res_tmp rfl) .nil) (by repeat constructor) ?_
    refine ⟨congrArg Value.bool (?_ : (_ : Bool) = _), rfl⟩; (try simp_all [Key.right]); try rfl
  replace g25 := kn g25
  refine go_q (d := 26) (op := .fieldAddr 92 (.tmp 1) 3) (ty := 0) (g := some (3, false)) (by kernel_rfl) ⟨25, by kernel_rfl, rfl⟩ rfl (qv_field rfl fd92_3) ?_
  refine go_q (d := 27) (op := .load 27 (.tmp 26)) (ty := 27) (g := some (3, false)) (by kernel_rfl) ⟨25, by kernel_rfl, rfl⟩ rfl (qv_load rfl .auto (ldv_sca sc27 (get_Key_35 _))) ?_
  refine go_q (d := 28) (op := .binOp .eql 27 (.tmp 27) (.const (.int .u16 0)) 27) (ty := 4) (g := some (3, false)) (by kernel_rfl) ⟨25, by kernel_rfl, rfl⟩ rfl (qv_eql rfl rfl rfl) ?_
  refine go_q (d := 29) (op := .move (.tmp 28)) (ty := 4) (g := some (3, false)) (by kernel_rfl) ⟨25, by kernel_rfl, rfl⟩ rfl (qv_move rfl) ?_
  refine go_case (d := 29) rfl (fun g29 => ?_) (fun g29 => ?_)
  rotate_left
  · replace g29 := kn g29
    refine go_n (d := 30) (op := .fieldAddr 92 (.tmp 1) 2) (ty := 0) (g := some (7, true)) (by kernel_rfl) ⟨29, _, by kernel_rfl, rfl, rfl⟩ rfl ?_
    refine go_n (d := 31) (op := .load 5 (.tmp 30)) (ty := 5) (g := some (7, true)) (by kernel_rfl) ⟨29, _, by kernel_rfl, rfl, rfl⟩ rfl ?_
    refine go_n (d := 32) (op := .call { callee := .value (.func 90), args := #[.tmp 31], argTypes := #[5] }) (ty := 4) (g := some (7, true)) (by kernel_rfl) ⟨29, _, by kernel_rfl, rfl, rfl⟩ rfl ?_
    refine go_n (d := 33) (op := .move (.tmp 32)) (ty := 4) (g := some (7, true)) (by kernel_rfl) ⟨29, _, by kernel_rfl, rfl, rfl⟩ rfl ?_
    refine go_n (d := 34) (op := .fieldAddr 92 (.tmp 1) 4) (ty := 0) (g := some (11, false)) (by kernel_rfl) ⟨33, _, by kernel_rfl, rfl, rfl⟩ rfl ?_
    refine go_n (d := 35) (op := .load 27 (.tmp 34)) (ty := 27) (g := some (11, false)) (by kernel_rfl) ⟨33, _, by kernel_rfl, rfl, rfl⟩ rfl ?_
    refine go_n (d := 36) (op := .binOp .eql 27 (.tmp 35) (.const (.int .u16 0)) 27) (ty := 4) (g := some (11, false)) (by kernel_rfl) ⟨33, _, by kernel_rfl, rfl, rfl⟩ rfl ?_
    refine go_n (d := 37) (op := .pick (.tmp 33) (.const (.bool true)) (.tmp 36)) (ty := 4) (g := some (7, true)) (by kernel_rfl) ⟨29, _, by kernel_rfl, rfl, rfl⟩ rfl ?_
    refine go_q (d := 38) (op := .pick (.tmp 29) (.tmp 37) (.const (.bool false))) (ty := 4) (g := some (3, false)) (by kernel_rfl) ⟨25, by kernel_rfl, rfl⟩ rfl (qv_pick_f rfl rfl) ?_
    refine go_q0 39 (.pick (.tmp 25) (.const (.bool true)) (.tmp 38)) 4 (qv_pick_f rfl rfl) ?_
    refine go_q0 2 (.assign (.tmp 39)) 4 (qv_assign rfl) ?_
    refine go_nil ?_
    change G _ _ _ _
    refine p_weaken [2] rfl ?_
    refine p_ret0 ?_
    try dsimp only [thenQ, inBlockQ]
    try rw [if_pos rfl]
    refine ret_now (.inr rfl) (.cons (res_tmp rfl) .nil) (by repeat constructor) ?_
    refine ⟨congrArg Value.bool (?_ : (_ : Bool) = _), rfl⟩; (try simp_all [Key.right]); try rfl
  replace g29 := kn g29
  refine go_q (d := 30) (op := .fieldAddr 92 (.tmp 1) 2) (ty := 0) (g := some (7, true)) (by kernel_rfl) ⟨29, by kernel_rfl, rfl⟩ rfl (qv_field rfl fd92_2) ?_
  refine go_q (d := 31) (op := .load 5 (.tmp 30)) (ty := 5) (g := some (7, true)) (by kernel_rfl) ⟨29, by kernel_rfl, rfl⟩ rfl (qv_load rfl .auto (ldv_sca sc5 (get_Key_34 _))) ?_
  refine go_s (d := some 32) (op := .call { callee := .value (.func 90), args := #[.tmp 31], argTypes := #[5] }) (ty := 4) (g := some (7, true)) (by kernel_rfl) ⟨29, by kernel_rfl, rfl⟩ ?_
  refine os_callP rfl en90 rfl (pu_refIcmp k.proto) ?_
  refine go_q (d := 33) (op := .move (.tmp 32)) (ty := 4) (g := some (7, true)) (by kernel_rfl) ⟨29, by kernel_rfl, rfl⟩ rfl (qv_move rfl) ?_
  refine go_case (d := 33) rfl (fun g33 => ?_) (fun g33 => ?_)
  · replace g33 := kn g33
    refine go_n (d := 34) (op := .fieldAddr 92 (.tmp 1) 4) (ty := 0) (g := some (11, false)) (by kernel_rfl) ⟨33, _, by kernel_rfl, rfl, rfl⟩ rfl ?_
    refine go_n (d := 35) (op := .load 27 (.tmp 34)) (ty := 27) (g := some (11, false)) (by kernel_rfl) ⟨33, _, by kernel_rfl, rfl, rfl⟩ rfl ?_
    refine go_n (d := 36) (op := .binOp .eql 27 (.tmp 35) (.const (.int .u16 0)) 27) (ty := 4) (g := some (11, false)) (by kernel_rfl) ⟨33, _, by kernel_rfl, rfl, rfl⟩ rfl ?_
    refine go_q (d := 37) (op := .pick (.tmp 33) (.const (.bool true)) (.tmp 36)) (ty := 4) (g := some (7, true)) (by kernel_rfl) ⟨29, by kernel_rfl, rfl⟩ rfl (qv_pick_t rfl rfl) ?_
    refine go_q (d := 38) (op := .pick (.tmp 29) (.tmp 37) (.const (.bool false))) (ty := 4) (g := some (3, false)) (by kernel_rfl) ⟨25, by kernel_rfl, rfl⟩ rfl (qv_pick_t rfl rfl) ?_
    refine go_q0 39 (.pick (.tmp 25) (.const (.bool true)) (.tmp 38)) 4 (qv_pick_f rfl rfl) ?_
    refine go_q0 2 (.assign (.tmp 39)) 4 (qv_assign rfl) ?_
    refine go_nil ?_
    change G _ _ _ _
    refine p_weaken [2] rfl ?_
    refine p_ret0 ?_
    try dsimp only [thenQ, inBlockQ]
    try rw [if_pos rfl]
    refine ret_now (.inr rfl) (.cons (res_tmp rfl) .nil) (by repeat constructor) ?_
    refine ⟨congrArg Value.bool (?_ : (_ : Bool) = _), rfl⟩; (try simp_all [Key.right]); try rfl
  replace g33 := kn g33
  refine go_q (d := 34) (op := .fieldAddr 92 (.tmp 1) 4) (ty := 0) (g := some (11, false)) (by kernel_rfl) ⟨33, by kernel_rfl, rfl⟩ rfl (qv_field rfl fd92_4) ?_
  refine go_q (d := 35) (op := .load 27 (.tmp 34)) (ty := 27) (g := some (11, false)) (by kernel_rfl) ⟨33, by kernel_rfl, rfl⟩ rfl (qv_load rfl .auto (ldv_sca sc27 (get_Key_36 _))) ?_
  refine go_q (d := 36) (op := .binOp .eql 27 (.tmp 35) (.const (.int .u16 0)) 27) (ty := 4) (g := some (11, false)) (by kernel_rfl) ⟨33, by kernel_rfl, rfl⟩ rfl (qv_eql rfl rfl rfl) ?_
  refine go_q (d := 37) (op := .pick (.tmp 33) (.const (.bool true)) (.tmp 36)) (ty := 4) (g := some (7, true)) (by kernel_rfl) ⟨29, by kernel_rfl, rfl⟩ rfl (qv_pick_f rfl rfl) ?_
  refine go_q (d := 38) (op := .pick (.tmp 29) (.tmp 37) (.const (.bool false))) (ty := 4) (g := some (3, false)) (by kernel_rfl) ⟨25, by kernel_rfl, rfl⟩ rfl (qv_pick_t rfl rfl) ?_
  refine go_q0 39 (.pick (.tmp 25) (.const (.bool true)) (.tmp 38)) 4 (qv_pick_f rfl rfl) ?_
  refine go_q0 2 (.assign (.tmp 39)) 4 (qv_assign rfl) ?_
  refine go_nil ?_
  change G _ _ _ _
  refine p_weaken [2] rfl ?_
  refine p_ret0 ?_
  try dsimp only [thenQ, inBlockQ]
  try rw [if_pos rfl]
  refine ret_now (.inr rfl) (.cons (res_tmp rfl) .nil) (by repeat constructor) ?_
  refine ⟨congrArg Value.bool (?_ : (_ : Bool) = _), rfl⟩; (try simp_all [Key.right]); try rfl
theorem pu_RecRight (r : Rec) : Pu Tryz.prog 60 [.agg r.c] (.bool r.right) := by
  refine ct_body (rv := [.tmp 2]) [(0, _)] Tryz.func60 (by kernel_rfl) Tryz.ntmps60 Tryz.results60 rfl rfl (fun w0 => ?_)
  refine p_seq0 ?_
  refine p_plain0 (0 :: 1 :: []) ?_
  refine go_s0 (some 1) (.box 69 (.tmp 0)) 0 ?_
  refine os_boxA rfl rfl (fun b1 => ?_)
  refine go_q0 2 (.assign (.const (.bool false))) 4 (qv_assign rfl) ?_
  refine go_nil ?_
  change G _ _ _ _
  refine p_weaken [1, 2] rfl ?_
  refine p_seq0 ?_
  refine p_plain0 (0 :: 1 :: 2 :: 3 :: 4 :: 5 :: 6 :: 7 :: 8 :: 9 :: 10 :: 11 :: 12 :: 13 :: 14 :: 15 :: 16 :: 17 :: 18 :: 19 :: 20 :: 21 :: 22 :: 23 :: 24 :: 25 :: []) ?_
  refine go_q0 3 (.fieldAddr 69 (.tmp 1) 0) 0 (qv_field rfl fd69_0) ?_
  refine go_q0 4 (.load 29 (.tmp 3)) 29 (qv_load rfl .auto (ldv_agg agg29 (ext_Rec_0_37 _) (Nat.le_of_ble_eq_true rfl))) ?_
  refine go_s0 (some 5) (.call { callee := .value (.func 20), args := #[.tmp 4], argTypes := #[29] }) 4 ?_
  refine os_callP rfl en20 rfl (pu_KeyRight r.key) ?_
  refine go_q0 6 (.move (.tmp 5)) 4 (qv_move rfl) ?_
  refine go_case (d := 6) rfl (fun g6 => ?_) (fun g6 => ?_)
  rotate_left
  · replace g6 := kn g6
    refine go_n (d := 7) (op := .fieldAddr 69 (.tmp 1) 1) (ty := 0) (g := some (3, true)) (by kernel_rfl) ⟨6, _, by kernel_rfl, rfl, rfl⟩ rfl ?_
    refine go_n (d := 8) (op := .load 23 (.tmp 7)) (ty := 23) (g := some (3, true)) (by kernel_rfl) ⟨6, _, by kernel_rfl, rfl, rfl⟩ rfl ?_
    refine go_n (d := 9) (op := .binOp .gtr 23 (.tmp 8) (.const (.int .u64 0)) 23) (ty := 4) (g := some (3, true)) (by kernel_rfl) ⟨6, _, by kernel_rfl, rfl, rfl⟩ rfl ?_
    refine go_q0 10 (.pick (.tmp 6) (.tmp 9) (.const (.bool false))) 4 (qv_pick_f rfl rfl) ?_
    refine go_q0 11 (.move (.tmp 10)) 4 (qv_move rfl) ?_
    refine go_n (d := 12) (op := .fieldAddr 69 (.tmp 1) 3) (ty := 0) (g := some (8, true)) (by kernel_rfl) ⟨11, _, by kernel_rfl, rfl, rfl⟩ rfl ?_
    refine go_n (d := 13) (op := .load 23 (.tmp 12)) (ty := 23) (g := some (8, true)) (by kernel_rfl) ⟨11, _, by kernel_rfl, rfl, rfl⟩ rfl ?_
    refine go_n (d := 14) (op := .fieldAddr 69 (.tmp 1) 4) (ty := 0) (g := some (8, true)) (by kernel_rfl) ⟨11, _, by kernel_rfl, rfl, rfl⟩ rfl ?_
    refine go_n (d := 15) (op := .load 23 (.tmp 14)) (ty := 23) (g := some (8, true)) (by kernel_rfl) ⟨11, _, by kernel_rfl, rfl, rfl⟩ rfl ?_
    refine go_n (d := 16) (op := .binOp .leq 23 (.tmp 13) (.tmp 15) 23) (ty := 4) (g := some (8, true)) (by kernel_rfl) ⟨11, _, by kernel_rfl, rfl, rfl⟩ rfl ?_
    refine go_q0 17 (.pick (.tmp 11) (.tmp 16) (.const (.bool false))) 4 (qv_pick_f rfl rfl) ?_
    refine go_q0 18 (.move (.tmp 17)) 4 (qv_move rfl) ?_
    refine go_n (d := 19) (op := .fieldAddr 69 (.tmp 1) 6) (ty := 0) (g := some (15, true)) (by kernel_rfl) ⟨18, _, by kernel_rfl, rfl, rfl⟩ rfl ?_
    refine go_n (d := 20) (op := .load 5 (.tmp 19)) (ty := 5) (g := some (15, true)) (by kernel_rfl) ⟨18, _, by kernel_rfl, rfl, rfl⟩ rfl ?_
    refine go_n (d := 21) (op := .binOp .geq 5 (.tmp 20) (.const (.int .u8 1)) 5) (ty := 4) (g := some (15, true)) (by kernel_rfl) ⟨18, _, by kernel_rfl, rfl, rfl⟩ rfl ?_
    refine go_q0 22 (.pick (.tmp 18) (.tmp 21) (.const (.bool false))) 4 (qv_pick_f rfl rfl) ?_
    refine go_q0 23 (.move (.tmp 22)) 4 (qv_move rfl) ?_
    refine go_n (d := 24) (op := .fieldAddr 69 (.tmp 1) 6) (ty := 0) (g := some (20, true)) (by kernel_rfl) ⟨23, _, by kernel_rfl, rfl, rfl⟩ rfl ?_
    refine go_n (d := 25) (op := .load 5 (.tmp 24)) (ty := 5) (g := some (20, true)) (by kernel_rfl) ⟨23, _, by kernel_rfl, rfl, rfl⟩ rfl ?_
    refine go_n (d := 26) (op := .binOp .leq 5 (.tmp 25) (.const (.int .u8 5)) 5) (ty := 4) (g := some (20, true)) (by kernel_rfl) ⟨23, _, by kernel_rfl, rfl, rfl⟩ rfl ?_
    refine go_q0 27 (.pick (.tmp 23) (.tmp 26) (.const (.bool false))) 4 (qv_pick_f rfl rfl) ?_
    refine go_q0 2 (.assign (.tmp 27)) 4 (qv_assign rfl) ?_
    refine go_nil ?_
    change G _ _ _ _
    refine p_weaken [2] rfl ?_
    refine p_ret0 ?_
    try dsimp only [thenQ, inBlockQ]
    try rw [if_pos rfl]
    refine ret_now (.inr rfl) (.cons (res_tmp rfl) .nil) (by repeat constructor) ?_
    refine ⟨congrArg Value.bool (?_ : (_ : Bool) = _), rfl⟩; (try simp_all [Rec.right]); try omega
  replace g6 := kn g6
  refine go_q (d := 7) (op := .fieldAddr 69 (.tmp 1) 1) (ty := 0) (g := some (3, true)) (by kernel_rfl) ⟨6, by kernel_rfl, rfl⟩ rfl (qv_field rfl fd69_1) ?_
  refine go_q (d := 8) (op := .load 23 (.tmp 7)) (ty := 23) (g := some (3, true)) (by kernel_rfl) ⟨6, by kernel_rfl, rfl⟩ rfl (qv_load rfl .auto (ldv_sca sc23 (get_Rec_37 _))) ?_
  refine go_q (d := 9) (op := .binOp .gtr 23 (.tmp 8) (.const (.int .u64 0)) 23) (ty := 4) (g := some (3, true)) (by kernel_rfl) ⟨6, by kernel_rfl, rfl⟩ rfl (qv_gtr rfl rfl rfl) ?_
  refine go_q0 10 (.pick (.tmp 6) (.tmp 9) (.const (.bool false))) 4 (qv_pick_t rfl rfl) ?_
  refine go_q0 11 (.move (.tmp 10)) 4 (qv_move rfl) ?_
  refine go_case (d := 11) rfl (fun g11 => ?_) (fun g11 => ?_)
  rotate_left
  · replace g11 := kn g11
    refine go_n (d := 12) (op := .fieldAddr 69 (.tmp 1) 3) (ty := 0) (g := some (8, true)) (by kernel_rfl) ⟨11, _, by kernel_rfl, rfl, rfl⟩ rfl ?_
    refine go_n (d := 13) (op := .load 23 (.tmp 12)) (ty := 23) (g := some (8, true)) (by kernel_rfl) ⟨11, _, by kernel_rfl, rfl, rfl⟩ rfl ?_
    refine go_n (d := 14) (op := .fieldAddr 69 (.tmp 1) 4) (ty := 0) (g := some (8, true)) (by kernel_rfl) ⟨11, _, by kernel_rfl, rfl, rfl⟩ rfl ?_
    refine go_n (d := 15) (op := .load 23 (.tmp 14)) (ty := 23) (g := some (8, true)) (by kernel_rfl) ⟨11, _, by kernel_rfl, rfl, rfl⟩ rfl ?_
    refine go_n (d := 16) (op := .binOp .leq 23 (.tmp 13) (.tmp 15) 23) (ty := 4) (g := some (8, true)) (by kernel_rfl) ⟨11, _, by kernel_rfl, rfl, rfl⟩ rfl ?_
    refine go_q0 17 (.pick (.tmp 11) (.tmp 16) (.const (.bool false))) 4 (qv_pick_f rfl rfl) ?_
    refine go_q0 18 (.move (.tmp 17)) 4 (qv_move rfl) ?_
    refine go_n (d := 19) (op := .fieldAddr 69 (.tmp 1) 6) (ty := 0) (g := some (15, true)) (by kernel_rfl) ⟨18, _, by kernel_rfl, rfl, rfl⟩ rfl ?_
    refine go_n (d := 20) (op := .load 5 (.tmp 19)) (ty := 5) (g := some (15, true)) (by kernel_rfl) ⟨18, _, by kernel_rfl, rfl, rfl⟩ rfl ?_
    refine go_n (d := 21) (op := .binOp .geq 5 (.tmp 20) (.const (.int .u8 1)) 5) (ty := 4) (g := some (15, true)) (by kernel_rfl) ⟨18, _, by kernel_rfl, rfl, rfl⟩ rfl ?_
    refine go_q0 22 (.pick (.tmp 18) (.tmp 21) (.const (.bool false))) 4 (qv_pick_f rfl rfl) ?_
    refine go_q0 23 (.move (.tmp 22)) 4 (qv_move rfl) ?_
    refine go_n (d := 24) (op := .fieldAddr 69 (.tmp 1) 6) (ty := 0) (g := some (20, true)) (by kernel_rfl) ⟨23, _, by kernel_rfl, rfl, rfl⟩ rfl ?_
    refine go_n (d := 25) (op := .load 5 (.tmp 24)) (ty := 5) (g := some (20, true)) (by kernel_rfl) ⟨23, _, by kernel_rfl, rfl, rfl⟩ rfl ?_
    refine go_n (d := 26) (op := .binOp .leq 5 (.tmp 25) (.const (.int .u8 5)) 5) (ty := 4) (g := some (20, true)) (by kernel_rfl) ⟨23, _, by kernel_rfl, rfl, rfl⟩ rfl ?_
    refine go_q0 27 (.pick (.tmp 23) (.tmp 26) (.const (.bool false))) 4 (qv_pick_f rfl rfl) ?_
    refine go_q0 2 (.assign (.tmp 27)) 4 (qv_assign rfl) ?_
    refine go_nil ?_
    change G _ _ _ _
    refine p_weaken [2] rfl ?_
    refine p_ret0 ?_
    try dsimp only [thenQ, inBlockQ]
    try rw [if_pos rfl]
    refine ret_now (.inr rfl) (.cons (res_tmp rfl) .nil) (by repeat constructor) ?_
    refine ⟨congrArg Value.bool (?_ : (_ : Bool) = _), rfl⟩; (try simp_all [Rec.right]); try omega
  replace g11 := kn g11
  refine go_q (d := 12) (op := .fieldAddr 69 (.tmp 1) 3) (ty := 0) (g := some (8, true)) (by kernel_rfl) ⟨11, by kernel_rfl, rfl⟩ rfl (qv_field rfl fd69_3) ?_
  refine go_q (d := 13) (op := .load 23 (.tmp 12)) (ty := 23) (g := some (8, true)) (by kernel_rfl) ⟨11, by kernel_rfl, rfl⟩ rfl (qv_load rfl .auto (ldv_sca sc23 (get_Rec_39 _))) ?_
  refine go_q (d := 14) (op := .fieldAddr 69 (.tmp 1) 4) (ty := 0) (g := some (8, true)) (by kernel_rfl) ⟨11, by kernel_rfl, rfl⟩ rfl (qv_field rfl fd69_4) ?_
  refine go_q (d := 15) (op := .load 23 (.tmp 14)) (ty := 23) (g := some (8, true)) (by kernel_rfl) ⟨11, by kernel_rfl, rfl⟩ rfl (qv_load rfl .auto (ldv_sca sc23 (get_Rec_40 _))) ?_
  refine go_q (d := 16) (op := .binOp .leq 23 (.tmp 13) (.tmp 15) 23) (ty := 4) (g := some (8, true)) (by kernel_rfl) ⟨11, by kernel_rfl, rfl⟩ rfl (qv_leq rfl rfl rfl) ?_
  refine go_q0 17 (.pick (.tmp 11) (.tmp 16) (.const (.bool false))) 4 (qv_pick_t rfl rfl) ?_
  refine go_q0 18 (.move (.tmp 17)) 4 (qv_move rfl) ?_
  refine go_case (d := 18) rfl (fun g18 => ?_) (fun g18 => ?_)
  rotate_left
  · replace g18 := kn g18
    refine go_n (d := 19) (op := .fieldAddr 69 (.tmp 1) 6) (ty := 0) (g := some (15, true)) (by kernel_rfl) ⟨18, _, by kernel_rfl, rfl, rfl⟩ rfl ?_
    refine go_n (d := 20) (op := .load 5 (.tmp 19)) (ty := 5) (g := some (15, true)) (by kernel_rfl) ⟨18, _, by kernel_rfl, rfl, rfl⟩ rfl ?_
    refine go_n (d := 21) (op := .binOp .geq 5 (.tmp 20) (.const (.int .u8 1)) 5) (ty := 4) (g := some (15, true)) (by kernel_rfl) ⟨18, _, by kernel_rfl, rfl, rfl⟩ rfl ?_
    refine go_q0 22 (.pick (.tmp 18) (.tmp 21) (.const (.bool false))) 4 (qv_pick_f rfl rfl) ?_
    refine go_q0 23 (.move (.tmp 22)) 4 (qv_move rfl) ?_
    refine go_n (d := 24) (op := .fieldAddr 69 (.tmp 1) 6) (ty := 0) (g := some (20, true)) (by kernel_rfl) ⟨23, _, by kernel_rfl, rfl, rfl⟩ rfl ?_
    refine go_n (d := 25) (op := .load 5 (.tmp 24)) (ty := 5) (g := some (20, true)) (by kernel_rfl) ⟨23, _, by kernel_rfl, rfl, rfl⟩ rfl ?_
    refine go_n (d := 26) (op := .binOp .leq 5 (.tmp 25) (.const (.int .u8 5)) 5) (ty := 4) (g := some (20, true)) (by kernel_rfl) ⟨23, _, by kernel_rfl, rfl, rfl⟩ rfl ?_
    refine go_q0 27 (.pick (.tmp 23) (.tmp 26) (.const (.bool false))) 4 (qv_pick_f rfl rfl) ?_
    refine go_q0 2 (.assign (.tmp 27)) 4 (qv_assign rfl) ?_
    refine go_nil ?_
    change G _ _ _ _
    refine p_weaken [2] rfl ?_
    refine p_ret0 ?_
    try dsimp only [thenQ, inBlockQ]
    try rw [if_pos rfl]
    refine ret_now (.inr rfl) (.cons (res_tmp rfl) .nil) (by repeat constructor) ?_
    refine ⟨congrArg Value.bool (?_ : (_ : Bool) = _), rfl⟩; (try simp_all [Rec.right]); try omega
  replace g18 := kn g18
  refine go_q (d := 19) (op := .fieldAddr 69 (.tmp 1) 6) (ty := 0) (g := some (15, true)) (by kernel_rfl) ⟨18, by kernel_rfl, rfl⟩ rfl (qv_field rfl fd69_6) ?_
  refine go_q (d := 20) (op := .load 5 (.tmp 19)) (ty := 5) (g := some (15, true)) (by kernel_rfl) ⟨18, by kernel_rfl, rfl⟩ rfl (qv_load rfl .auto (ldv_sca sc5 (get_Rec_42 _))) ?_
  refine go_q (d := 21) (op := .binOp .geq 5 (.tmp 20) (.const (.int .u8 1)) 5) (ty := 4) (g := some (15, true)) (by kernel_rfl) ⟨18, by kernel_rfl, rfl⟩ rfl (qv_geq rfl rfl rfl) ?_
  refine go_q0 22 (.pick (.tmp 18) (.tmp 21) (.const (.bool false))) 4 (qv_pick_t rfl rfl) ?_
  refine go_q0 23 (.move (.tmp 22)) 4 (qv_move rfl) ?_
  refine go_case (d := 23) rfl (fun g23 => ?_) (fun g23 => ?_)
  · replace g23 := kn g23
    refine go_q (d := 24) (op := .fieldAddr 69 (.tmp 1) 6) (ty := 0) (g := some (20, true)) (by kernel_rfl) ⟨23, by kernel_rfl, rfl⟩ rfl (qv_field rfl fd69_6) ?_
    refine go_q (d := 25) (op := .load 5 (.tmp 24)) (ty := 5) (g := some (20, true)) (by kernel_rfl) ⟨23, by kernel_rfl, rfl⟩ rfl (qv_load rfl .auto (ldv_sca sc5 (get_Rec_42 _))) ?_
    refine go_q (d := 26) (op := .binOp .leq 5 (.tmp 25) (.const (.int .u8 5)) 5) (ty := 4) (g := some (20, true)) (by kernel_rfl) ⟨23, by kernel_rfl, rfl⟩ rfl (qv_leq rfl rfl rfl) ?_
    refine go_q0 27 (.pick (.tmp 23) (.tmp 26) (.const (.bool false))) 4 (qv_pick_t rfl rfl) ?_
    refine go_q0 2 (.assign (.tmp 27)) 4 (qv_assign rfl) ?_
    refine go_nil ?_
    change G _ _ _ _
    refine p_weaken [2] rfl ?_
    refine p_ret0 ?_
    try dsimp only [thenQ, inBlockQ]
    try rw [if_pos rfl]
    refine ret_now (.inr rfl) (.cons (res_tmp rfl) .nil) (by repeat constructor) ?_
    refine ⟨congrArg Value.bool (?_ : (_ : Bool) = _), rfl⟩; (try simp_all [Rec.right]); try omega
  replace g23 := kn g23
  refine go_n (d := 24) (op := .fieldAddr 69 (.tmp 1) 6) (ty := 0) (g := some (20, true)) (by kernel_rfl) ⟨23, _, by kernel_rfl, rfl, rfl⟩ rfl ?_
  refine go_n (d := 25) (op := .load 5 (.tmp 24)) (ty := 5) (g := some (20, true)) (by kernel_rfl) ⟨23, _, by kernel_rfl, rfl, rfl⟩ rfl ?_
  refine go_n (d := 26) (op := .binOp .leq 5 (.tmp 25) (.const (.int .u8 5)) 5) (ty := 4) (g := some (20, true)) (by kernel_rfl) ⟨23, _, by kernel_rfl, rfl, rfl⟩ rfl ?_
  refine go_q0 27 (.pick (.tmp 23) (.tmp 26) (.const (.bool false))) 4 (qv_pick_f rfl rfl) ?_
  refine go_q0 2 (.assign (.tmp 27)) 4 (qv_assign rfl) ?_
  refine go_nil ?_
  change G _ _ _ _
  refine p_weaken [2] rfl ?_
  refine p_ret0 ?_
  try dsimp only [thenQ, inBlockQ]
  try rw [if_pos rfl]
  refine ret_now (.inr rfl) (.cons (res_tmp rfl) .nil) (by repeat constructor) ?_
  refine ⟨congrArg Value.bool (?_ : (_ : Bool) = _), rfl⟩; (try simp_all [Rec.right]); try omega
theorem pu_docAddr (a : Adr) : Pu Tryz.prog 73 [.agg a.c] (.agg a.c) := by
  refine ct_body (rv := [.cell 2 90]) [(0, _)] Tryz.func73 (by kernel_rfl) Tryz.ntmps73 Tryz.results73 rfl rfl (fun w0 => ?_)
  refine p_seq0 ?_
  refine p_plain0 (0 :: 1 :: []) ?_
  refine go_s0 (some 1) (.box 26 (.tmp 0)) 0 ?_
  refine os_boxA rfl rfl (fun b1 => ?_)
  refine go_s0 (some 2) (.alloc 90) 0 ?_
  refine os_allocA rfl ze90 (fun b2 => ?_)
  refine go_nil ?_
  change G _ _ _ _
  refine p_weaken [1, 2] rfl ?_
  refine p_seq0 ?_
  refine p_plain0 (0 :: 1 :: 2 :: 3 :: 4 :: 5 :: []) ?_
  refine go_q0 3 (.fieldAddr 26 (.tmp 1) 0) 0 (qv_field rfl fd26_0) ?_
  refine go_q0 4 (.load 4 (.tmp 3)) 4 (qv_load rfl .auto (ldv_sca sc4 (get_Adr_0 _))) ?_
  refine go_q0 5 (.fieldAddr 26 (.tmp 1) 1) 0 (qv_field rfl fd26_1) ?_
  refine go_q0 6 (.load 24 (.tmp 5)) 24 (qv_load rfl .auto (ldv_agg agg24 (ext_Adr_1_16 _) (Nat.le_of_ble_eq_true rfl))) ?_
  refine go_q0 7 (.build 90 #[(0, .tmp 4), (1, .tmp 6)]) 90 (qv_build rfl (bld90_0_1 _ _)) ?_
  refine go_s0 none (.store 90 (.tmp 2) (.tmp 7)) 0 ?_
  refine os_store rfl rfl sz90 rfl (one_Adr _) .auto (Nat.le_of_ble_eq_true rfl) (splw_Adr _ _ (siz_Adr _)) ?_
  refine go_nil ?_
  change G _ _ _ _
  refine p_weaken [2] rfl ?_
  refine p_ret0 ?_
  try dsimp only [thenQ, inBlockQ]
  try rw [if_pos rfl]
  refine ret_now (.inr rfl) (.cons (res_cell rfl (At.mem .auto) (ldv_agg agg90 (extw_Adr _) (Nat.le_of_ble_eq_true rfl))) .nil) (by repeat constructor) ?_
  exact ⟨rfl, rfl⟩
theorem pu_docKey (k : Key) : Pu Tryz.prog 40 [.agg k.c] (.agg k.c) := by
  refine ct_body (rv := [.cell 2 92]) [(0, _)] Tryz.func40 (by kernel_rfl) Tryz.ntmps40 Tryz.results40 rfl rfl (fun w0 => ?_)
  refine p_seq0 ?_
  refine p_plain0 (0 :: 1 :: []) ?_
  refine go_s0 (some 1) (.box 29 (.tmp 0)) 0 ?_
  refine os_boxA rfl rfl (fun b1 => ?_)
  refine go_s0 (some 2) (.alloc 92) 0 ?_
  refine os_allocA rfl ze92 (fun b2 => ?_)
  refine go_nil ?_
  change G _ _ _ _
  refine p_weaken [1, 2] rfl ?_
  refine p_seq0 ?_
  refine p_draw (by kernel_rfl) mixed 13 14 _ (fun _ h => h) (by kernel_rfl) ?_
  refine gd_all (0 :: 1 :: 2 :: 3 :: 4 :: 5 :: 6 :: 7 :: 8 :: 9 :: 10 :: 11 :: 12 :: []) _ rfl (by kernel_rfl) (by decide) (fun _ h => h) rfl ?_
  refine sq_q0 3 (.fieldAddr 29 (.tmp 1) 0) 0 (qv_field rfl fd29_0) ?_
  refine sq_q0 4 (.load 26 (.tmp 3)) 26 (qv_load rfl .auto (ldv_agg agg26 (ext_Key_0_17 _) (Nat.le_of_ble_eq_true rfl))) ?_
  refine sq_p (d := 5) (op := .call { callee := .value (.func 73), args := #[.tmp 4], argTypes := #[26] }) (ty := 90) (g := none) (by kernel_rfl) trivial (pv_call en73 rfl (pu_docAddr k.src)) ?_
  refine sq_q0 6 (.fieldAddr 29 (.tmp 1) 1) 0 (qv_field rfl fd29_1) ?_
  refine sq_q0 7 (.load 26 (.tmp 6)) 26 (qv_load rfl .auto (ldv_agg agg26 (ext_Key_17_17 _) (Nat.le_of_ble_eq_true rfl))) ?_
  refine sq_p (d := 8) (op := .call { callee := .value (.func 73), args := #[.tmp 7], argTypes := #[26] }) (ty := 90) (g := none) (by kernel_rfl) trivial (pv_call en73 rfl (pu_docAddr k.dst)) ?_
  refine sq_q0 9 (.fieldAddr 29 (.tmp 1) 2) 0 (qv_field rfl fd29_2) ?_
  refine sq_q0 10 (.load 5 (.tmp 9)) 5 (qv_load rfl .auto (ldv_sca sc5 (get_Key_34 _))) ?_
  refine sq_q0 11 (.fieldAddr 29 (.tmp 1) 3) 0 (qv_field rfl fd29_3) ?_
  refine sq_q0 12 (.load 27 (.tmp 11)) 27 (qv_load rfl .auto (ldv_sca sc27 (get_Key_35 _))) ?_
  refine sq_q0 13 (.fieldAddr 29 (.tmp 1) 4) 0 (qv_field rfl fd29_4) ?_
  refine sq_q0 14 (.load 27 (.tmp 13)) 27 (qv_load rfl .auto (ldv_sca sc27 (get_Key_36 _))) ?_
  refine sq_q0 15 (.build 92 #[(0, .tmp 5), (1, .tmp 8), (2, .tmp 10), (3, .tmp 12), (4, .tmp 14)]) 92 (qv_build rfl (bld92_0_1_2_3_4 _ _ _ _ _)) ?_
  refine SeqK.nil (fun β => ?_)
  refine gd_tail [13] rfl (by kernel_rfl) (by kernel_rfl) ?_
  refine go_s0 none (.store 92 (.tmp 2) (.tmp 15)) 0 ?_
  refine os_store rfl rfl sz92 rfl (one_Key _) .auto (Nat.le_of_ble_eq_true rfl) (splw_Key _ _ (siz_Key _)) ?_
  refine go_nil ?_
  change G _ _ _ _
  refine p_weaken [2] rfl ?_
  refine p_ret0 ?_
  try dsimp only [thenQ, inBlockQ]
  try rw [if_pos rfl]
  refine ret_now (.inr rfl) (.cons (res_cell rfl (At.mem .auto) (ldv_agg agg92 (extw_Key _) (Nat.le_of_ble_eq_true rfl))) .nil) (by repeat constructor) ?_
  exact ⟨rfl, rfl⟩
theorem pu_docPacket (p : Pkt) : Pu Tryz.prog 34 [.agg p.c] (.agg p.c) := by
  refine ct_body (rv := [.cell 2 94]) [(0, _)] Tryz.func34 (by kernel_rfl) Tryz.ntmps34 Tryz.results34 rfl rfl (fun w0 => ?_)
  refine p_seq0 ?_
  refine p_plain0 (0 :: 1 :: []) ?_
  refine go_s0 (some 1) (.box 31 (.tmp 0)) 0 ?_
  refine os_boxA rfl rfl (fun b1 => ?_)
  refine go_s0 (some 2) (.alloc 94) 0 ?_
  refine os_allocA rfl ze94 (fun b2 => ?_)
  refine go_nil ?_
  change G _ _ _ _
  refine p_weaken [1, 2] rfl ?_
  refine p_seq0 ?_
  refine p_draw (by kernel_rfl) mixed 10 11 _ (fun _ h => h) (by kernel_rfl) ?_
  refine gd_all (0 :: 1 :: 2 :: 3 :: 4 :: 5 :: 6 :: 7 :: 8 :: 9 :: []) _ rfl (by kernel_rfl) (by decide) (fun _ h => h) rfl ?_
  refine sq_q0 3 (.fieldAddr 31 (.tmp 1) 0) 0 (qv_field rfl fd31_0) ?_
  refine sq_q0 4 (.load 29 (.tmp 3)) 29 (qv_load rfl .auto (ldv_agg agg29 (ext_Pkt_0_37 _) (Nat.le_of_ble_eq_true rfl))) ?_
  refine sq_p (d := 5) (op := .call { callee := .value (.func 40), args := #[.tmp 4], argTypes := #[29] }) (ty := 92) (g := none) (by kernel_rfl) trivial (pv_call en40 rfl (pu_docKey p.key)) ?_
  refine sq_q0 6 (.fieldAddr 31 (.tmp 1) 1) 0 (qv_field rfl fd31_1) ?_
  refine sq_q0 7 (.load 3 (.tmp 6)) 3 (qv_load rfl .auto (ldv_sca sc3 (get_Pkt_37 _))) ?_
  refine sq_q0 8 (.fieldAddr 31 (.tmp 1) 2) 0 (qv_field rfl fd31_2) ?_
  refine sq_q0 9 (.load 5 (.tmp 8)) 5 (qv_load rfl .auto (ldv_sca sc5 (get_Pkt_38 _))) ?_
  refine sq_q0 10 (.fieldAddr 31 (.tmp 1) 3) 0 (qv_field rfl fd31_3) ?_
  refine sq_q0 11 (.load 4 (.tmp 10)) 4 (qv_load rfl .auto (ldv_sca sc4 (get_Pkt_39 _))) ?_
  refine sq_q0 12 (.build 94 #[(0, .tmp 5), (1, .tmp 7), (2, .tmp 9), (3, .tmp 11)]) 94 (qv_build rfl (bld94_0_1_2_3 _ _ _ _)) ?_
  refine SeqK.nil (fun β => ?_)
  refine gd_tail [10] rfl (by kernel_rfl) (by kernel_rfl) ?_
  refine go_s0 none (.store 94 (.tmp 2) (.tmp 12)) 0 ?_
  refine os_store rfl rfl sz94 rfl (one_Pkt _) .auto (Nat.le_of_ble_eq_true rfl) (splw_Pkt _ _ (siz_Pkt _)) ?_
  refine go_nil ?_
  change G _ _ _ _
  refine p_weaken [2] rfl ?_
  refine p_ret0 ?_
  try dsimp only [thenQ, inBlockQ]
  try rw [if_pos rfl]
  refine ret_now (.inr rfl) (.cons (res_cell rfl (At.mem .auto) (ldv_agg agg94 (extw_Pkt _) (Nat.le_of_ble_eq_true rfl))) .nil) (by repeat constructor) ?_
  exact ⟨rfl, rfl⟩
theorem pu_docRecord (r : Rec) : Pu Tryz.prog 41 [.agg r.c] (.agg r.c) := by
  refine ct_body (rv := [.cell 2 100]) [(0, _)] Tryz.func41 (by kernel_rfl) Tryz.ntmps41 Tryz.results41 rfl rfl (fun w0 => ?_)
  refine p_seq0 ?_
  refine p_plain0 (0 :: 1 :: []) ?_
  refine go_s0 (some 1) (.box 69 (.tmp 0)) 0 ?_
  refine os_boxA rfl rfl (fun b1 => ?_)
  refine go_s0 (some 2) (.alloc 100) 0 ?_
  refine os_allocA rfl ze100 (fun b2 => ?_)
  refine go_nil ?_
  change G _ _ _ _
  refine p_weaken [1, 2] rfl ?_
  refine p_seq0 ?_
  refine p_draw (by kernel_rfl) mixed 18 19 _ (fun _ h => h) (by kernel_rfl) ?_
  refine gd_all (0 :: 1 :: 2 :: 3 :: 4 :: 5 :: 6 :: 7 :: 8 :: 9 :: 10 :: 11 :: 12 :: 13 :: 14 :: 15 :: 16 :: 17 :: []) _ rfl (by kernel_rfl) (by decide) (fun _ h => h) rfl ?_
  refine sq_q0 3 (.fieldAddr 69 (.tmp 1) 0) 0 (qv_field rfl fd69_0) ?_
  refine sq_q0 4 (.load 29 (.tmp 3)) 29 (qv_load rfl .auto (ldv_agg agg29 (ext_Rec_0_37 _) (Nat.le_of_ble_eq_true rfl))) ?_
  refine sq_p (d := 5) (op := .call { callee := .value (.func 40), args := #[.tmp 4], argTypes := #[29] }) (ty := 92) (g := none) (by kernel_rfl) trivial (pv_call en40 rfl (pu_docKey r.key)) ?_
  refine sq_q0 6 (.fieldAddr 69 (.tmp 1) 1) 0 (qv_field rfl fd69_1) ?_
  refine sq_q0 7 (.load 23 (.tmp 6)) 23 (qv_load rfl .auto (ldv_sca sc23 (get_Rec_37 _))) ?_
  refine sq_q0 8 (.fieldAddr 69 (.tmp 1) 2) 0 (qv_field rfl fd69_2) ?_
  refine sq_q0 9 (.load 23 (.tmp 8)) 23 (qv_load rfl .auto (ldv_sca sc23 (get_Rec_38 _))) ?_
  refine sq_q0 10 (.fieldAddr 69 (.tmp 1) 3) 0 (qv_field rfl fd69_3) ?_
  refine sq_q0 11 (.load 23 (.tmp 10)) 23 (qv_load rfl .auto (ldv_sca sc23 (get_Rec_39 _))) ?_
  refine sq_q0 12 (.fieldAddr 69 (.tmp 1) 4) 0 (qv_field rfl fd69_4) ?_
  refine sq_q0 13 (.load 23 (.tmp 12)) 23 (qv_load rfl .auto (ldv_sca sc23 (get_Rec_40 _))) ?_
  refine sq_q0 14 (.fieldAddr 69 (.tmp 1) 5) 0 (qv_field rfl fd69_5) ?_
  refine sq_q0 15 (.load 5 (.tmp 14)) 5 (qv_load rfl .auto (ldv_sca sc5 (get_Rec_41 _))) ?_
  refine sq_q0 16 (.fieldAddr 69 (.tmp 1) 6) 0 (qv_field rfl fd69_6) ?_
  refine sq_q0 17 (.load 5 (.tmp 16)) 5 (qv_load rfl .auto (ldv_sca sc5 (get_Rec_42 _))) ?_
  refine sq_q0 18 (.fieldAddr 69 (.tmp 1) 7) 0 (qv_field rfl fd69_7) ?_
  refine sq_q0 19 (.load 5 (.tmp 18)) 5 (qv_load rfl .auto (ldv_sca sc5 (get_Rec_43 _))) ?_
  refine sq_q0 20 (.build 100 #[(0, .tmp 5), (1, .tmp 7), (2, .tmp 9), (3, .tmp 11), (4, .tmp 13), (5, .tmp 15), (6, .tmp 17), (7, .tmp 19)]) 100 (qv_build rfl (bld100_0_1_2_3_4_5_6_7 _ _ _ _ _ _ _ _)) ?_
  refine SeqK.nil (fun β => ?_)
  refine gd_tail [18] rfl (by kernel_rfl) (by kernel_rfl) ?_
  refine go_s0 none (.store 100 (.tmp 2) (.tmp 20)) 0 ?_
  refine os_store rfl rfl sz100 rfl (one_Rec _) .auto (Nat.le_of_ble_eq_true rfl) (splw_Rec _ _ (siz_Rec _)) ?_
  refine go_nil ?_
  change G _ _ _ _
  refine p_weaken [2] rfl ?_
  refine p_ret0 ?_
  try dsimp only [thenQ, inBlockQ]
  try rw [if_pos rfl]
  refine ret_now (.inr rfl) (.cons (res_cell rfl (At.mem .auto) (ldv_agg agg100 (extw_Rec _) (Nat.le_of_ble_eq_true rfl))) .nil) (by repeat constructor) ?_
  exact ⟨rfl, rfl⟩
theorem pu_most : Pu Tryz.prog 109 [] (.int .u64 18446744073709551615) := by
  refine ct_body (rv := [.tmp 0]) [] Tryz.func109 (by kernel_rfl) Tryz.ntmps109 Tryz.results109 rfl rfl (fun w0 => ?_)
  refine p_seq0 ?_
  refine p_plain0 (0 :: []) ?_
  refine go_q0 0 (.assign (.const (.int .u64 0))) 23 (qv_assign rfl) ?_
  refine go_nil ?_
  change G _ _ _ _
  refine p_seq0 ?_
  refine p_plain0 (0 :: []) ?_
  refine go_q0 0 (.assign (.const (.int .u64 18446744073709551615))) 23 (qv_assign rfl) ?_
  refine go_nil ?_
  change G _ _ _ _
  refine p_ret0 ?_
  try dsimp only [thenQ, inBlockQ]
  try rw [if_pos rfl]
  refine ret_now (.inr rfl) (.cons (res_tmp rfl) .nil) (by repeat constructor) ?_
  exact ⟨rfl, rfl⟩
theorem pu_refPlus {x y : Int} (hx : U64 x) (hy : U64 y) : Pu Tryz.prog 93 [.int .u64 x, .int .u64 y] (.int .u64 (sat x y)) := by
  refine ct_body (rv := [.tmp 4]) [(0, _), (1, _)] Tryz.func93 (by kernel_rfl) Tryz.ntmps93 Tryz.results93 rfl rfl (fun w0 => ?_)
  obtain ⟨hx0, hx1⟩ := hx
  obtain ⟨hy0, hy1⟩ := hy
  refine p_seq0 ?_
  refine p_plain0 (0 :: []) ?_
  refine go_q0 4 (.assign (.const (.int .u64 0))) 23 (qv_assign rfl) ?_
  refine go_nil ?_
  change G _ _ _ _
  refine p_seq0 ?_
  refine p_seq0 ?_
  refine p_plain0 (0 :: 1 :: 2 :: 3 :: 4 :: []) ?_
  refine go_q0 5 (.move (.tmp 0)) 23 (qv_move rfl) ?_
  refine go_s0 (some 6) (.call { callee := .value (.func 109), args := #[], argTypes := #[] }) 23 ?_
  refine os_callP rfl en109 rfl (pu_most) ?_
  refine go_q0 7 (.move (.tmp 1)) 23 (qv_move rfl) ?_
  refine go_q0 8 (.binOp .sub 23 (.tmp 6) (.tmp 7) 23) 23 (qv_sub rfl rfl (by first | exact IntWalk.u64_in _ (by omega) | exact IntWalk.u64_in _ (by dsimp only; omega) | rfl)) ?_
  refine go_q0 9 (.binOp .gtr 23 (.tmp 5) (.tmp 8) 23) 4 (qv_gtr rfl rfl rfl) ?_
  refine go_nil ?_
  change G _ _ _ _
  refine p_weaken [0, 1, 4, 9] rfl ?_
  refine p_cond (.tmp 9) (by kernel_rfl) rfl (fun h9 => ?_) (fun h9 => ?_)
  · replace h9 := kn h9
    refine p_seq0 ?_
    refine p_plain0 (0 :: 1 :: []) ?_
    refine go_s0 (some 10) (.call { callee := .value (.func 109), args := #[], argTypes := #[] }) 23 ?_
    refine os_callP rfl en109 rfl (pu_most) ?_
    refine go_q0 4 (.assign (.tmp 10)) 23 (qv_assign rfl) ?_
    refine go_nil ?_
    change G _ _ _ _
    refine p_weaken [0, 1, 4] rfl ?_
    refine p_ret0 ?_
    try dsimp only [thenQ, inBlockQ]
    try rw [if_pos rfl]
    refine ret_now (.inr rfl) (.cons (res_tmp rfl) .nil) (by repeat constructor) ?_
    exact ⟨by unfold sat; rw [if_pos (by omega)]; rfl, rfl⟩
  replace h9 := kn h9
  refine p_skip0 ?_
  change G _ _ _ _
  refine p_weaken [0, 1, 4] rfl ?_
  refine p_seq0 ?_
  refine p_plain0 (0 :: 1 :: 2 :: 3 :: []) ?_
  refine go_q0 11 (.move (.tmp 0)) 23 (qv_move rfl) ?_
  refine go_q0 12 (.move (.tmp 1)) 23 (qv_move rfl) ?_
  refine go_q0 13 (.binOp .add 23 (.tmp 11) (.tmp 12) 23) 23 (qv_add rfl rfl (by first | exact IntWalk.u64_in _ (by omega) | exact IntWalk.u64_in _ (by dsimp only; omega) | rfl)) ?_
  refine go_q0 4 (.assign (.tmp 13)) 23 (qv_assign rfl) ?_
  refine go_nil ?_
  change G _ _ _ _
  refine p_weaken [4] rfl ?_
  refine p_ret0 ?_
  try dsimp only [thenQ, inBlockQ]
  try rw [if_pos rfl]
  refine ret_now (.inr rfl) (.cons (res_tmp rfl) .nil) (by repeat constructor) ?_
  exact ⟨by unfold sat; rw [if_neg (by omega)]; rfl, rfl⟩
theorem pu_refStart (k : Key) (cls tick : Int) : Pu Tryz.prog 92 [.agg k.c, .int .u8 cls, .int .u64 tick] (.agg (startR k cls tick).c) := by
  refine ct_body (rv := [.cell 6 100]) [(0, _), (1, _), (2, _)] Tryz.func92 (by kernel_rfl) Tryz.ntmps92 Tryz.results92 rfl rfl (fun w0 => ?_)
  refine p_seq0 ?_
  refine p_plain0 (0 :: 1 :: []) ?_
  refine go_s0 (some 3) (.box 92 (.tmp 0)) 0 ?_
  refine os_boxA rfl rfl (fun b3 => ?_)
  refine go_s0 (some 6) (.alloc 100) 0 ?_
  refine os_allocA rfl ze100 (fun b6 => ?_)
  refine go_nil ?_
  change G _ _ _ _
  refine p_weaken [1, 2, 3, 6] rfl ?_
  refine p_seq0 ?_
  refine p_plain0 (0 :: 1 :: 2 :: 3 :: 4 :: 5 :: []) ?_
  refine go_q0 7 (.load 92 (.tmp 3)) 92 (qv_load rfl .auto (ldv_agg agg92 (extw_Key _) (Nat.le_of_ble_eq_true rfl))) ?_
  refine go_q0 8 (.move (.tmp 2)) 23 (qv_move rfl) ?_
  refine go_q0 9 (.move (.tmp 2)) 23 (qv_move rfl) ?_
  refine go_q0 10 (.move (.tmp 1)) 5 (qv_move rfl) ?_
  refine go_q0 11 (.build 100 #[(0, .tmp 7), (3, .tmp 8), (4, .tmp 9), (7, .tmp 10)]) 100 (qv_build rfl (bld100_0_3_4_7 _ _ _ _)) ?_
  refine go_s0 none (.store 100 (.tmp 6) (.tmp 11)) 0 ?_
  refine os_store rfl rfl sz100 rfl (one_Rec _) .auto (Nat.le_of_ble_eq_true rfl) (splw_Rec _ _ (siz_Rec _)) ?_
  refine go_nil ?_
  change G _ _ _ _
  refine p_weaken [6] rfl ?_
  refine p_ret0 ?_
  try dsimp only [thenQ, inBlockQ]
  try rw [if_pos rfl]
  refine ret_now (.inr rfl) (.cons (res_cell rfl (At.mem .auto) (ldv_agg agg100 (extw_Rec _) (Nat.le_of_ble_eq_true rfl))) .nil) (by repeat constructor) ?_
  exact ⟨rfl, rfl⟩
theorem pu_refWith {r : Rec} {p : Pkt} {tick : Int} (h1 : U64 r.packets) (h2 : U64 r.bytes) (hp : p.Ok) : Pu Tryz.prog 69 [.agg r.c, .agg p.c, .int .u64 tick] (.agg (r.with_ p tick).c) := by
  refine ct_body (rv := [.cell 6 100]) [(0, _), (1, _), (2, _)] Tryz.func69 (by kernel_rfl) Tryz.ntmps69 Tryz.results69 rfl rfl (fun w0 => ?_)
  obtain ⟨hp0, hp1⟩ := hp
  refine p_seq0 ?_
  refine p_plain0 (0 :: 1 :: 2 :: []) ?_
  refine go_s0 (some 3) (.box 100 (.tmp 0)) 0 ?_
  refine os_boxA rfl rfl (fun b3 => ?_)
  refine go_s0 (some 4) (.box 94 (.tmp 1)) 0 ?_
  refine os_boxA rfl rfl (fun b4 => ?_)
  refine go_s0 (some 6) (.alloc 100) 0 ?_
  refine os_allocA rfl ze100 (fun b6 => ?_)
  refine go_nil ?_
  change G _ _ _ _
  refine p_weaken [2, 3, 4, 6] rfl ?_
  refine p_seq0 ?_
  refine p_plain0 (0 :: 1 :: 2 :: 3 :: 4 :: []) ?_
  refine go_q0 7 (.fieldAddr 100 (.tmp 3) 1) 0 (qv_field rfl fd100_1) ?_
  refine go_q0 8 (.load 23 (.tmp 7)) 23 (qv_load rfl .auto (ldv_sca sc23 (get_Rec_37 _))) ?_
  refine go_s0 (some 9) (.call { callee := .value (.func 93), args := #[.tmp 8, .const (.int .u64 1)], argTypes := #[23, 23] }) 23 ?_
  refine os_callP rfl en93 rfl (pu_refPlus h1 ⟨by decide, by decide⟩) ?_
  refine go_q0 10 (.fieldAddr 100 (.tmp 3) 1) 0 (qv_field rfl fd100_1) ?_
  refine go_s0 none (.store 23 (.tmp 10) (.tmp 9)) 0 ?_
  refine os_store1 rfl rfl sz23 rfl rfl .auto (Nat.le_of_ble_eq_true rfl) (set_Rec_37 _ _) ?_
  refine go_nil ?_
  change G _ _ _ _
  refine p_weaken [2, 3, 4, 6] rfl ?_
  refine p_seq0 ?_
  refine p_plain0 (0 :: 1 :: 2 :: 3 :: 4 :: 5 :: 6 :: 7 :: 8 :: []) ?_
  refine go_q0 11 (.fieldAddr 100 (.tmp 3) 2) 0 (qv_field rfl fd100_2) ?_
  refine go_q0 12 (.load 23 (.tmp 11)) 23 (qv_load rfl .auto (ldv_sca sc23 (get_Rec_38 _))) ?_
  refine go_q0 13 (.fieldAddr 94 (.tmp 4) 1) 0 (qv_field rfl fd94_1) ?_
  refine go_q0 14 (.load 3 (.tmp 13)) 3 (qv_load rfl .auto (ldv_sca sc3 (get_Pkt_37 _))) ?_
  refine go_q0 15 (.call { callee := .builtin .max, args := #[.const (.int .i64 0), .tmp 14], argTypes := #[3, 3] }) 3 (qv_max rfl rfl rfl) ?_
  refine go_q0 16 (.convert 3 23 (.tmp 15)) 23 (qv_conv un3 un23 rfl (by first | exact IntWalk.u64_in _ (by omega) | rfl)) ?_
  refine go_s0 (some 17) (.call { callee := .value (.func 93), args := #[.tmp 12, .tmp 16], argTypes := #[23, 23] }) 23 ?_
  refine os_callP rfl en93 rfl (pu_refPlus h2 ⟨by omega, by omega⟩) ?_
  refine go_q0 18 (.fieldAddr 100 (.tmp 3) 2) 0 (qv_field rfl fd100_2) ?_
  refine go_s0 none (.store 23 (.tmp 18) (.tmp 17)) 0 ?_
  refine os_store1 rfl rfl sz23 rfl rfl .auto (Nat.le_of_ble_eq_true rfl) (set_Rec_38 _ _) ?_
  refine go_nil ?_
  change G _ _ _ _
  refine p_weaken [2, 3, 4, 6] rfl ?_
  refine p_seq0 ?_
  refine p_plain0 (0 :: 1 :: 2 :: 3 :: 4 :: 5 :: []) ?_
  refine go_q0 19 (.fieldAddr 100 (.tmp 3) 4) 0 (qv_field rfl fd100_4) ?_
  refine go_q0 20 (.load 23 (.tmp 19)) 23 (qv_load rfl .auto (ldv_sca sc23 (get_Rec_40 _))) ?_
  refine go_q0 21 (.move (.tmp 2)) 23 (qv_move rfl) ?_
  refine go_q0 22 (.call { callee := .builtin .max, args := #[.tmp 20, .tmp 21], argTypes := #[23, 23] }) 23 (qv_max rfl rfl rfl) ?_
  refine go_q0 23 (.fieldAddr 100 (.tmp 3) 4) 0 (qv_field rfl fd100_4) ?_
  refine go_s0 none (.store 23 (.tmp 23) (.tmp 22)) 0 ?_
  refine os_store1 rfl rfl sz23 rfl rfl .auto (Nat.le_of_ble_eq_true rfl) (set_Rec_40 _ _) ?_
  refine go_nil ?_
  change G _ _ _ _
  refine p_weaken [3, 4, 6] rfl ?_
  refine p_seq0 ?_
  refine p_plain0 (0 :: 1 :: 2 :: 3 :: 4 :: 5 :: 6 :: []) ?_
  refine go_q0 24 (.fieldAddr 100 (.tmp 3) 5) 0 (qv_field rfl fd100_5) ?_
  refine go_q0 25 (.load 5 (.tmp 24)) 5 (qv_load rfl .auto (ldv_sca sc5 (get_Rec_41 _))) ?_
  refine go_q0 26 (.fieldAddr 94 (.tmp 4) 2) 0 (qv_field rfl fd94_2) ?_
  refine go_q0 27 (.load 5 (.tmp 26)) 5 (qv_load rfl .auto (ldv_sca sc5 (get_Pkt_38 _))) ?_
  refine go_q0 28 (.binOp .or 5 (.tmp 25) (.tmp 27) 5) 5 (qv_or rfl rfl (rfl)) ?_
  refine go_q0 29 (.fieldAddr 100 (.tmp 3) 5) 0 (qv_field rfl fd100_5) ?_
  refine go_s0 none (.store 5 (.tmp 29) (.tmp 28)) 0 ?_
  refine os_store1 rfl rfl sz5 rfl rfl .auto (Nat.le_of_ble_eq_true rfl) (set_Rec_41 _ _) ?_
  refine go_nil ?_
  change G _ _ _ _
  refine p_weaken [3, 6] rfl ?_
  refine p_seq0 ?_
  refine p_plain0 (0 :: 1 :: []) ?_
  refine go_q0 30 (.load 100 (.tmp 3)) 100 (qv_load rfl .auto (ldv_agg agg100 (extw_Rec _) (Nat.le_of_ble_eq_true rfl))) ?_
  refine go_s0 none (.store 100 (.tmp 6) (.tmp 30)) 0 ?_
  refine os_store rfl rfl sz100 rfl (one_Rec _) .auto (Nat.le_of_ble_eq_true rfl) (splw_Rec _ _ (siz_Rec _)) ?_
  refine go_nil ?_
  change G _ _ _ _
  refine p_weaken [6] rfl ?_
  refine p_ret0 ?_
  try dsimp only [thenQ, inBlockQ]
  try rw [if_pos rfl]
  refine ret_now (.inr rfl) (.cons (res_cell rfl (At.mem .auto) (ldv_agg agg100 (extw_Rec _) (Nat.le_of_ble_eq_true rfl))) .nil) (by repeat constructor) ?_
  exact ⟨rfl, rfl⟩
end Go.Proofs.YtobmcpoejhhemaaGreat
