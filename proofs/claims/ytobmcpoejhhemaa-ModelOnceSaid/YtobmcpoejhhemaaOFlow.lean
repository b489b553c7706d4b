import Derived.Test.YtobmcpoejhhemaaOEq
import Derived.Test.YtobmcpoejhhemaaOEngF
import Derived.Laws.Externs
namespace Go.Proofs.Ytobmcpoejhhemaa
open Go.E

/-- A number of 64 bits. -/
def U64 (x : Int) : Prop := 0 ≤ x ∧ x ≤ 18446744073709551615
def sat (a b : Int) : Int := if 18446744073709551615 < a + b then 18446744073709551615 else a + b
def Tot.Ok (t : Tot) : Prop := U64 t.packets ∧ U64 t.bytes
def Tot.plus (t u : Tot) : Tot := ⟨sat t.packets u.packets, sat t.bytes u.bytes⟩
theorem sat_ok {a b : Int} (ha : U64 a) (hb : U64 b) : U64 (sat a b) := by unfold sat U64 at *; split <;> omega
theorem Tot.plus_ok {t u : Tot} (ht : t.Ok) (hu : u.Ok) : (t.plus u).Ok := ⟨sat_ok ht.1 hu.1, sat_ok ht.2 hu.2⟩

theorem run_add64_ {x y : Int} (hx : U64 x) (hy : U64 y) (w : World) : (callFunc 140 [.int .u64 x, .int .u64 y, .int .u64 0].toArray).run Try.prog w = .ok (.value (.tuple #[.int .u64 ((x + y) % 18446744073709551616), .int .u64 ((x + y) / 18446744073709551616)])) w := by
  have h := run_add64 (P := Try.prog) x y 0 hx.1 hy.1 (Int.le_refl 0) (by decide) w
  rw [run_callFunc_extern Try.func140 (by kernel_rfl) (by kernel_rfl) (by kernel_rfl) (e := add64Entry) (by kernel_rfl)]
  change ((add64Entry #[.int .u64 x, .int .u64 y, .int .u64 0]).run Try.prog w).andThen _ = _
  rw [h]
  simp [Result.andThen]

theorem pu_plus {x y : Int} (hx : U64 x) (hy : U64 y) : Pu Try.prog 85 [.int .u64 x, .int .u64 y] (.int .u64 (sat x y)) := by
  refine ct_body (rv := [.tmp 4]) [(0, _), (1, _)] Try.func85 (by kernel_rfl) Try.ntmps85 Try.results85 rfl rfl (fun w0 => ?_)
  obtain ⟨hx0, hx1⟩ := hx
  obtain ⟨hy0, hy1⟩ := hy
  refine p_seq0 ?_
  refine p_plain0 (0 :: []) ?_
  refine go_q0 4 (.assign (.const (.int .u64 0))) 30 (qv_assign rfl) ?_
  refine go_nil ?_
  change G _ _ _ _
  refine p_seq0 ?_
  refine p_plain0 (0 :: 1 :: 2 :: 3 :: 4 :: 5 :: 6 :: 7 :: []) ?_
  refine go_q0 8 (.move (.tmp 0)) 30 (qv_move rfl) ?_
  refine go_q0 9 (.move (.tmp 1)) 30 (qv_move rfl) ?_
  refine go_q0 10 (.call { callee := .value (.func 140), args := #[.tmp 8, .tmp 9, .const (.int .u64 0)], argTypes := #[30, 30, 30] }) 144 (qv_extern rfl (fun w _ => run_add64_ ⟨hx0, hx1⟩ ⟨hy0, hy1⟩ w)) ?_
  refine go_q0 7 (.move (.tmp 10)) 144 (qv_move rfl) ?_
  refine go_q0 11 (.extract (.tmp 7) 0) 30 (qv_extract rfl rfl) ?_
  refine go_q0 12 (.extract (.tmp 7) 1) 30 (qv_extract rfl rfl) ?_
  refine go_q0 5 (.assign (.tmp 11)) 30 (qv_assign rfl) ?_
  refine go_q0 6 (.assign (.tmp 12)) 30 (qv_assign rfl) ?_
  refine go_nil ?_
  change G _ _ _ _
  refine p_weaken [4, 5, 6] rfl ?_
  refine p_seq0 ?_
  refine p_seq0 ?_
  refine p_plain0 (0 :: 1 :: []) ?_
  refine go_q0 13 (.move (.tmp 6)) 30 (qv_move rfl) ?_
  refine go_q0 14 (.binOp .gtr 30 (.tmp 13) (.const (.int .u64 0)) 30) 4 (qv_gtr rfl rfl rfl) ?_
  refine go_nil ?_
  change G _ _ _ _
  refine p_weaken [4, 5, 14] rfl ?_
  refine p_cond (.tmp 14) (by kernel_rfl) rfl (fun h14 => ?_) (fun h14 => ?_)
  · replace h14 := kn h14
    refine p_seq0 ?_
    refine p_plain0 (0 :: []) ?_
    refine go_q0 4 (.assign (.const (.int .u64 18446744073709551615))) 30 (qv_assign rfl) ?_
    refine go_nil ?_
    change G _ _ _ _
    refine p_weaken [4, 5] rfl ?_
    refine p_ret0 ?_
    try dsimp only [thenQ, inBlockQ]
    try rw [if_pos rfl]
    refine ret_now (.inr rfl) (.cons (res_tmp rfl) .nil) (by repeat constructor) ?_
    refine ⟨?_, rfl⟩
    unfold sat
    rw [if_pos (by omega)]
    rfl
  replace h14 := kn h14
  refine p_skip0 ?_
  change G _ _ _ _
  refine p_weaken [4, 5] rfl ?_
  refine p_seq0 ?_
  refine p_plain0 (0 :: 1 :: []) ?_
  refine go_q0 15 (.move (.tmp 5)) 30 (qv_move rfl) ?_
  refine go_q0 4 (.assign (.tmp 15)) 30 (qv_assign rfl) ?_
  refine go_nil ?_
  change G _ _ _ _
  refine p_weaken [4] rfl ?_
  refine p_ret0 ?_
  try dsimp only [thenQ, inBlockQ]
  try rw [if_pos rfl]
  refine ret_now (.inr rfl) (.cons (res_tmp rfl) .nil) (by repeat constructor) ?_
  refine ⟨?_, rfl⟩
  unfold sat
  rw [if_neg (by omega), Int.emod_eq_of_lt (by omega) (by omega)]
  rfl

theorem pu_Plus {t u : Tot} (ht : t.Ok) (hu : u.Ok) : Pu Try.prog 19 [.agg t.c, .agg u.c] (.agg (t.plus u).c) := by
  refine ct_body (rv := [.cell 4 32]) [(0, _), (1, _)] Try.func19 (by kernel_rfl) Try.ntmps19 Try.results19 rfl rfl (fun w0 => ?_)
  refine p_seq0 ?_
  refine p_plain0 (0 :: 1 :: 2 :: []) ?_
  refine go_s0 (some 2) (.box 32 (.tmp 0)) 0 ?_
  refine os_boxA rfl rfl (fun b2 => ?_)
  refine go_s0 (some 3) (.box 32 (.tmp 1)) 0 ?_
  refine os_boxA rfl rfl (fun b3 => ?_)
  refine go_s0 (some 4) (.alloc 32) 0 ?_
  refine os_allocA rfl ze32 (fun b4 => ?_)
  refine go_nil ?_
  change G _ _ _ _
  refine p_weaken [2, 3, 4] rfl ?_
  refine p_seq0 ?_
  refine p_draw (by kernel_rfl) mixed 11 12 _ (fun _ h => h) (by kernel_rfl) ?_
  refine gd_all (0 :: 1 :: 2 :: 3 :: 4 :: 5 :: 6 :: 7 :: 8 :: 9 :: 10 :: []) _ rfl (by kernel_rfl) (by decide) (fun _ h => h) rfl ?_
  refine sq_q0 5 (.fieldAddr 32 (.tmp 2) 0) 0 (qv_field rfl fd32_0) ?_
  refine sq_q0 6 (.load 30 (.tmp 5)) 30 (qv_load rfl .auto (ldv_sca sc30 (get_Tot_0 _))) ?_
  refine sq_q0 7 (.fieldAddr 32 (.tmp 3) 0) 0 (qv_field rfl fd32_0) ?_
  refine sq_q0 8 (.load 30 (.tmp 7)) 30 (qv_load rfl .auto (ldv_sca sc30 (get_Tot_0 _))) ?_
  refine sq_p (d := 9) (op := .call { callee := .value (.func 85), args := #[.tmp 6, .tmp 8], argTypes := #[30, 30] }) (ty := 30) (g := none) (by kernel_rfl) trivial (pv_call en85 rfl (pu_plus ht.1 hu.1)) ?_
  refine sq_q0 10 (.fieldAddr 32 (.tmp 2) 1) 0 (qv_field rfl fd32_1) ?_
  refine sq_q0 11 (.load 30 (.tmp 10)) 30 (qv_load rfl .auto (ldv_sca sc30 (get_Tot_1 _))) ?_
  refine sq_q0 12 (.fieldAddr 32 (.tmp 3) 1) 0 (qv_field rfl fd32_1) ?_
  refine sq_q0 13 (.load 30 (.tmp 12)) 30 (qv_load rfl .auto (ldv_sca sc30 (get_Tot_1 _))) ?_
  refine sq_p (d := 14) (op := .call { callee := .value (.func 85), args := #[.tmp 11, .tmp 13], argTypes := #[30, 30] }) (ty := 30) (g := none) (by kernel_rfl) trivial (pv_call en85 rfl (pu_plus ht.2 hu.2)) ?_
  refine sq_q0 15 (.build 32 #[(0, .tmp 9), (1, .tmp 14)]) 32 (qv_build rfl (bld32_0_1 _ _)) ?_
  refine SeqK.nil (fun β => ?_)
  refine gd_tail [11] rfl (by kernel_rfl) (by kernel_rfl) ?_
  refine go_s0 none (.store 32 (.tmp 4) (.tmp 15)) 0 ?_
  refine os_store rfl rfl sz32 rfl (one_Tot _) .auto (Nat.le_of_ble_eq_true rfl) (splw_Tot _ _ (siz_Tot _)) ?_
  refine go_nil ?_
  change G _ _ _ _
  refine p_weaken [4] rfl ?_
  refine p_ret0 ?_
  try dsimp only [thenQ, inBlockQ]
  try rw [if_pos rfl]
  refine ret_now (.inr rfl) (.cons (res_cell rfl (At.mem .auto) (ldv_agg agg32 (extw_Tot _) (Nat.le_of_ble_eq_true rfl))) .nil) (by repeat constructor) ?_
  exact ⟨rfl, rfl⟩

theorem pu_Total (r : Rec) : Pu Try.prog 18 [.agg r.c] (.agg (⟨r.packets, r.bytes⟩ : Tot).c) := by
  refine ct_body (rv := [.cell 2 32]) [(0, _)] Try.func18 (by kernel_rfl) Try.ntmps18 Try.results18 rfl rfl (fun w0 => ?_)
  refine p_seq0 ?_
  refine p_plain0 (0 :: 1 :: []) ?_
  refine go_s0 (some 1) (.box 35 (.tmp 0)) 0 ?_
  refine os_boxA rfl rfl (fun b1 => ?_)
  refine go_s0 (some 2) (.alloc 32) 0 ?_
  refine os_allocA rfl ze32 (fun b2 => ?_)
  refine go_nil ?_
  change G _ _ _ _
  refine p_weaken [1, 2] rfl ?_
  refine p_seq0 ?_
  refine p_plain0 (0 :: 1 :: 2 :: 3 :: 4 :: 5 :: []) ?_
  refine go_q0 3 (.fieldAddr 35 (.tmp 1) 1) 0 (qv_field rfl fd35_1) ?_
  refine go_q0 4 (.load 30 (.tmp 3)) 30 (qv_load rfl .auto (ldv_sca sc30 (get_Rec_37 _))) ?_
  refine go_q0 5 (.fieldAddr 35 (.tmp 1) 2) 0 (qv_field rfl fd35_2) ?_
  refine go_q0 6 (.load 30 (.tmp 5)) 30 (qv_load rfl .auto (ldv_sca sc30 (get_Rec_38 _))) ?_
  refine go_q0 7 (.build 32 #[(0, .tmp 4), (1, .tmp 6)]) 32 (qv_build rfl (bld32_0_1 _ _)) ?_
  refine go_s0 none (.store 32 (.tmp 2) (.tmp 7)) 0 ?_
  refine os_store rfl rfl sz32 rfl (one_Tot _) .auto (Nat.le_of_ble_eq_true rfl) (splw_Tot _ _ (siz_Tot _)) ?_
  refine go_nil ?_
  change G _ _ _ _
  refine p_weaken [2] rfl ?_
  refine p_ret0 ?_
  try dsimp only [thenQ, inBlockQ]
  try rw [if_pos rfl]
  refine ret_now (.inr rfl) (.cons (res_cell rfl (At.mem .auto) (ldv_agg agg32 (extw_Tot _) (Nat.le_of_ble_eq_true rfl))) .nil) (by repeat constructor) ?_
  exact ⟨rfl, rfl⟩

def Pkt.Ok (p : Pkt) : Prop := -9223372036854775808 ≤ p.length ∧ p.length ≤ 9223372036854775807
end Go.Proofs.Ytobmcpoejhhemaa
