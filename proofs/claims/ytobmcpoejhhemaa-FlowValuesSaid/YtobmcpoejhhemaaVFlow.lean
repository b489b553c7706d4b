import Derived.Test.YtobmcpoejhhemaaVEq
import Derived.Test.YtobmcpoejhhemaaVEngF
import Derived.Laws.Externs
namespace Go.Proofs.Ytobmcpoejhhemaa
open Go.E

/-- A number of 64 bits. -/
def U64 (x : Int) : Prop := 0 ≤ x ∧ x ≤ 18446744073709551615
def sat (a b : Int) : Int := if 18446744073709551615 < a + b then 18446744073709551615 else a + b
def Tot.Ok (t : Tot) : Prop := U64 t.packets ∧ U64 t.bytes
def Tot.plus (t u : Tot) : Tot := ⟨sat t.packets u.packets, sat t.bytes u.bytes⟩
theorem run_add64_ {x y : Int} (hx : U64 x) (hy : U64 y) (w : World) : (callFunc 140 [.int .u64 x, .int .u64 y, .int .u64 0].toArray).run Try.prog w = .ok (.value (.tuple #[.int .u64 ((x + y) % 18446744073709551616), .int .u64 ((x + y) / 18446744073709551616)])) w := by
  have h := run_add64 (P := Try.prog) x y 0 hx.1 hy.1 (Int.le_refl 0) (by decide) w
  rw [run_callFunc_extern Try.func140 (by kernel_rfl) (by kernel_rfl) (by kernel_rfl) (e := add64Entry) (by kernel_rfl)]
  change ((add64Entry #[.int .u64 x, .int .u64 y, .int .u64 0]).run Try.prog w).andThen _ = _
  rw [h]
  simp [Result.andThen]

theorem pu_plus {x y : Int} (hx : U64 x) (hy : U64 y) : Pu Try.prog 85 [.int .u64 x, .int .u64 y] (.int .u64 (sat x y)) := by
  refine ct_body (rv := [.tmp 4]) [(0, _), (1, _)] Try.func85 (by kernel_rfl) Try.ntmps85 Try.results85 rfl rfl (fun w0 => ?_)
  obtain ⟨hx0, hx1⟩ := hx
  obtain ⟨hy0, hy1⟩ := hy
  refine p_seq0 ?_
  refine p_plain0 (0 :: []) ?_
  refine go_q0 4 (.assign (.const (.int .u64 0))) 30 (qv_assign rfl) ?_
  refine go_nil ?_
  change G _ _ _ _
  refine p_seq0 ?_
  refine p_plain0 (0 :: 1 :: 2 :: 3 :: 4 :: 5 :: 6 :: 7 :: []) ?_
  refine go_q0 8 (.move (.tmp 0)) 30 (qv_move rfl) ?_
  refine go_q0 9 (.move (.tmp 1)) 30 (qv_move rfl) ?_
  refine go_q0 10 (.call { callee := .value (.func 140), args := #[.tmp 8, .tmp 9, .const (.int .u64 0)], argTypes := #[30, 30, 30] }) 144 (qv_extern rfl (fun w _ => run_add64_ ⟨hx0, hx1⟩ ⟨hy0, hy1⟩ w)) ?_
  refine go_q0 7 (.move (.tmp 10)) 144 (qv_move rfl) ?_
  refine go_q0 11 (.extract (.tmp 7) 0) 30 (qv_extract rfl rfl) ?_
  refine go_q0 12 (.extract (.tmp 7) 1) 30 (qv_extract rfl rfl) ?_
  refine go_q0 5 (.assign (.tmp 11)) 30 (qv_assign rfl) ?_
  refine go_q0 6 (.assign (.tmp 12)) 30 (qv_assign rfl) ?_
  refine go_nil ?_
  change G _ _ _ _
  refine p_weaken [4, 5, 6] rfl ?_
  refine p_seq0 ?_
  refine p_seq0 ?_
  refine p_plain0 (0 :: 1 :: []) ?_
  refine go_q0 13 (.move (.tmp 6)) 30 (qv_move rfl) ?_
  refine go_q0 14 (.binOp .gtr 30 (.tmp 13) (.const (.int .u64 0)) 30) 4 (qv_gtr rfl rfl rfl) ?_
  refine go_nil ?_
  change G _ _ _ _
  refine p_weaken [4, 5, 14] rfl ?_
  refine p_cond (.tmp 14) (by kernel_rfl) rfl (fun h14 => ?_) (fun h14 => ?_)
  · replace h14 := kn h14
    refine p_seq0 ?_
    refine p_plain0 (0 :: []) ?_
    refine go_q0 4 (.assign (.const (.int .u64 18446744073709551615))) 30 (qv_assign rfl) ?_
    refine go_nil ?_
    change G _ _ _ _
    refine p_weaken [4, 5] rfl ?_
    refine p_ret0 ?_
    try dsimp only [thenQ, inBlockQ]
    try rw [if_pos rfl]
    refine ret_now (.inr rfl) (.cons (res_tmp rfl) .nil) (by repeat constructor) ?_
    refine ⟨?_, rfl⟩
    unfold sat
    rw [if_pos (by omega)]
    rfl
  replace h14 := kn h14
  refine p_skip0 ?_
  change G _ _ _ _
  refine p_weaken [4, 5] rfl ?_
  refine p_seq0 ?_
  refine p_plain0 (0 :: 1 :: []) ?_
  refine go_q0 15 (.move (.tmp 5)) 30 (qv_move rfl) ?_
  refine go_q0 4 (.assign (.tmp 15)) 30 (qv_assign rfl) ?_
  refine go_nil ?_
  change G _ _ _ _
  refine p_weaken [4] rfl ?_
  refine p_ret0 ?_
  try dsimp only [thenQ, inBlockQ]
  try rw [if_pos rfl]
  refine ret_now (.inr rfl) (.cons (res_tmp rfl) .nil) (by repeat constructor) ?_
  refine ⟨?_, rfl⟩
  unfold sat
  rw [if_neg (by omega), Int.emod_eq_of_lt (by omega) (by omega)]
  rfl

theorem pu_Plus {t u : Tot} (ht : t.Ok) (hu : u.Ok) : Pu Try.prog 19 [.agg t.c, .agg u.c] (.agg (t.plus u).c) := by
  refine ct_body (rv := [.cell 4 32]) [(0, _), (1, _)] Try.func19 (by kernel_rfl) Try.ntmps19 Try.results19 rfl rfl (fun w0 => ?_)
  refine p_seq0 ?_
  refine p_plain0 (0 :: 1 :: 2 :: []) ?_
  refine go_s0 (some 2) (.box 32 (.tmp 0)) 0 ?_
  refine os_boxA rfl rfl (fun b2 => ?_)
  refine go_s0 (some 3) (.box 32 (.tmp 1)) 0 ?_
  refine os_boxA rfl rfl (fun b3 => ?_)
  refine go_s0 (some 4) (.alloc 32) 0 ?_
  refine os_allocA rfl ze32 (fun b4 => ?_)
  refine go_nil ?_
  change G _ _ _ _
  refine p_weaken [2, 3, 4] rfl ?_
  refine p_seq0 ?_
  refine p_draw (by kernel_rfl) mixed 11 12 _ (fun _ h => h) (by kernel_rfl) ?_
  refine gd_all (0 :: 1 :: 2 :: 3 :: 4 :: 5 :: 6 :: 7 :: 8 :: 9 :: 10 :: []) _ rfl (by kernel_rfl) (by decide) (fun _ h => h) rfl ?_
  refine sq_q0 5 (.fieldAddr 32 (.tmp 2) 0) 0 (qv_field rfl fd32_0) ?_
  refine sq_q0 6 (.load 30 (.tmp 5)) 30 (qv_load rfl .auto (ldv_sca sc30 (get_Tot_0 _))) ?_
  refine sq_q0 7 (.fieldAddr 32 (.tmp 3) 0) 0 (qv_field rfl fd32_0) ?_
  refine sq_q0 8 (.load 30 (.tmp 7)) 30 (qv_load rfl .auto (ldv_sca sc30 (get_Tot_0 _))) ?_
  refine sq_p (d := 9) (op := .call { callee := .value (.func 85), args := #[.tmp 6, .tmp 8], argTypes := #[30, 30] }) (ty := 30) (g := none) (by kernel_rfl) trivial (pv_call en85 rfl (pu_plus ht.1 hu.1)) ?_
  refine sq_q0 10 (.fieldAddr 32 (.tmp 2) 1) 0 (qv_field rfl fd32_1) ?_
  refine sq_q0 11 (.load 30 (.tmp 10)) 30 (qv_load rfl .auto (ldv_sca sc30 (get_Tot_1 _))) ?_
  refine sq_q0 12 (.fieldAddr 32 (.tmp 3) 1) 0 (qv_field rfl fd32_1) ?_
  refine sq_q0 13 (.load 30 (.tmp 12)) 30 (qv_load rfl .auto (ldv_sca sc30 (get_Tot_1 _))) ?_
  refine sq_p (d := 14) (op := .call { callee := .value (.func 85), args := #[.tmp 11, .tmp 13], argTypes := #[30, 30] }) (ty := 30) (g := none) (by kernel_rfl) trivial (pv_call en85 rfl (pu_plus ht.2 hu.2)) ?_
  refine sq_q0 15 (.build 32 #[(0, .tmp 9), (1, .tmp 14)]) 32 (qv_build rfl (bld32_0_1 _ _)) ?_
  refine SeqK.nil (fun β => ?_)
  refine gd_tail [11] rfl (by kernel_rfl) (by kernel_rfl) ?_
  refine go_s0 none (.store 32 (.tmp 4) (.tmp 15)) 0 ?_
  refine os_store rfl rfl sz32 rfl (one_Tot _) .auto (Nat.le_of_ble_eq_true rfl) (splw_Tot _ _ (siz_Tot _)) ?_
  refine go_nil ?_
  change G _ _ _ _
  refine p_weaken [4] rfl ?_
  refine p_ret0 ?_
  try dsimp only [thenQ, inBlockQ]
  try rw [if_pos rfl]
  refine ret_now (.inr rfl) (.cons (res_cell rfl (At.mem .auto) (ldv_agg agg32 (extw_Tot _) (Nat.le_of_ble_eq_true rfl))) .nil) (by repeat constructor) ?_
  exact ⟨rfl, rfl⟩

theorem pu_Total (r : Rec) : Pu Try.prog 18 [.agg r.c] (.agg (⟨r.packets, r.bytes⟩ : Tot).c) := by
  refine ct_body (rv := [.cell 2 32]) [(0, _)] Try.func18 (by kernel_rfl) Try.ntmps18 Try.results18 rfl rfl (fun w0 => ?_)
  refine p_seq0 ?_
  refine p_plain0 (0 :: 1 :: []) ?_
  refine go_s0 (some 1) (.box 35 (.tmp 0)) 0 ?_
  refine os_boxA rfl rfl (fun b1 => ?_)
  refine go_s0 (some 2) (.alloc 32) 0 ?_
  refine os_allocA rfl ze32 (fun b2 => ?_)
  refine go_nil ?_
  change G _ _ _ _
  refine p_weaken [1, 2] rfl ?_
  refine p_seq0 ?_
  refine p_plain0 (0 :: 1 :: 2 :: 3 :: 4 :: 5 :: []) ?_
  refine go_q0 3 (.fieldAddr 35 (.tmp 1) 1) 0 (qv_field rfl fd35_1) ?_
  refine go_q0 4 (.load 30 (.tmp 3)) 30 (qv_load rfl .auto (ldv_sca sc30 (get_Rec_37 _))) ?_
  refine go_q0 5 (.fieldAddr 35 (.tmp 1) 2) 0 (qv_field rfl fd35_2) ?_
  refine go_q0 6 (.load 30 (.tmp 5)) 30 (qv_load rfl .auto (ldv_sca sc30 (get_Rec_38 _))) ?_
  refine go_q0 7 (.build 32 #[(0, .tmp 4), (1, .tmp 6)]) 32 (qv_build rfl (bld32_0_1 _ _)) ?_
  refine go_s0 none (.store 32 (.tmp 2) (.tmp 7)) 0 ?_
  refine os_store rfl rfl sz32 rfl (one_Tot _) .auto (Nat.le_of_ble_eq_true rfl) (splw_Tot _ _ (siz_Tot _)) ?_
  refine go_nil ?_
  change G _ _ _ _
  refine p_weaken [2] rfl ?_
  refine p_ret0 ?_
  try dsimp only [thenQ, inBlockQ]
  try rw [if_pos rfl]
  refine ret_now (.inr rfl) (.cons (res_cell rfl (At.mem .auto) (ldv_agg agg32 (extw_Tot _) (Nat.le_of_ble_eq_true rfl))) .nil) (by repeat constructor) ?_
  exact ⟨rfl, rfl⟩

def startR (k : Key) (cls tick : Int) : Rec := { key := k, packets := 0, bytes := 0, first := tick, last := tick, flags := 0, reason := 0, cls := cls }
theorem pu_Start (k : Key) (cls tick : Int) : Pu Try.prog 16 [.agg k.c, .int .u8 cls, .int .u64 tick] (.agg (startR k cls tick).c) := by
  refine ct_body (rv := [.cell 6 35]) [(0, _), (1, _), (2, _)] Try.func16 (by kernel_rfl) Try.ntmps16 Try.results16 rfl rfl (fun w0 => ?_)
  refine p_seq0 ?_
  refine p_plain0 (0 :: 1 :: []) ?_
  refine go_s0 (some 3) (.box 27 (.tmp 0)) 0 ?_
  refine os_boxA rfl rfl (fun b3 => ?_)
  refine go_s0 (some 6) (.alloc 35) 0 ?_
  refine os_allocA rfl ze35 (fun b6 => ?_)
  refine go_nil ?_
  change G _ _ _ _
  refine p_weaken [1, 2, 3, 6] rfl ?_
  refine p_seq0 ?_
  refine p_plain0 (0 :: 1 :: 2 :: 3 :: 4 :: 5 :: []) ?_
  refine go_q0 7 (.load 27 (.tmp 3)) 27 (qv_load rfl .auto (ldv_agg agg27 (extw_Key _) (Nat.le_of_ble_eq_true rfl))) ?_
  refine go_q0 8 (.move (.tmp 2)) 30 (qv_move rfl) ?_
  refine go_q0 9 (.move (.tmp 2)) 30 (qv_move rfl) ?_
  refine go_q0 10 (.move (.tmp 1)) 5 (qv_move rfl) ?_
  refine go_q0 11 (.build 35 #[(0, .tmp 7), (3, .tmp 8), (4, .tmp 9), (7, .tmp 10)]) 35 (qv_build rfl (bld35_0_3_4_7 _ _ _ _)) ?_
  refine go_s0 none (.store 35 (.tmp 6) (.tmp 11)) 0 ?_
  refine os_store rfl rfl sz35 rfl (one_Rec _) .auto (Nat.le_of_ble_eq_true rfl) (splw_Rec _ _ (siz_Rec _)) ?_
  refine go_nil ?_
  change G _ _ _ _
  refine p_weaken [6] rfl ?_
  refine p_ret0 ?_
  try dsimp only [thenQ, inBlockQ]
  try rw [if_pos rfl]
  refine ret_now (.inr rfl) (.cons (res_cell rfl (At.mem .auto) (ldv_agg agg35 (extw_Rec _) (Nat.le_of_ble_eq_true rfl))) .nil) (by repeat constructor) ?_
  exact ⟨rfl, rfl⟩

def Pkt.Ok (p : Pkt) : Prop := -9223372036854775808 ≤ p.length ∧ p.length ≤ 9223372036854775807
def Rec.with_ (r : Rec) (p : Pkt) (tick : Int) : Rec :=
  { r with packets := sat r.packets 1, bytes := sat r.bytes (max 0 p.length), last := max r.last tick, flags := bits .or .u8 r.flags p.flags }
theorem pu_With {r : Rec} {p : Pkt} {tick : Int} (h1 : U64 r.packets) (h2 : U64 r.bytes) (hp : p.Ok) : Pu Try.prog 17 [.agg r.c, .agg p.c, .int .u64 tick] (.agg (r.with_ p tick).c) := by
  refine ct_body (rv := [.cell 6 35]) [(0, _), (1, _), (2, _)] Try.func17 (by kernel_rfl) Try.ntmps17 Try.results17 rfl rfl (fun w0 => ?_)
  obtain ⟨hp0, hp1⟩ := hp
  refine p_seq0 ?_
  refine p_plain0 (0 :: 1 :: 2 :: []) ?_
  refine go_s0 (some 3) (.box 35 (.tmp 0)) 0 ?_
  refine os_boxA rfl rfl (fun b3 => ?_)
  refine go_s0 (some 4) (.box 39 (.tmp 1)) 0 ?_
  refine os_boxA rfl rfl (fun b4 => ?_)
  refine go_s0 (some 6) (.alloc 35) 0 ?_
  refine os_allocA rfl ze35 (fun b6 => ?_)
  refine go_nil ?_
  change G _ _ _ _
  refine p_weaken [2, 3, 4, 6] rfl ?_
  refine p_seq0 ?_
  refine p_draw (by kernel_rfl) mixed 9 10 _ (fun _ h => h) (by kernel_rfl) ?_
  refine gd_all (0 :: 1 :: 2 :: 3 :: 4 :: 5 :: 6 :: 7 :: 8 :: []) _ rfl (by kernel_rfl) (by decide) (fun _ h => h) rfl ?_
  refine sq_q0 8 (.load 35 (.tmp 3)) 35 (qv_load rfl .auto (ldv_agg agg35 (extw_Rec _) (Nat.le_of_ble_eq_true rfl))) ?_
  refine sq_p (d := 9) (op := .call { callee := .value (.func 18), args := #[.tmp 8], argTypes := #[35] }) (ty := 32) (g := none) (by kernel_rfl) trivial (pv_call en18 rfl (pu_Total r)) ?_
  refine sq_q0 10 (.fieldAddr 39 (.tmp 4) 1) 0 (qv_field rfl fd39_1) ?_
  refine sq_q0 11 (.load 3 (.tmp 10)) 3 (qv_load rfl .auto (ldv_sca sc3 (get_Pkt_37 _))) ?_
  refine sq_q0 12 (.call { callee := .builtin .max, args := #[.const (.int .i64 0), .tmp 11], argTypes := #[3, 3] }) 3 (qv_max rfl rfl rfl) ?_
  refine sq_q0 13 (.convert 3 30 (.tmp 12)) 30 (qv_conv un3 un30 rfl (by first | exact IntWalk.u64_in _ (by omega) | rfl)) ?_
  refine sq_q0 14 (.build 32 #[(0, .const (.int .u64 1)), (1, .tmp 13)]) 32 (qv_build rfl (bld32_0_1 _ _)) ?_
  refine sq_p (d := 15) (op := .call { callee := .value (.func 19), args := #[.tmp 9, .tmp 14], argTypes := #[32, 32] }) (ty := 32) (g := none) (by kernel_rfl) trivial (pv_call en19 rfl (pu_Plus ⟨h1, h2⟩ ⟨by unfold U64; dsimp only; omega, by unfold U64; dsimp only; omega⟩)) ?_
  refine sq_a (d := 7) (t := 32) (ty := 0) (by kernel_rfl) ze32 rfl ?_
  refine SeqK.nil (fun β => ?_)
  generalize β 8 = b7
  refine gd_tail [9] rfl (by kernel_rfl) (by kernel_rfl) ?_
  refine go_s0 none (.store 32 (.tmp 7) (.tmp 15)) 0 ?_
  refine os_store rfl rfl sz32 rfl (one_Tot _) .auto (Nat.le_of_ble_eq_true rfl) (splw_Tot _ _ (siz_Tot _)) ?_
  refine go_nil ?_
  change G _ _ _ _
  refine p_weaken [2, 3, 4, 6, 7] rfl ?_
  refine p_seq0 ?_
  refine p_draw (by kernel_rfl) mixed 7 8 [(b7, .cells ((⟨r.packets, r.bytes⟩ : Tot).plus ⟨1, max 0 p.length⟩).c 32 (0, 0))] (by first | (simp; done) | (intro q hq; simp [hq]; done)) (by kernel_rfl) ?_
  refine gd_q (i := 0) (d := 16) (op := .fieldAddr 32 (.tmp 7) 0) (ty := 0) (g := none) (by kernel_rfl) trivial rfl (by kernel_rfl) (by kernel_rfl) (by kernel_rfl) (by kernel_rfl) (qv_field rfl fd32_0) ?_
  refine gd_q (i := 1) (d := 17) (op := .load 30 (.tmp 16)) (ty := 30) (g := none) (by kernel_rfl) trivial rfl (by kernel_rfl) (by kernel_rfl) (by kernel_rfl) (by kernel_rfl) (qv_load rfl .auto (ldv_sca sc30 (get_Tot_0 _))) ?_
  refine gd_q (i := 2) (d := 18) (op := .fieldAddr 32 (.tmp 7) 1) (ty := 0) (g := none) (by kernel_rfl) trivial rfl (by kernel_rfl) (by kernel_rfl) (by kernel_rfl) (by kernel_rfl) (qv_field rfl fd32_1) ?_
  refine gd_q (i := 3) (d := 19) (op := .load 30 (.tmp 18)) (ty := 30) (g := none) (by kernel_rfl) trivial rfl (by kernel_rfl) (by kernel_rfl) (by kernel_rfl) (by kernel_rfl) (qv_load rfl .auto (ldv_sca sc30 (get_Tot_1 _))) ?_
  refine gd_q (i := 4) (d := 20) (op := .fieldAddr 35 (.tmp 3) 1) (ty := 0) (g := none) (by kernel_rfl) trivial rfl (by kernel_rfl) (by kernel_rfl) (by kernel_rfl) (by kernel_rfl) (qv_field rfl fd35_1) ?_
  refine gd_one (i := 5) (d := none) (op := .store 30 (.tmp 20) (.tmp 17)) (ty := 0) (g := none) (by kernel_rfl) trivial rfl (by kernel_rfl) ?_
  refine os_store1 rfl rfl sz30 rfl rfl .auto (Nat.le_of_ble_eq_true rfl) (set_Rec_37 _ _) ?_
  refine ⟨fun _ h => by first | exact h | (cases h; done) | exact .tail _ h | exact .tail _ (.tail _ h) | exact List.mem_append_right _ (List.mem_append_right _ h) | exact List.mem_append_right _ h | (simp only [List.mem_cons, List.not_mem_nil, or_false] at h ⊢; first | exact .inl h | exact .inr (.inl h) | exact .inr (.inr (.inl h)) | exact .inr (.inr (.inr (.inl h))) | (subst h; simp; done) | grind), ?_⟩
  refine gd_q (i := 6) (d := 21) (op := .fieldAddr 35 (.tmp 3) 2) (ty := 0) (g := none) (by kernel_rfl) trivial rfl (by kernel_rfl) (by kernel_rfl) (by kernel_rfl) (by kernel_rfl) (qv_field rfl fd35_2) ?_
  refine gd_tail [7] rfl (by kernel_rfl) (by kernel_rfl) ?_
  refine go_s0 none (.store 30 (.tmp 21) (.tmp 19)) 0 ?_
  refine os_store1 rfl rfl sz30 rfl rfl .auto (Nat.le_of_ble_eq_true rfl) (set_Rec_38 _ _) ?_
  refine go_nil ?_
  change G _ _ _ _
  refine p_weaken [2, 3, 4, 6] rfl ?_
  refine p_seq0 ?_
  refine p_plain0 (0 :: 1 :: 2 :: 3 :: 4 :: 5 :: []) ?_
  refine go_q0 22 (.fieldAddr 35 (.tmp 3) 4) 0 (qv_field rfl fd35_4) ?_
  refine go_q0 23 (.load 30 (.tmp 22)) 30 (qv_load rfl .auto (ldv_sca sc30 (get_Rec_40 _))) ?_
  refine go_q0 24 (.move (.tmp 2)) 30 (qv_move rfl) ?_
  refine go_q0 25 (.call { callee := .builtin .max, args := #[.tmp 23, .tmp 24], argTypes := #[30, 30] }) 30 (qv_max rfl rfl rfl) ?_
  refine go_q0 26 (.fieldAddr 35 (.tmp 3) 4) 0 (qv_field rfl fd35_4) ?_
  refine go_s0 none (.store 30 (.tmp 26) (.tmp 25)) 0 ?_
  refine os_store1 rfl rfl sz30 rfl rfl .auto (Nat.le_of_ble_eq_true rfl) (set_Rec_40 _ _) ?_
  refine go_nil ?_
  change G _ _ _ _
  refine p_weaken [3, 4, 6] rfl ?_
  refine p_seq0 ?_
  refine p_plain0 (0 :: 1 :: 2 :: 3 :: 4 :: 5 :: 6 :: []) ?_
  refine go_q0 27 (.fieldAddr 35 (.tmp 3) 5) 0 (qv_field rfl fd35_5) ?_
  refine go_q0 28 (.load 5 (.tmp 27)) 5 (qv_load rfl .auto (ldv_sca sc5 (get_Rec_41 _))) ?_
  refine go_q0 29 (.fieldAddr 39 (.tmp 4) 2) 0 (qv_field rfl fd39_2) ?_
  refine go_q0 30 (.load 5 (.tmp 29)) 5 (qv_load rfl .auto (ldv_sca sc5 (get_Pkt_38 _))) ?_
  refine go_q0 31 (.binOp .or 5 (.tmp 28) (.tmp 30) 5) 5 (qv_or rfl rfl (rfl)) ?_
  refine go_q0 32 (.fieldAddr 35 (.tmp 3) 5) 0 (qv_field rfl fd35_5) ?_
  refine go_s0 none (.store 5 (.tmp 32) (.tmp 31)) 0 ?_
  refine os_store1 rfl rfl sz5 rfl rfl .auto (Nat.le_of_ble_eq_true rfl) (set_Rec_41 _ _) ?_
  refine go_nil ?_
  change G _ _ _ _
  refine p_weaken [3, 6] rfl ?_
  refine p_seq0 ?_
  refine p_plain0 (0 :: 1 :: []) ?_
  refine go_q0 33 (.load 35 (.tmp 3)) 35 (qv_load rfl .auto (ldv_agg agg35 (extw_Rec _) (Nat.le_of_ble_eq_true rfl))) ?_
  refine go_s0 none (.store 35 (.tmp 6) (.tmp 33)) 0 ?_
  refine os_store rfl rfl sz35 rfl (one_Rec _) .auto (Nat.le_of_ble_eq_true rfl) (splw_Rec _ _ (siz_Rec _)) ?_
  refine go_nil ?_
  change G _ _ _ _
  refine p_weaken [6] rfl ?_
  refine p_ret0 ?_
  try dsimp only [thenQ, inBlockQ]
  try rw [if_pos rfl]
  refine ret_now (.inr rfl) (.cons (res_cell rfl (At.mem .auto) (ldv_agg agg35 (extw_Rec _) (Nat.le_of_ble_eq_true rfl))) .nil) (by repeat constructor) ?_
  exact ⟨rfl, rfl⟩

def specs0 (long : Bool) : List FSpec := if long then [⟨27, 0, 16⟩, ⟨28, 0, 16⟩] else [⟨8, 0, 4⟩, ⟨12, 0, 4⟩]
def specs1 : List FSpec := [⟨4, 0, 1⟩, ⟨7, 0, 2⟩, ⟨11, 0, 2⟩, ⟨1, 0, 8⟩, ⟨2, 0, 8⟩, ⟨152, 0, 8⟩, ⟨153, 0, 8⟩, ⟨6, 0, 1⟩, ⟨136, 0, 1⟩, ⟨1, 32473, 1⟩]
theorem len_specs0 (long : Bool) : (specs0 long).length = 2 := by cases long <;> rfl
def specsOf (long : Bool) : List FSpec := specs0 long ++ specs1
theorem ct_Specs (long : Bool) : Ct Try.prog 31 [.bool long].toArray [] (fun v A => ∃ p cap, v = .slice p 12 cap ∧ OwnL eFSpec 79 p cap (specsOf long) A) := by
  refine ct_body (rv := [.tmp 2]) [(0, _)] Try.func31 (by kernel_rfl) Try.ntmps31 Try.results31 rfl rfl (fun w0 => ?_)
  refine p_seq0 ?_
  refine p_plain0 (0 :: []) ?_
  refine go_q0 2 (.assign (.const (.slice none 0 0))) 67 (qv_assign rfl) ?_
  refine go_nil ?_
  change G _ _ _ _
  refine p_seq0 ?_
  refine p_plain0 (0 :: 1 :: 2 :: 3 :: []) ?_
  refine go_q0 4 (.build 79 #[(0, .const (.int .u16 8)), (2, .const (.int .u16 4))]) 79 (qv_build rfl (bld79_0_2 _ _)) ?_
  refine go_q0 5 (.build 79 #[(0, .const (.int .u16 12)), (2, .const (.int .u16 4))]) 79 (qv_build rfl (bld79_0_2 _ _)) ?_
  refine go_s0 (some 6) (.buildSlice 67 2 #[(0, .tmp 4), (1, .tmp 5)]) 67 ?_
  refine os_buildSlice (Nat.le_of_ble_eq_true rfl) rfl (bls67_2 _ _) (fun b6 => ?_)
  refine go_q0 3 (.assign (.tmp 6)) 67 (qv_assign rfl) ?_
  refine go_nil ?_
  change G _ _ _ _
  refine p_weaken [0, 2, 3] rfl ?_
  refine p_seqJ (fun s => ∃ (b : Nat) (cur : Array Value), (cur.toList = eFSpec.flat (specs0 long)) ∧ Ge s ⟨[], [(2, .slice none 0 0), (3, .slice (some ⟨b, 0, none⟩) 2 2)], [(b, .cells cur 79 (0, 0))]⟩) (by kernel_rfl) ?_ ?_
  · refine p_seq0 ?_
    refine p_plain0 (0 :: []) ?_
    refine go_q0 7 (.move (.tmp 0)) 4 (qv_move rfl) ?_
    refine go_nil ?_
    change G _ _ _ _
    refine p_weaken [2, 3, 7] rfl ?_
    refine p_cond (.tmp 7) (by kernel_rfl) rfl (fun h7 => ?_) (fun h7 => ?_)
    rotate_left
    · replace h7 := kn h7
      refine p_skip0 ?_
      subst h7
      exact ⟨_, _, by kernel_rfl, ⟨rfl, ⟨[2, 3], rfl⟩, .auto⟩⟩
    replace h7 := kn h7
    refine p_plain0 (0 :: 1 :: 2 :: 3 :: []) ?_
    refine go_q0 8 (.build 79 #[(0, .const (.int .u16 27)), (2, .const (.int .u16 16))]) 79 (qv_build rfl (bld79_0_2 _ _)) ?_
    refine go_q0 9 (.build 79 #[(0, .const (.int .u16 28)), (2, .const (.int .u16 16))]) 79 (qv_build rfl (bld79_0_2 _ _)) ?_
    refine go_s0 (some 10) (.buildSlice 67 2 #[(0, .tmp 8), (1, .tmp 9)]) 67 ?_
    refine os_buildSlice (Nat.le_of_ble_eq_true rfl) rfl (bls67_2 _ _) (fun b10 => ?_)
    refine go_q0 3 (.assign (.tmp 10)) 67 (qv_assign rfl) ?_
    refine go_nil ?_
    subst h7
    exact ⟨_, _, by kernel_rfl, ⟨rfl, ⟨[2, 3], rfl⟩, .auto⟩⟩
  rintro s ⟨b, cur, hc, hs⟩
  refine ge_ok hs ?_
  refine p_seq0 ?_
  refine p_plain0 (0 :: 1 :: 2 :: 3 :: 4 :: 5 :: 6 :: 7 :: 8 :: 9 :: 10 :: 11 :: 12 :: 13 :: []) ?_
  refine go_q0 11 (.move (.tmp 3)) 67 (qv_move rfl) ?_
  refine go_q0 12 (.build 79 #[(0, .const (.int .u16 4)), (2, .const (.int .u16 1))]) 79 (qv_build rfl (bld79_0_2 _ _)) ?_
  refine go_q0 13 (.build 79 #[(0, .const (.int .u16 7)), (2, .const (.int .u16 2))]) 79 (qv_build rfl (bld79_0_2 _ _)) ?_
  refine go_q0 14 (.build 79 #[(0, .const (.int .u16 11)), (2, .const (.int .u16 2))]) 79 (qv_build rfl (bld79_0_2 _ _)) ?_
  refine go_q0 15 (.build 79 #[(0, .const (.int .u16 1)), (2, .const (.int .u16 8))]) 79 (qv_build rfl (bld79_0_2 _ _)) ?_
  refine go_q0 16 (.build 79 #[(0, .const (.int .u16 2)), (2, .const (.int .u16 8))]) 79 (qv_build rfl (bld79_0_2 _ _)) ?_
  refine go_q0 17 (.build 79 #[(0, .const (.int .u16 152)), (2, .const (.int .u16 8))]) 79 (qv_build rfl (bld79_0_2 _ _)) ?_
  refine go_q0 18 (.build 79 #[(0, .const (.int .u16 153)), (2, .const (.int .u16 8))]) 79 (qv_build rfl (bld79_0_2 _ _)) ?_
  refine go_q0 19 (.build 79 #[(0, .const (.int .u16 6)), (2, .const (.int .u16 1))]) 79 (qv_build rfl (bld79_0_2 _ _)) ?_
  refine go_q0 20 (.build 79 #[(0, .const (.int .u16 136)), (2, .const (.int .u16 1))]) 79 (qv_build rfl (bld79_0_2 _ _)) ?_
  refine go_q0 21 (.build 79 #[(0, .const (.int .u16 1)), (1, .const (.int .u32 32473)), (2, .const (.int .u16 1))]) 79 (qv_build rfl (bld79_0_1_2 _ _ _)) ?_
  refine go_s0 (some 22) (.buildSlice 67 10 #[(0, .tmp 12), (1, .tmp 13), (2, .tmp 14), (3, .tmp 15), (4, .tmp 16), (5, .tmp 17), (6, .tmp 18), (7, .tmp 19), (8, .tmp 20), (9, .tmp 21)]) 67 ?_
  refine os_buildSlice (Nat.le_of_ble_eq_true rfl) rfl (bls67_10 _ _ _ _ _ _ _ _ _ _) (fun b22 => ?_)
  refine go_s0 (some 23) (.call { callee := .builtin .append, args := #[.tmp 11, .tmp 22], argTypes := #[67, 67] }) 67 ?_
  refine os_appendL (E := eFSpec) (l := specs0 long) (l2 := specs1) rfl el67 rfl (len_specs0 long).symm rfl rfl (OwnL.of_build (len_specs0 long) hc (by decide)) (by repeat constructor) (by repeat constructor) (Holds.whole (by kernel_rfl)) one_FSpec (by rw [len_specs0]; decide) (by rw [len_specs0]; decide) (fun p23 cap23 A23 h23 => ?_)
  refine go_q0 2 (.assign (.tmp 23)) 67 (qv_assign rfl) ?_
  refine go_nil ?_
  change G _ _ _ _
  refine p_weaken [2] rfl ?_
  refine p_ret0 ?_
  try dsimp only [thenQ, inBlockQ]
  try rw [if_pos rfl]
  refine ret_left (A23) (.inr rfl) (.cons (res_tmp rfl) .nil) .auto ?_
  exact ⟨p23, cap23, by rw [len_specs0]; rfl, h23⟩

def lensTo (b : Bool) (k : Nat) : Int := (((specsOf b).take k).map (·.len)).sum
theorem specs_at (b : Bool) {k : Nat} (hk : k < 12) : ∃ x, (specsOf b)[k]? = some x ∧ 0 ≤ x.len ∧ x.len ≤ 16 ∧ IntKind.i64.wrap (lensTo b k + x.len) = lensTo b (k + 1) := by
  have h : ∀ b : Bool, ∀ k : Fin 12, ((specsOf b)[k.val]?).isSome = true ∧ 0 ≤ ((specsOf b)[k.val]?.getD default).len ∧ ((specsOf b)[k.val]?.getD default).len ≤ 16 ∧ IntKind.i64.wrap (lensTo b k + ((specsOf b)[k.val]?.getD default).len) = lensTo b (k + 1) := by decide
  obtain ⟨h1, h2⟩ := h b ⟨k, hk⟩
  obtain ⟨x, hx⟩ := Option.isSome_iff_exists.1 h1
  simp only [] at hx
  rw [hx] at h2
  exact ⟨x, hx, h2⟩
theorem len_specsOf (b : Bool) : (specsOf b).length = 12 := by cases b <;> rfl
theorem pu_works22 : Pu Try.prog 15 [] (.bool true) := by
  refine ct_body (rv := [.tmp 0]) [] Try.func15 (by kernel_rfl) Try.ntmps15 Try.results15 rfl rfl (fun w0 => ?_)
  refine p_seq0 ?_
  refine p_plain0 (0 :: []) ?_
  refine go_q0 0 (.assign (.const (.bool false))) 4 (qv_assign rfl) ?_
  refine go_nil ?_
  change G _ _ _ _
  refine p_seq0 ?_
  refine p_plain0 (0 :: 1 :: []) ?_
  refine go_q0 1 (.assign (.const (.int .i64 0))) 3 (qv_assign rfl) ?_
  refine go_q0 2 (.assign (.const (.int .i64 0))) 3 (qv_assign rfl) ?_
  refine go_nil ?_
  change G _ _ _ _
  refine p_seq0 ?_
  refine p_plain0 (0 :: 1 :: 2 :: 3 :: []) ?_
  refine go_s0 (some 7) (.call { callee := .value (.func 31), args := #[.const (.bool false)], argTypes := #[4] }) 67 ?_
  refine os_call (Nat.le_of_ble_eq_true rfl) en31 rfl .auto (ct_Specs false) ?_
  rintro v7 A7 ⟨p7, cap7, rfl, h7⟩
  try dsimp only [List.nil_append, List.cons_append]
  obtain ⟨b7, cur7, rfl, rfl, -, -, -, H7⟩ := h7.some_ (by decide)
  try dsimp only [List.nil_append, List.cons_append]
  refine go_s0 (some 8) (.call { callee := .value (.func 31), args := #[.const (.bool true)], argTypes := #[4] }) 67 ?_
  refine os_call (Nat.le_of_ble_eq_true rfl) en31 rfl .auto (ct_Specs true) ?_
  rintro v8 A8 ⟨p8, cap8, rfl, h8⟩
  try dsimp only [List.nil_append, List.cons_append]
  obtain ⟨b8, cur8, rfl, rfl, -, -, -, H8⟩ := h8.some_ (by decide)
  try dsimp only [List.nil_append, List.cons_append]
  refine go_q0 3 (.assign (.tmp 7)) 67 (qv_assign rfl) ?_
  refine go_q0 4 (.assign (.tmp 8)) 67 (qv_assign rfl) ?_
  refine go_nil ?_
  change G _ _ _ _
  refine p_weaken [0, 1, 2, 3, 4] rfl ?_
  refine p_seq0 ?_
  refine p_seq0 ?_
  refine p_plain0 (0 :: []) ?_
  refine go_q0 5 (.assign (.const (.int .i64 0))) 3 (qv_assign rfl) ?_
  refine go_nil ?_
  change G _ _ _ _
  refine p_block 0 (by kernel_rfl) ?_
  refine p_loopE (by kernel_rfl) (fun s m => ∃ (k : Nat), (k ≤ 12) ∧ Ge s ⟨[], [(0, .bool false), (1, .int .i64 (lensTo false k)), (2, .int .i64 (lensTo true k)), (3, .slice (some ⟨b7, 0, none⟩) 12 cap7), (4, .slice (some ⟨b8, 0, none⟩) 12 cap8), (5, .int .i64 k)], [(b8, .cells cur8 79 (0, 0)), (b7, .cells cur7 79 (0, 0))]⟩ ∧ m = 12 - k) ?_ ?_
  · exact ⟨_, ⟨0, by omega, ⟨rfl, ⟨[0, 1, 2, 3, 4, 5], rfl⟩, .auto⟩, rfl⟩⟩
  rintro s m ⟨k, hk, hs, rfl⟩
  refine ge_ok hs ?_
  refine p_seq0 ?_
  refine p_seq0 ?_
  refine p_plain0 (0 :: 1 :: 2 :: 3 :: 4 :: 5 :: 6 :: 7 :: 8 :: 9 :: []) ?_
  refine go_q0 9 (.move (.tmp 5)) 3 (qv_move rfl) ?_
  refine go_q0 10 (.move (.tmp 3)) 67 (qv_move rfl) ?_
  refine go_q0 11 (.call { callee := .builtin .len, args := #[.tmp 10], argTypes := #[67] }) 3 (qv_lenS un67 rfl) ?_
  refine go_q0 12 (.binOp .lss 3 (.tmp 9) (.tmp 11) 3) 4 (qv_lss rfl rfl rfl) ?_
  refine go_q0 13 (.move (.tmp 12)) 4 (qv_move rfl) ?_
  refine go_case (d := 13) rfl (fun g13 => ?_) (fun g13 => ?_)
  · replace g13 := kn g13
    refine go_q (d := 14) (op := .move (.tmp 5)) (ty := 3) (g := some (4, true)) (by kernel_rfl) ⟨13, by kernel_rfl, rfl⟩ rfl (qv_move rfl) ?_
    refine go_q (d := 15) (op := .move (.tmp 4)) (ty := 67) (g := some (4, true)) (by kernel_rfl) ⟨13, by kernel_rfl, rfl⟩ rfl (qv_move rfl) ?_
    refine go_q (d := 16) (op := .call { callee := .builtin .len, args := #[.tmp 15], argTypes := #[67] }) (ty := 3) (g := some (4, true)) (by kernel_rfl) ⟨13, by kernel_rfl, rfl⟩ rfl (qv_lenS un67 rfl) ?_
    refine go_q (d := 17) (op := .binOp .lss 3 (.tmp 14) (.tmp 16) 3) (ty := 4) (g := some (4, true)) (by kernel_rfl) ⟨13, by kernel_rfl, rfl⟩ rfl (qv_lss (b := true) rfl rfl (decide_eq_true (by omega))) ?_
    refine go_q0 18 (.pick (.tmp 13) (.tmp 17) (.const (.bool false))) 4 (qv_pick_t rfl rfl) ?_
    refine go_nil ?_
    change G _ _ _ _
    refine p_weaken [0, 1, 2, 3, 4, 5, 18] rfl ?_
    refine p_condT (.tmp 18) (by kernel_rfl) rfl ?_
    refine p_skip0 ?_
    change G _ _ _ _
    refine p_weaken [0, 1, 2, 3, 4, 5] rfl ?_
    refine p_seq0 ?_
    refine p_block 1 (by kernel_rfl) ?_
    refine p_seq0 ?_
    have hk' : k < 12 := by omega
    obtain ⟨x7, hx7, hx7a, hx7b, hx7c⟩ := specs_at false hk'
    obtain ⟨x8, hx8, hx8a, hx8b, hx8c⟩ := specs_at true hk'
    refine p_plain0 (0 :: 1 :: 2 :: 3 :: 4 :: 5 :: 6 :: 7 :: 8 :: []) ?_
    refine go_q0 21 (.move (.tmp 1)) 3 (qv_move rfl) ?_
    refine go_q0 22 (.move (.tmp 3)) 67 (qv_move rfl) ?_
    refine go_q0 23 (.move (.tmp 5)) 3 (qv_move rfl) ?_
    refine go_q0 24 (.indexAddr 67 (.tmp 22) (.tmp 23)) 0 (qv_index un67 sz79 rfl rfl rfl (by omega)) ?_
    refine go_q0 25 (.fieldAddr 79 (.tmp 24) 2) 0 (qv_field rfl fd79_2) ?_
    refine go_q0 26 (.load 25 (.tmp 25)) 25 (qv_load rfl .auto (ldv_el H7 hx7 sc25 (get_FSpec_2 x7) rfl)) ?_
    refine go_q0 27 (.convert 25 3 (.tmp 26)) 3 (qv_conv un25 un3 rfl (by first | exact IntWalk.i64_in _ (by omega) | rfl)) ?_
    refine go_q0 28 (.binOp .add 3 (.tmp 21) (.tmp 27) 3) 3 (qv_add rfl rfl (hx7c)) ?_
    refine go_q0 1 (.assign (.tmp 28)) 3 (qv_assign rfl) ?_
    refine go_nil ?_
    change G _ _ _ _
    refine p_weaken [0, 1, 2, 3, 4, 5] rfl ?_
    refine p_plain0 (0 :: 1 :: 2 :: 3 :: 4 :: 5 :: 6 :: 7 :: 8 :: []) ?_
    refine go_q0 29 (.move (.tmp 2)) 3 (qv_move rfl) ?_
    refine go_q0 30 (.move (.tmp 4)) 67 (qv_move rfl) ?_
    refine go_q0 31 (.move (.tmp 5)) 3 (qv_move rfl) ?_
    refine go_q0 32 (.indexAddr 67 (.tmp 30) (.tmp 31)) 0 (qv_index un67 sz79 rfl rfl rfl (by omega)) ?_
    refine go_q0 33 (.fieldAddr 79 (.tmp 32) 2) 0 (qv_field rfl fd79_2) ?_
    refine go_q0 34 (.load 25 (.tmp 33)) 25 (qv_load rfl .auto (ldv_el H8 hx8 sc25 (get_FSpec_2 x8) rfl)) ?_
    refine go_q0 35 (.convert 25 3 (.tmp 34)) 3 (qv_conv un25 un3 rfl (by first | exact IntWalk.i64_in _ (by omega) | rfl)) ?_
    refine go_q0 36 (.binOp .add 3 (.tmp 29) (.tmp 35) 3) 3 (qv_add rfl rfl (hx8c)) ?_
    refine go_q0 2 (.assign (.tmp 36)) 3 (qv_assign rfl) ?_
    refine go_nil ?_
    change G _ _ _ _
    refine p_weaken [0, 1, 2, 3, 4, 5] rfl ?_
    refine p_plain0 (0 :: 1 :: 2 :: []) ?_
    refine go_q0 19 (.move (.tmp 5)) 3 (qv_move rfl) ?_
    refine go_q0 20 (.binOp .add 3 (.tmp 19) (.const (.int .i64 1)) 3) 3 (qv_add rfl rfl (by first | exact IntWalk.i64_in _ (by omega) | exact IntWalk.i64_in _ (by dsimp only; omega) | rfl)) ?_
    refine go_q0 5 (.assign (.tmp 20)) 3 (qv_assign rfl) ?_
    refine go_nil ?_
    exact ⟨_, ⟨k + 1, by omega, ⟨rfl, ⟨[0, 1, 2, 3, 4, 5], rfl⟩, .auto⟩, rfl⟩, by omega⟩
  replace g13 := kn g13
  refine go_n (d := 14) (op := .move (.tmp 5)) (ty := 3) (g := some (4, true)) (by kernel_rfl) ⟨13, _, by kernel_rfl, rfl, rfl⟩ rfl ?_
  refine go_n (d := 15) (op := .move (.tmp 4)) (ty := 67) (g := some (4, true)) (by kernel_rfl) ⟨13, _, by kernel_rfl, rfl, rfl⟩ rfl ?_
  refine go_n (d := 16) (op := .call { callee := .builtin .len, args := #[.tmp 15], argTypes := #[67] }) (ty := 3) (g := some (4, true)) (by kernel_rfl) ⟨13, _, by kernel_rfl, rfl, rfl⟩ rfl ?_
  refine go_n (d := 17) (op := .binOp .lss 3 (.tmp 14) (.tmp 16) 3) (ty := 4) (g := some (4, true)) (by kernel_rfl) ⟨13, _, by kernel_rfl, rfl, rfl⟩ rfl ?_
  refine go_q0 18 (.pick (.tmp 13) (.tmp 17) (.const (.bool false))) 4 (qv_pick_f rfl rfl) ?_
  refine go_nil ?_
  change G _ _ _ _
  refine p_weaken [0, 1, 2, 3, 4, 5, 18] rfl ?_
  refine p_condF (.tmp 18) (by kernel_rfl) rfl ?_
  refine p_exit 0 (by kernel_rfl) ?_
  change G _ _ _ _
  refine p_weaken [0, 1, 2] rfl ?_
  refine p_seq0 ?_
  have hk' : k = 12 := by omega
  subst hk'
  refine p_plain0 (0 :: 1 :: 2 :: 3 :: 4 :: 5 :: []) ?_
  refine go_q0 37 (.build 27 #[]) 27 (qv_build rfl (bld27_)) ?_
  refine go_s0 (some 38) (.call { callee := .value (.func 16), args := #[.tmp 37, .const (.int .u8 2), .const (.int .u64 5)], argTypes := #[27, 5, 30] }) 35 ?_
  refine os_callP rfl en16 rfl (pu_Start _ 2 5) ?_
  refine go_q0 39 (.build 39 #[(1, .const (.int .i64 40)), (2, .const (.int .u8 2))]) 39 (qv_build rfl (bld39_1_2 _ _)) ?_
  refine go_s0 (some 40) (.call { callee := .value (.func 17), args := #[.tmp 38, .tmp 39, .const (.int .u64 9)], argTypes := #[35, 39, 30] }) 35 ?_
  refine os_callP rfl en17 rfl (pu_With (by unfold U64; decide) (by unfold U64; decide) (by unfold Pkt.Ok; decide)) ?_
  refine go_s0 (some 6) (.alloc 35) 0 ?_
  refine os_allocA rfl ze35 (fun b6 => ?_)
  refine go_s0 none (.store 35 (.tmp 6) (.tmp 40)) 0 ?_
  refine os_store rfl rfl sz35 rfl (one_Rec _) .auto (Nat.le_of_ble_eq_true rfl) (splw_Rec _ _ (siz_Rec _)) ?_
  refine go_nil ?_
  change G _ _ _ _
  refine p_weaken [0, 1, 2, 6] rfl ?_
  refine p_seq0 ?_
  refine p_plain0 (0 :: 1 :: 2 :: 3 :: 4 :: 5 :: 6 :: 7 :: 8 :: 9 :: 10 :: 11 :: 12 :: 13 :: 14 :: 15 :: 16 :: 17 :: 18 :: []) ?_
  refine go_q0 41 (.move (.tmp 1)) 3 (qv_move rfl) ?_
  refine go_q0 42 (.binOp .eql 3 (.tmp 41) (.const (.int .i64 48)) 3) 4 (qv_eql (b := true) rfl rfl (by kernel_rfl)) ?_
  refine go_q0 43 (.move (.tmp 42)) 4 (qv_move rfl) ?_
  refine go_q (d := 44) (op := .move (.tmp 2)) (ty := 3) (g := some (2, true)) (by kernel_rfl) ⟨43, by kernel_rfl, rfl⟩ rfl (qv_move rfl) ?_
  refine go_q (d := 45) (op := .binOp .eql 3 (.tmp 44) (.const (.int .i64 72)) 3) (ty := 4) (g := some (2, true)) (by kernel_rfl) ⟨43, by kernel_rfl, rfl⟩ rfl (qv_eql (b := true) rfl rfl (by kernel_rfl)) ?_
  refine go_q0 46 (.pick (.tmp 43) (.tmp 45) (.const (.bool false))) 4 (qv_pick_t rfl rfl) ?_
  refine go_q0 47 (.move (.tmp 46)) 4 (qv_move rfl) ?_
  refine go_q (d := 48) (op := .load 35 (.tmp 6)) (ty := 35) (g := some (6, true)) (by kernel_rfl) ⟨47, by kernel_rfl, rfl⟩ rfl (qv_load rfl .auto (ldv_agg agg35 (extw_Rec _) (Nat.le_of_ble_eq_true rfl))) ?_
  refine go_q (d := 49) (op := .build 35 #[(1, .const (.int .u64 1)), (2, .const (.int .u64 40)), (3, .const (.int .u64 5)), (4, .const (.int .u64 9)), (5, .const (.int .u8 2)), (7, .const (.int .u8 2))]) (ty := 35) (g := some (6, true)) (by kernel_rfl) ⟨47, by kernel_rfl, rfl⟩ rfl (qv_build rfl (bld35_1_2_3_4_5_7 _ _ _ _ _ _)) ?_
  refine go_q (d := 50) (op := .binOp .eql 35 (.tmp 48) (.tmp 49) 35) (ty := 4) (g := some (6, true)) (by kernel_rfl) ⟨47, by kernel_rfl, rfl⟩ rfl (qv_eql_35 (b := true) rfl rfl (by kernel_rfl)) ?_
  refine go_q0 51 (.pick (.tmp 47) (.tmp 50) (.const (.bool false))) 4 (qv_pick_t rfl rfl) ?_
  refine go_q0 52 (.move (.tmp 51)) 4 (qv_move rfl) ?_
  refine go_q (d := 53) (op := .build 32 #[(0, .const (.int .u64 1)), (1, .const (.int .u64 18446744073709551615))]) (ty := 32) (g := some (11, true)) (by kernel_rfl) ⟨52, by kernel_rfl, rfl⟩ rfl (qv_build rfl (bld32_0_1 _ _)) ?_
  refine go_q (d := 54) (op := .build 32 #[(0, .const (.int .u64 2)), (1, .const (.int .u64 9))]) (ty := 32) (g := some (11, true)) (by kernel_rfl) ⟨52, by kernel_rfl, rfl⟩ rfl (qv_build rfl (bld32_0_1 _ _)) ?_
  refine go_s (d := some 55) (op := .call { callee := .value (.func 19), args := #[.tmp 53, .tmp 54], argTypes := #[32, 32] }) (ty := 32) (g := some (11, true)) (by kernel_rfl) ⟨52, by kernel_rfl, rfl⟩ ?_
  refine os_callP rfl en19 rfl (pu_Plus ⟨by unfold U64; decide, by unfold U64; decide⟩ ⟨by unfold U64; decide, by unfold U64; decide⟩) ?_
  refine go_q (d := 56) (op := .build 32 #[(0, .const (.int .u64 3)), (1, .const (.int .u64 18446744073709551615))]) (ty := 32) (g := some (11, true)) (by kernel_rfl) ⟨52, by kernel_rfl, rfl⟩ rfl (qv_build rfl (bld32_0_1 _ _)) ?_
  refine go_q (d := 57) (op := .binOp .eql 32 (.tmp 55) (.tmp 56) 32) (ty := 4) (g := some (11, true)) (by kernel_rfl) ⟨52, by kernel_rfl, rfl⟩ rfl (qv_eql_32 (b := true) rfl rfl (by kernel_rfl)) ?_
  refine go_q0 58 (.pick (.tmp 52) (.tmp 57) (.const (.bool false))) 4 (qv_pick_t rfl rfl) ?_
  refine go_q0 0 (.assign (.tmp 58)) 4 (qv_assign rfl) ?_
  refine go_nil ?_
  change G _ _ _ _
  refine p_weaken [0] rfl ?_
  refine p_ret0 ?_
  try dsimp only [thenQ, inBlockQ]
  try rw [if_pos rfl]
  refine ret_now (.inr rfl) (.cons (res_tmp rfl) .nil) (by repeat constructor) ?_
  exact ⟨rfl, rfl⟩
end Go.Proofs.Ytobmcpoejhhemaa
