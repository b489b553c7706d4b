import Derived.Test.YtobmcpoejhhemaaGreatKEq
import Derived.Test.YtobmcpoejhhemaaGreatKEngF
import Derived.Laws.Externs
namespace Go.Proofs.YtobmcpoejhhemaaGreat
open Go.E

/-- A number of 64 bits. -/
def U64 (x : Int) : Prop := 0 ≤ x ∧ x ≤ 18446744073709551615
def sat (a b : Int) : Int := if 18446744073709551615 < a + b then 18446744073709551615 else a + b
def Tot.Ok (t : Tot) : Prop := U64 t.packets ∧ U64 t.bytes
def Tot.plus (t u : Tot) : Tot := ⟨sat t.packets u.packets, sat t.bytes u.bytes⟩
theorem sat_ok {a b : Int} (ha : U64 a) (hb : U64 b) : U64 (sat a b) := by unfold sat U64 at *; split <;> omega
theorem run_add64_ {x y : Int} (hx : U64 x) (hy : U64 y) (w : World) : (callFunc 94 [.int .u64 x, .int .u64 y, .int .u64 0].toArray).run Tryz.prog w = .ok (.value (.tuple #[.int .u64 ((x + y) % 18446744073709551616), .int .u64 ((x + y) / 18446744073709551616)])) w := by
  have h := run_add64 (P := Tryz.prog) x y 0 hx.1 hy.1 (Int.le_refl 0) (by decide) w
  rw [run_callFunc_extern Tryz.func94 (by kernel_rfl) (by kernel_rfl) (by kernel_rfl) (e := add64Entry) (by kernel_rfl)]
  change ((add64Entry #[.int .u64 x, .int .u64 y, .int .u64 0]).run Tryz.prog w).andThen _ = _
  rw [h]
  simp [Result.andThen]

theorem pu_plus {x y : Int} (hx : U64 x) (hy : U64 y) : Pu Tryz.prog 106 [.int .u64 x, .int .u64 y] (.int .u64 (sat x y)) := by
  refine ct_body (rv := [.tmp 4]) [(0, _), (1, _)] Tryz.func106 (by kernel_rfl) Tryz.ntmps106 Tryz.results106 rfl rfl (fun w0 => ?_)
  obtain ⟨hx0, hx1⟩ := hx
  obtain ⟨hy0, hy1⟩ := hy
  refine p_seq0 ?_
  refine p_plain0 (0 :: []) ?_
  refine go_q0 4 (.assign (.const (.int .u64 0))) 23 (qv_assign rfl) ?_
  refine go_nil ?_
  change G _ _ _ _
  refine p_seq0 ?_
  refine p_plain0 (0 :: 1 :: 2 :: 3 :: 4 :: 5 :: 6 :: 7 :: []) ?_
  refine go_q0 8 (.move (.tmp 0)) 23 (qv_move rfl) ?_
  refine go_q0 9 (.move (.tmp 1)) 23 (qv_move rfl) ?_
  refine go_q0 10 (.call { callee := .value (.func 94), args := #[.tmp 8, .tmp 9, .const (.int .u64 0)], argTypes := #[23, 23, 23] }) 157 (qv_extern rfl (fun w _ => run_add64_ ⟨hx0, hx1⟩ ⟨hy0, hy1⟩ w)) ?_
  refine go_q0 7 (.move (.tmp 10)) 157 (qv_move rfl) ?_
  refine go_q0 11 (.extract (.tmp 7) 0) 23 (qv_extract rfl rfl) ?_
  refine go_q0 12 (.extract (.tmp 7) 1) 23 (qv_extract rfl rfl) ?_
  refine go_q0 5 (.assign (.tmp 11)) 23 (qv_assign rfl) ?_
  refine go_q0 6 (.assign (.tmp 12)) 23 (qv_assign rfl) ?_
  refine go_nil ?_
  change G _ _ _ _
  refine p_weaken [4, 5, 6] rfl ?_
  refine p_seq0 ?_
  refine p_seq0 ?_
  refine p_plain0 (0 :: 1 :: []) ?_
  refine go_q0 13 (.move (.tmp 6)) 23 (qv_move rfl) ?_
  refine go_q0 14 (.binOp .gtr 23 (.tmp 13) (.const (.int .u64 0)) 23) 4 (qv_gtr rfl rfl rfl) ?_
  refine go_nil ?_
  change G _ _ _ _
  refine p_weaken [4, 5, 14] rfl ?_
  refine p_cond (.tmp 14) (by kernel_rfl) rfl (fun h14 => ?_) (fun h14 => ?_)
  · replace h14 := kn h14
    refine p_seq0 ?_
    refine p_plain0 (0 :: []) ?_
    refine go_q0 4 (.assign (.const (.int .u64 18446744073709551615))) 23 (qv_assign rfl) ?_
    refine go_nil ?_
    change G _ _ _ _
    refine p_weaken [4, 5] rfl ?_
    refine p_ret0 ?_
    try dsimp only [thenQ, inBlockQ]
    try rw [if_pos rfl]
    refine ret_now (.inr rfl) (.cons (res_tmp rfl) .nil) (by repeat constructor) ?_
    refine ⟨?_, rfl⟩
    unfold sat
    rw [if_pos (by omega)]
    rfl
  replace h14 := kn h14
  refine p_skip0 ?_
  change G _ _ _ _
  refine p_weaken [4, 5] rfl ?_
  refine p_seq0 ?_
  refine p_plain0 (0 :: 1 :: []) ?_
  refine go_q0 15 (.move (.tmp 5)) 23 (qv_move rfl) ?_
  refine go_q0 4 (.assign (.tmp 15)) 23 (qv_assign rfl) ?_
  refine go_nil ?_
  change G _ _ _ _
  refine p_weaken [4] rfl ?_
  refine p_ret0 ?_
  try dsimp only [thenQ, inBlockQ]
  try rw [if_pos rfl]
  refine ret_now (.inr rfl) (.cons (res_tmp rfl) .nil) (by repeat constructor) ?_
  refine ⟨?_, rfl⟩
  unfold sat
  rw [if_neg (by omega), Int.emod_eq_of_lt (by omega) (by omega)]
  rfl

theorem pu_Plus {t u : Tot} (ht : t.Ok) (hu : u.Ok) : Pu Tryz.prog 84 [.agg t.c, .agg u.c] (.agg (t.plus u).c) := by
  refine ct_body (rv := [.cell 4 65]) [(0, _), (1, _)] Tryz.func84 (by kernel_rfl) Tryz.ntmps84 Tryz.results84 rfl rfl (fun w0 => ?_)
  refine p_seq0 ?_
  refine p_plain0 (0 :: 1 :: 2 :: []) ?_
  refine go_s0 (some 2) (.box 65 (.tmp 0)) 0 ?_
  refine os_boxA rfl rfl (fun b2 => ?_)
  refine go_s0 (some 3) (.box 65 (.tmp 1)) 0 ?_
  refine os_boxA rfl rfl (fun b3 => ?_)
  refine go_s0 (some 4) (.alloc 65) 0 ?_
  refine os_allocA rfl ze65 (fun b4 => ?_)
  refine go_nil ?_
  change G _ _ _ _
  refine p_weaken [2, 3, 4] rfl ?_
  refine p_seq0 ?_
  refine p_draw (by kernel_rfl) mixed 11 12 _ (fun _ h => h) (by kernel_rfl) ?_
  refine gd_all (0 :: 1 :: 2 :: 3 :: 4 :: 5 :: 6 :: 7 :: 8 :: 9 :: 10 :: []) _ rfl (by kernel_rfl) (by decide) (fun _ h => h) rfl ?_
  refine sq_q0 5 (.fieldAddr 65 (.tmp 2) 0) 0 (qv_field rfl fd65_0) ?_
  refine sq_q0 6 (.load 23 (.tmp 5)) 23 (qv_load rfl .auto (ldv_sca sc23 (get_Tot_0 _))) ?_
  refine sq_q0 7 (.fieldAddr 65 (.tmp 3) 0) 0 (qv_field rfl fd65_0) ?_
  refine sq_q0 8 (.load 23 (.tmp 7)) 23 (qv_load rfl .auto (ldv_sca sc23 (get_Tot_0 _))) ?_
  refine sq_p (d := 9) (op := .call { callee := .value (.func 106), args := #[.tmp 6, .tmp 8], argTypes := #[23, 23] }) (ty := 23) (g := none) (by kernel_rfl) trivial (pv_call en106 rfl (pu_plus ht.1 hu.1)) ?_
  refine sq_q0 10 (.fieldAddr 65 (.tmp 2) 1) 0 (qv_field rfl fd65_1) ?_
  refine sq_q0 11 (.load 23 (.tmp 10)) 23 (qv_load rfl .auto (ldv_sca sc23 (get_Tot_1 _))) ?_
  refine sq_q0 12 (.fieldAddr 65 (.tmp 3) 1) 0 (qv_field rfl fd65_1) ?_
  refine sq_q0 13 (.load 23 (.tmp 12)) 23 (qv_load rfl .auto (ldv_sca sc23 (get_Tot_1 _))) ?_
  refine sq_p (d := 14) (op := .call { callee := .value (.func 106), args := #[.tmp 11, .tmp 13], argTypes := #[23, 23] }) (ty := 23) (g := none) (by kernel_rfl) trivial (pv_call en106 rfl (pu_plus ht.2 hu.2)) ?_
  refine sq_q0 15 (.build 65 #[(0, .tmp 9), (1, .tmp 14)]) 65 (qv_build rfl (bld65_0_1 _ _)) ?_
  refine SeqK.nil (fun β => ?_)
  refine gd_tail [11] rfl (by kernel_rfl) (by kernel_rfl) ?_
  refine go_s0 none (.store 65 (.tmp 4) (.tmp 15)) 0 ?_
  refine os_store rfl rfl sz65 rfl (one_Tot _) .auto (Nat.le_of_ble_eq_true rfl) (splw_Tot _ _ (siz_Tot _)) ?_
  refine go_nil ?_
  change G _ _ _ _
  refine p_weaken [4] rfl ?_
  refine p_ret0 ?_
  try dsimp only [thenQ, inBlockQ]
  try rw [if_pos rfl]
  refine ret_now (.inr rfl) (.cons (res_cell rfl (At.mem .auto) (ldv_agg agg65 (extw_Tot _) (Nat.le_of_ble_eq_true rfl))) .nil) (by repeat constructor) ?_
  exact ⟨rfl, rfl⟩

theorem pu_Total (r : Rec) : Pu Tryz.prog 25 [.agg r.c] (.agg (⟨r.packets, r.bytes⟩ : Tot).c) := by
  refine ct_body (rv := [.cell 2 65]) [(0, _)] Tryz.func25 (by kernel_rfl) Tryz.ntmps25 Tryz.results25 rfl rfl (fun w0 => ?_)
  refine p_seq0 ?_
  refine p_plain0 (0 :: 1 :: []) ?_
  refine go_s0 (some 1) (.box 69 (.tmp 0)) 0 ?_
  refine os_boxA rfl rfl (fun b1 => ?_)
  refine go_s0 (some 2) (.alloc 65) 0 ?_
  refine os_allocA rfl ze65 (fun b2 => ?_)
  refine go_nil ?_
  change G _ _ _ _
  refine p_weaken [1, 2] rfl ?_
  refine p_seq0 ?_
  refine p_plain0 (0 :: 1 :: 2 :: 3 :: 4 :: 5 :: []) ?_
  refine go_q0 3 (.fieldAddr 69 (.tmp 1) 1) 0 (qv_field rfl fd69_1) ?_
  refine go_q0 4 (.load 23 (.tmp 3)) 23 (qv_load rfl .auto (ldv_sca sc23 (get_Rec_37 _))) ?_
  refine go_q0 5 (.fieldAddr 69 (.tmp 1) 2) 0 (qv_field rfl fd69_2) ?_
  refine go_q0 6 (.load 23 (.tmp 5)) 23 (qv_load rfl .auto (ldv_sca sc23 (get_Rec_38 _))) ?_
  refine go_q0 7 (.build 65 #[(0, .tmp 4), (1, .tmp 6)]) 65 (qv_build rfl (bld65_0_1 _ _)) ?_
  refine go_s0 none (.store 65 (.tmp 2) (.tmp 7)) 0 ?_
  refine os_store rfl rfl sz65 rfl (one_Tot _) .auto (Nat.le_of_ble_eq_true rfl) (splw_Tot _ _ (siz_Tot _)) ?_
  refine go_nil ?_
  change G _ _ _ _
  refine p_weaken [2] rfl ?_
  refine p_ret0 ?_
  try dsimp only [thenQ, inBlockQ]
  try rw [if_pos rfl]
  refine ret_now (.inr rfl) (.cons (res_cell rfl (At.mem .auto) (ldv_agg agg65 (extw_Tot _) (Nat.le_of_ble_eq_true rfl))) .nil) (by repeat constructor) ?_
  exact ⟨rfl, rfl⟩

def startR (k : Key) (cls tick : Int) : Rec := { key := k, packets := 0, bytes := 0, first := tick, last := tick, flags := 0, reason := 0, cls := cls }
theorem pu_Start (k : Key) (cls tick : Int) : Pu Tryz.prog 83 [.agg k.c, .int .u8 cls, .int .u64 tick] (.agg (startR k cls tick).c) := by
  refine ct_body (rv := [.cell 6 69]) [(0, _), (1, _), (2, _)] Tryz.func83 (by kernel_rfl) Tryz.ntmps83 Tryz.results83 rfl rfl (fun w0 => ?_)
  refine p_seq0 ?_
  refine p_plain0 (0 :: 1 :: []) ?_
  refine go_s0 (some 3) (.box 29 (.tmp 0)) 0 ?_
  refine os_boxA rfl rfl (fun b3 => ?_)
  refine go_s0 (some 6) (.alloc 69) 0 ?_
  refine os_allocA rfl ze69 (fun b6 => ?_)
  refine go_nil ?_
  change G _ _ _ _
  refine p_weaken [1, 2, 3, 6] rfl ?_
  refine p_seq0 ?_
  refine p_plain0 (0 :: 1 :: 2 :: 3 :: 4 :: 5 :: []) ?_
  refine go_q0 7 (.load 29 (.tmp 3)) 29 (qv_load rfl .auto (ldv_agg agg29 (extw_Key _) (Nat.le_of_ble_eq_true rfl))) ?_
  refine go_q0 8 (.move (.tmp 2)) 23 (qv_move rfl) ?_
  refine go_q0 9 (.move (.tmp 2)) 23 (qv_move rfl) ?_
  refine go_q0 10 (.move (.tmp 1)) 5 (qv_move rfl) ?_
  refine go_q0 11 (.build 69 #[(0, .tmp 7), (3, .tmp 8), (4, .tmp 9), (7, .tmp 10)]) 69 (qv_build rfl (bld69_0_3_4_7 _ _ _ _)) ?_
  refine go_s0 none (.store 69 (.tmp 6) (.tmp 11)) 0 ?_
  refine os_store rfl rfl sz69 rfl (one_Rec _) .auto (Nat.le_of_ble_eq_true rfl) (splw_Rec _ _ (siz_Rec _)) ?_
  refine go_nil ?_
  change G _ _ _ _
  refine p_weaken [6] rfl ?_
  refine p_ret0 ?_
  try dsimp only [thenQ, inBlockQ]
  try rw [if_pos rfl]
  refine ret_now (.inr rfl) (.cons (res_cell rfl (At.mem .auto) (ldv_agg agg69 (extw_Rec _) (Nat.le_of_ble_eq_true rfl))) .nil) (by repeat constructor) ?_
  exact ⟨rfl, rfl⟩

def Pkt.Ok (p : Pkt) : Prop := -9223372036854775808 ≤ p.length ∧ p.length ≤ 9223372036854775807
def Rec.with_ (r : Rec) (p : Pkt) (tick : Int) : Rec :=
  { r with packets := sat r.packets 1, bytes := sat r.bytes (max 0 p.length), last := max r.last tick, flags := bits .or .u8 r.flags p.flags }
theorem pu_With {r : Rec} {p : Pkt} {tick : Int} (h1 : U64 r.packets) (h2 : U64 r.bytes) (hp : p.Ok) : Pu Tryz.prog 57 [.agg r.c, .agg p.c, .int .u64 tick] (.agg (r.with_ p tick).c) := by
  refine ct_body (rv := [.cell 6 69]) [(0, _), (1, _), (2, _)] Tryz.func57 (by kernel_rfl) Tryz.ntmps57 Tryz.results57 rfl rfl (fun w0 => ?_)
  obtain ⟨hp0, hp1⟩ := hp
  refine p_seq0 ?_
  refine p_plain0 (0 :: 1 :: 2 :: []) ?_
  refine go_s0 (some 3) (.box 69 (.tmp 0)) 0 ?_
  refine os_boxA rfl rfl (fun b3 => ?_)
  refine go_s0 (some 4) (.box 31 (.tmp 1)) 0 ?_
  refine os_boxA rfl rfl (fun b4 => ?_)
  refine go_s0 (some 6) (.alloc 69) 0 ?_
  refine os_allocA rfl ze69 (fun b6 => ?_)
  refine go_nil ?_
  change G _ _ _ _
  refine p_weaken [2, 3, 4, 6] rfl ?_
  refine p_seq0 ?_
  refine p_draw (by kernel_rfl) mixed 9 10 _ (fun _ h => h) (by kernel_rfl) ?_
  refine gd_all (0 :: 1 :: 2 :: 3 :: 4 :: 5 :: 6 :: 7 :: 8 :: []) _ rfl (by kernel_rfl) (by decide) (fun _ h => h) rfl ?_
  refine sq_q0 8 (.load 69 (.tmp 3)) 69 (qv_load rfl .auto (ldv_agg agg69 (extw_Rec _) (Nat.le_of_ble_eq_true rfl))) ?_
  refine sq_p (d := 9) (op := .call { callee := .value (.func 25), args := #[.tmp 8], argTypes := #[69] }) (ty := 65) (g := none) (by kernel_rfl) trivial (pv_call en25 rfl (pu_Total r)) ?_
  refine sq_q0 10 (.fieldAddr 31 (.tmp 4) 1) 0 (qv_field rfl fd31_1) ?_
  refine sq_q0 11 (.load 3 (.tmp 10)) 3 (qv_load rfl .auto (ldv_sca sc3 (get_Pkt_37 _))) ?_
  refine sq_q0 12 (.call { callee := .builtin .max, args := #[.const (.int .i64 0), .tmp 11], argTypes := #[3, 3] }) 3 (qv_max rfl rfl rfl) ?_
  refine sq_q0 13 (.convert 3 23 (.tmp 12)) 23 (qv_conv un3 un23 rfl (by first | exact IntWalk.u64_in _ (by omega) | rfl)) ?_
  refine sq_q0 14 (.build 65 #[(0, .const (.int .u64 1)), (1, .tmp 13)]) 65 (qv_build rfl (bld65_0_1 _ _)) ?_
  refine sq_p (d := 15) (op := .call { callee := .value (.func 84), args := #[.tmp 9, .tmp 14], argTypes := #[65, 65] }) (ty := 65) (g := none) (by kernel_rfl) trivial (pv_call en84 rfl (pu_Plus ⟨h1, h2⟩ ⟨by unfold U64; dsimp only; omega, by unfold U64; dsimp only; omega⟩)) ?_
  refine sq_a (d := 7) (t := 65) (ty := 0) (by kernel_rfl) ze65 rfl ?_
  refine SeqK.nil (fun β => ?_)
  generalize β 8 = b7
  refine gd_tail [9] rfl (by kernel_rfl) (by kernel_rfl) ?_
  refine go_s0 none (.store 65 (.tmp 7) (.tmp 15)) 0 ?_
  refine os_store rfl rfl sz65 rfl (one_Tot _) .auto (Nat.le_of_ble_eq_true rfl) (splw_Tot _ _ (siz_Tot _)) ?_
  refine go_nil ?_
  change G _ _ _ _
  refine p_weaken [2, 3, 4, 6, 7] rfl ?_
  refine p_seq0 ?_
  refine p_draw (by kernel_rfl) mixed 7 8 [(b7, .cells ((⟨r.packets, r.bytes⟩ : Tot).plus ⟨1, max 0 p.length⟩).c 65 (0, 0))] (by first | (simp; done) | (intro q hq; simp [hq]; done)) (by kernel_rfl) ?_
  refine gd_q (i := 0) (d := 16) (op := .fieldAddr 65 (.tmp 7) 0) (ty := 0) (g := none) (by kernel_rfl) trivial rfl (by kernel_rfl) (by kernel_rfl) (by kernel_rfl) (by kernel_rfl) (qv_field rfl fd65_0) ?_
  refine gd_q (i := 1) (d := 17) (op := .load 23 (.tmp 16)) (ty := 23) (g := none) (by kernel_rfl) trivial rfl (by kernel_rfl) (by kernel_rfl) (by kernel_rfl) (by kernel_rfl) (qv_load rfl .auto (ldv_sca sc23 (get_Tot_0 _))) ?_
  refine gd_q (i := 2) (d := 18) (op := .fieldAddr 65 (.tmp 7) 1) (ty := 0) (g := none) (by kernel_rfl) trivial rfl (by kernel_rfl) (by kernel_rfl) (by kernel_rfl) (by kernel_rfl) (qv_field rfl fd65_1) ?_
  refine gd_q (i := 3) (d := 19) (op := .load 23 (.tmp 18)) (ty := 23) (g := none) (by kernel_rfl) trivial rfl (by kernel_rfl) (by kernel_rfl) (by kernel_rfl) (by kernel_rfl) (qv_load rfl .auto (ldv_sca sc23 (get_Tot_1 _))) ?_
  refine gd_q (i := 4) (d := 20) (op := .fieldAddr 69 (.tmp 3) 1) (ty := 0) (g := none) (by kernel_rfl) trivial rfl (by kernel_rfl) (by kernel_rfl) (by kernel_rfl) (by kernel_rfl) (qv_field rfl fd69_1) ?_
  refine gd_one (i := 5) (d := none) (op := .store 23 (.tmp 20) (.tmp 17)) (ty := 0) (g := none) (by kernel_rfl) trivial rfl (by kernel_rfl) ?_
  refine os_store1 rfl rfl sz23 rfl rfl .auto (Nat.le_of_ble_eq_true rfl) (set_Rec_37 _ _) ?_
  refine ⟨fun _ h => by first | exact h | (cases h; done) | exact .tail _ h | exact .tail _ (.tail _ h) | exact List.mem_append_right _ (List.mem_append_right _ h) | exact List.mem_append_right _ h | (simp only [List.mem_cons, List.not_mem_nil, or_false] at h ⊢; first | exact .inl h | exact .inr (.inl h) | exact .inr (.inr (.inl h)) | exact .inr (.inr (.inr (.inl h))) | (subst h; simp; done) | grind), ?_⟩
  refine gd_q (i := 6) (d := 21) (op := .fieldAddr 69 (.tmp 3) 2) (ty := 0) (g := none) (by kernel_rfl) trivial rfl (by kernel_rfl) (by kernel_rfl) (by kernel_rfl) (by kernel_rfl) (qv_field rfl fd69_2) ?_
  refine gd_tail [7] rfl (by kernel_rfl) (by kernel_rfl) ?_
  refine go_s0 none (.store 23 (.tmp 21) (.tmp 19)) 0 ?_
  refine os_store1 rfl rfl sz23 rfl rfl .auto (Nat.le_of_ble_eq_true rfl) (set_Rec_38 _ _) ?_
  refine go_nil ?_
  change G _ _ _ _
  refine p_weaken [2, 3, 4, 6] rfl ?_
  refine p_seq0 ?_
  refine p_plain0 (0 :: 1 :: 2 :: 3 :: 4 :: 5 :: []) ?_
  refine go_q0 22 (.fieldAddr 69 (.tmp 3) 4) 0 (qv_field rfl fd69_4) ?_
  refine go_q0 23 (.load 23 (.tmp 22)) 23 (qv_load rfl .auto (ldv_sca sc23 (get_Rec_40 _))) ?_
  refine go_q0 24 (.move (.tmp 2)) 23 (qv_move rfl) ?_
  refine go_q0 25 (.call { callee := .builtin .max, args := #[.tmp 23, .tmp 24], argTypes := #[23, 23] }) 23 (qv_max rfl rfl rfl) ?_
  refine go_q0 26 (.fieldAddr 69 (.tmp 3) 4) 0 (qv_field rfl fd69_4) ?_
  refine go_s0 none (.store 23 (.tmp 26) (.tmp 25)) 0 ?_
  refine os_store1 rfl rfl sz23 rfl rfl .auto (Nat.le_of_ble_eq_true rfl) (set_Rec_40 _ _) ?_
  refine go_nil ?_
  change G _ _ _ _
  refine p_weaken [3, 4, 6] rfl ?_
  refine p_seq0 ?_
  refine p_plain0 (0 :: 1 :: 2 :: 3 :: 4 :: 5 :: 6 :: []) ?_
  refine go_q0 27 (.fieldAddr 69 (.tmp 3) 5) 0 (qv_field rfl fd69_5) ?_
  refine go_q0 28 (.load 5 (.tmp 27)) 5 (qv_load rfl .auto (ldv_sca sc5 (get_Rec_41 _))) ?_
  refine go_q0 29 (.fieldAddr 31 (.tmp 4) 2) 0 (qv_field rfl fd31_2) ?_
  refine go_q0 30 (.load 5 (.tmp 29)) 5 (qv_load rfl .auto (ldv_sca sc5 (get_Pkt_38 _))) ?_
  refine go_q0 31 (.binOp .or 5 (.tmp 28) (.tmp 30) 5) 5 (qv_or rfl rfl (rfl)) ?_
  refine go_q0 32 (.fieldAddr 69 (.tmp 3) 5) 0 (qv_field rfl fd69_5) ?_
  refine go_s0 none (.store 5 (.tmp 32) (.tmp 31)) 0 ?_
  refine os_store1 rfl rfl sz5 rfl rfl .auto (Nat.le_of_ble_eq_true rfl) (set_Rec_41 _ _) ?_
  refine go_nil ?_
  change G _ _ _ _
  refine p_weaken [3, 6] rfl ?_
  refine p_seq0 ?_
  refine p_plain0 (0 :: 1 :: []) ?_
  refine go_q0 33 (.load 69 (.tmp 3)) 69 (qv_load rfl .auto (ldv_agg agg69 (extw_Rec _) (Nat.le_of_ble_eq_true rfl))) ?_
  refine go_s0 none (.store 69 (.tmp 6) (.tmp 33)) 0 ?_
  refine os_store rfl rfl sz69 rfl (one_Rec _) .auto (Nat.le_of_ble_eq_true rfl) (splw_Rec _ _ (siz_Rec _)) ?_
  refine go_nil ?_
  change G _ _ _ _
  refine p_weaken [6] rfl ?_
  refine p_ret0 ?_
  try dsimp only [thenQ, inBlockQ]
  try rw [if_pos rfl]
  refine ret_now (.inr rfl) (.cons (res_cell rfl (At.mem .auto) (ldv_agg agg69 (extw_Rec _) (Nat.le_of_ble_eq_true rfl))) .nil) (by repeat constructor) ?_
  exact ⟨rfl, rfl⟩

end Go.Proofs.YtobmcpoejhhemaaGreat
