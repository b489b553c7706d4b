import Derived.Test.YtobmcpoejhhemaaGreatKRcZ
import Derived.Test.YtobmcpoejhhemaaGreatKTicks
import Derived.Test.YtobmcpoejhhemaaGreatKCacNone
namespace Go.Proofs.YtobmcpoejhhemaaGreat
open Go.E

theorem wrap_u8 (z : Int) : InK .u8 (IntKind.u8.wrap z) := by
  have e : IntKind.u8.wrap z = z % 256 := by simp [IntKind.wrap, IntKind.bits, IntKind.signed]
  rw [e]
  exact ⟨Int.emod_nonneg _ (by decide), by have := Int.emod_lt_of_pos z (show (0 : Int) < 256 by decide); simp [IntKind.max, IntKind.bits, IntKind.signed]; omega⟩
theorem inI64 {x : Int} (h0 : -1000000 ≤ x) (h1 : x ≤ 1000000) : InK .i64 x := ⟨show (-9223372036854775808 : Int) ≤ x by omega, show x ≤ (9223372036854775807 : Int) by omega⟩
theorem inU64 {x : Int} (h0 : 0 ≤ x) (h1 : x ≤ 18446744073709551615) : InK .u64 x := ⟨h0, h1⟩
theorem inU8 {x : Int} (h0 : 0 ≤ x) (h1 : x ≤ 255) : InK .u8 x := ⟨h0, h1⟩
theorem inU16 {x : Int} (h0 : 0 ≤ x) (h1 : x ≤ 65535) : InK .u16 x := ⟨h0, h1⟩
theorem ink80 : InK .u16 80 := ⟨by decide, by decide⟩
theorem ct_act {n tick : Int} (h0 : 0 ≤ n) (h1 : n ≤ 200000) (ht : InK .u64 tick) : Ct Tryz.prog 5 [.int .i64 n, .int .u64 tick].toArray [] (fun v M' => ∃ a : Act24, a.Wf ∧ v = .agg a.c ∧ M' = []) := by
  have e2 : n.tmod 2 = n % 2 := Int.tmod_eq_emod_of_nonneg h0
  have e5 : n.tmod 5 = n % 5 := Int.tmod_eq_emod_of_nonneg h0
  have e19 : n.tmod 19 = n % 19 := Int.tmod_eq_emod_of_nonneg h0
  have e29 : n.tmod 29 = n % 29 := Int.tmod_eq_emod_of_nonneg h0
  have e400 : n.tmod 400 = n % 400 := Int.tmod_eq_emod_of_nonneg h0
  have e13 : n.tmod 13 = n % 13 := Int.tmod_eq_emod_of_nonneg h0
  have e3 : n.tmod 3 = n % 3 := Int.tmod_eq_emod_of_nonneg h0
  have q5 : IntKind.i64.wrap (n.tdiv 5) = n / 5 := by rw [Int.tdiv_eq_ediv_of_nonneg h0]; exact IntWalk.i64_in _ (by omega)
  have q7 : IntKind.i64.wrap (n.tdiv 7) = n / 7 := by rw [Int.tdiv_eq_ediv_of_nonneg h0]; exact IntWalk.i64_in _ (by omega)
  have q26 : IntKind.i64.wrap ((n % 29).tdiv 26) = n % 29 / 26 := by rw [Int.tdiv_eq_ediv_of_nonneg (by omega)]; exact IntWalk.i64_in _ (by omega)
  have r10 : (n / 5).tmod 10 = n / 5 % 10 := Int.tmod_eq_emod_of_nonneg (by omega)
  have r8 : (n / 7).tmod 8 = n / 7 % 8 := Int.tmod_eq_emod_of_nonneg (by omega)
  have hdo : InK .i64 ((n / 5 % 10).tmod (6 + n % 29 / 26 * 3)) := by
    rw [Int.tmod_eq_emod_of_nonneg (by omega)]
    have a := Int.emod_nonneg (n / 5 % 10) (show (6 + n % 29 / 26 * 3 : Int) ≠ 0 by omega)
    have b := Int.emod_lt_of_pos (n / 5 % 10) (show (0 : Int) < 6 + n % 29 / 26 * 3 by omega)
    exact inI64 (by omega) (by omega)
  refine ct_body (rv := [.cell 4 33]) [(0, _), (1, _)] Tryz.func5 (by kernel_rfl) Tryz.ntmps5 Tryz.results5 rfl rfl (fun w0 => ?_)
  refine p_seq0 ?_
  refine p_plain0 (0 :: []) ?_
  refine go_s0 (some 4) (.alloc 33) 0 ?_
  refine os_allocA rfl ze33 (fun b4 => ?_)
  refine go_nil ?_
  change G _ _ _ _
  refine p_seq0 ?_
  refine p_plain0 (0 :: 1 :: 2 :: 3 :: 4 :: 5 :: 6 :: 7 :: 8 :: 9 :: 10 :: []) ?_
  refine go_q0 6 (.move (.tmp 0)) 3 (qv_move rfl) ?_
  refine go_q0 7 (.binOp .rem 3 (.tmp 6) (.const (.int .i64 2)) 3) 3 (qv_rem rfl rfl (by omega) (e2)) ?_
  refine go_q0 8 (.binOp .mul 3 (.const (.int .i64 11)) (.tmp 7) 3) 3 (qv_mul rfl rfl (by first | exact IntWalk.i64_in _ (by omega) | exact IntWalk.i64_in _ (by dsimp only; omega) | rfl)) ?_
  refine go_q0 9 (.binOp .add 3 (.const (.int .i64 6)) (.tmp 8) 3) 3 (qv_add rfl rfl (by first | exact IntWalk.i64_in _ (by omega) | exact IntWalk.i64_in _ (by dsimp only; omega) | rfl)) ?_
  refine go_q0 10 (.convert 3 5 (.tmp 9)) 5 (qv_conv un3 un5 rfl (by first | exact IntWalk.u8_in _ (by omega) | rfl)) ?_
  refine go_q0 11 (.move (.tmp 0)) 3 (qv_move rfl) ?_
  refine go_q0 12 (.binOp .rem 3 (.tmp 11) (.const (.int .i64 5)) 3) 3 (qv_rem rfl rfl (by omega) (e5)) ?_
  refine go_q0 13 (.convert 3 27 (.tmp 12)) 27 (qv_conv un3 un27 rfl (by first | exact IntWalk.u16_in _ (by omega) | rfl)) ?_
  refine go_q0 14 (.build 29 #[(2, .tmp 10), (3, .tmp 13), (4, .const (.int .u16 80))]) 29 (qv_build rfl (bld29_2_3_4 _ _ _)) ?_
  refine go_s0 (some 5) (.alloc 29) 0 ?_
  refine os_allocA rfl ze29 (fun b5 => ?_)
  refine go_s0 none (.store 29 (.tmp 5) (.tmp 14)) 0 ?_
  refine os_store rfl rfl sz29 rfl (one_Key _) .auto (Nat.le_of_ble_eq_true rfl) (splw_Key _ _ (siz_Key _)) ?_
  refine go_nil ?_
  change G _ _ _ _
  refine p_weaken [0, 1, 4, 5] rfl ?_
  refine p_seqJ (fun s => ∃ (k : Key), (k.Wf) ∧ Ge s ⟨[], [(0, .int .i64 n), (1, .int .u64 tick), (4, .pointer (some ⟨b4, 0, none⟩)), (5, .pointer (some ⟨b5, 0, none⟩))], [(b5, .cells k.c 29 (0, 0)), (b4, .cells (default : Act24).c 33 (0, 0))]⟩) (by kernel_rfl) ?_ ?_
  · refine p_seq0 ?_
    refine p_plain0 (0 :: 1 :: 2 :: []) ?_
    refine go_q0 15 (.move (.tmp 0)) 3 (qv_move rfl) ?_
    refine go_q0 16 (.binOp .rem 3 (.tmp 15) (.const (.int .i64 19)) 3) 3 (qv_rem rfl rfl (by omega) (e19)) ?_
    refine go_q0 17 (.binOp .eql 3 (.tmp 16) (.const (.int .i64 0)) 3) 4 (qv_eql rfl rfl rfl) ?_
    refine go_nil ?_
    change G _ _ _ _
    refine p_weaken [0, 1, 4, 5, 17] rfl ?_
    refine p_cond (.tmp 17) (by kernel_rfl) rfl (fun h17 => ?_) (fun h17 => ?_)
    rotate_left
    · replace h17 := kn h17
      have hkn : ({ zeroS.key with proto := 6 + 11 * (n % 2), srcPort := n % 5, dstPort := 80 } : Key).Wf := ⟨zeroS_wf.src_, zeroS_wf.dst_, inU8 (by show (0 : Int) ≤ 6 + 11 * (n % 2); omega) (by show 6 + 11 * (n % 2) ≤ 255; omega), inU16 (by show (0 : Int) ≤ n % 5; omega) (by show n % 5 ≤ 65535; omega), ink80⟩
      refine p_skip0 ?_
      exact ⟨_, hkn, ⟨rfl, ⟨[0, 1, 4, 5], rfl⟩, .auto⟩⟩
    replace h17 := kn h17
    have hkn : ({ zeroS.key with srcPort := 1 } : Key).Wf := ⟨zeroS_wf.src_, zeroS_wf.dst_, zeroS_wf.proto_, inU16 (by decide) (by decide), zeroS_wf.dstPort_⟩
    refine p_plain0 (0 :: 1 :: []) ?_
    refine go_q0 18 (.build 29 #[(3, .const (.int .u16 1))]) 29 (qv_build rfl (bld29_3 _)) ?_
    refine go_s0 none (.store 29 (.tmp 5) (.tmp 18)) 0 ?_
    refine os_store rfl rfl sz29 rfl (one_Key _) .auto (Nat.le_of_ble_eq_true rfl) (splw_Key _ _ (siz_Key _)) ?_
    refine go_nil ?_
    exact ⟨_, hkn, ⟨rfl, ⟨[0, 1, 4, 5], rfl⟩, .auto⟩⟩
  rintro s ⟨k, hk, hs⟩
  refine ge_ok hs ?_
  refine p_seq0 ?_
  refine p_draw (by kernel_rfl) mixed 25 26 _ (fun _ h => h) (by kernel_rfl) ?_
  refine gd_all (0 :: 1 :: 2 :: 3 :: 4 :: 5 :: 6 :: 7 :: 8 :: 9 :: 10 :: 11 :: 12 :: 13 :: 14 :: 15 :: 16 :: 17 :: 18 :: 19 :: 20 :: 21 :: 22 :: 23 :: 24 :: []) _ rfl (by kernel_rfl) (by decide) (fun _ h => h) rfl ?_
  refine sq_q0 19 (.move (.tmp 0)) 3 (qv_move rfl) ?_
  refine sq_q0 20 (.binOp .quo 3 (.tmp 19) (.const (.int .i64 5)) 3) 3 (qv_quo rfl rfl (by omega) (q5)) ?_
  refine sq_q0 21 (.binOp .rem 3 (.tmp 20) (.const (.int .i64 10)) 3) 3 (qv_rem rfl rfl (by omega) (r10)) ?_
  refine sq_q0 22 (.move (.tmp 0)) 3 (qv_move rfl) ?_
  refine sq_q0 23 (.binOp .rem 3 (.tmp 22) (.const (.int .i64 29)) 3) 3 (qv_rem rfl rfl (by omega) (e29)) ?_
  refine sq_q0 24 (.binOp .quo 3 (.tmp 23) (.const (.int .i64 26)) 3) 3 (qv_quo rfl rfl (by omega) (q26)) ?_
  refine sq_q0 25 (.binOp .mul 3 (.tmp 24) (.const (.int .i64 3)) 3) 3 (qv_mul rfl rfl (by first | exact IntWalk.i64_in _ (by omega) | exact IntWalk.i64_in _ (by dsimp only; omega) | rfl)) ?_
  refine sq_q0 26 (.binOp .add 3 (.const (.int .i64 6)) (.tmp 25) 3) 3 (qv_add rfl rfl (by first | exact IntWalk.i64_in _ (by omega) | exact IntWalk.i64_in _ (by dsimp only; omega) | rfl)) ?_
  refine sq_q0 27 (.binOp .rem 3 (.tmp 21) (.tmp 26) 3) 3 (qv_rem rfl rfl (by omega) (rfl)) ?_
  refine sq_q0 28 (.load 29 (.tmp 5)) 29 (qv_load rfl .auto (ldv_agg agg29 (extw_Key _) (Nat.le_of_ble_eq_true rfl))) ?_
  refine sq_q0 29 (.move (.tmp 0)) 3 (qv_move rfl) ?_
  refine sq_q0 30 (.binOp .rem 3 (.tmp 29) (.const (.int .i64 400)) 3) 3 (qv_rem rfl rfl (by omega) (e400)) ?_
  refine sq_q0 31 (.move (.tmp 0)) 3 (qv_move rfl) ?_
  refine sq_q0 32 (.binOp .quo 3 (.tmp 31) (.const (.int .i64 7)) 3) 3 (qv_quo rfl rfl (by omega) (q7)) ?_
  refine sq_q0 33 (.binOp .rem 3 (.tmp 32) (.const (.int .i64 8)) 3) 3 (qv_rem rfl rfl (by omega) (r8)) ?_
  refine sq_q0 34 (.binOp .shl 5 (.const (.int .u8 1)) (.tmp 33) 3) 5 (qv_shl rfl rfl (by omega) (rfl)) ?_
  refine sq_q0 35 (.move (.tmp 0)) 3 (qv_move rfl) ?_
  refine sq_q0 36 (.binOp .rem 3 (.tmp 35) (.const (.int .i64 13)) 3) 3 (qv_rem rfl rfl (by omega) (e13)) ?_
  refine sq_q0 37 (.binOp .eql 3 (.tmp 36) (.const (.int .i64 0)) 3) 4 (qv_eql rfl rfl rfl) ?_
  refine sq_q0 38 (.build 31 #[(0, .tmp 28), (1, .tmp 30), (2, .tmp 34), (3, .tmp 37)]) 31 (qv_build rfl (bld31_0_1_2_3 _ _ _ _)) ?_
  refine sq_q0 39 (.move (.tmp 0)) 3 (qv_move rfl) ?_
  refine sq_q0 40 (.binOp .rem 3 (.tmp 39) (.const (.int .i64 3)) 3) 3 (qv_rem rfl rfl (by omega) (e3)) ?_
  refine sq_q0 41 (.convert 3 5 (.tmp 40)) 5 (qv_conv un3 un5 rfl (by first | exact IntWalk.u8_in _ (by omega) | rfl)) ?_
  refine sq_q0 42 (.move (.tmp 1)) 23 (qv_move rfl) ?_
  refine sq_q0 43 (.build 33 #[(0, .tmp 27), (1, .tmp 38), (2, .tmp 41), (3, .tmp 42)]) 33 (qv_build rfl (bld33_0_1_2_3 _ _ _ _)) ?_
  refine SeqK.nil (fun β => ?_)
  refine gd_tail [25] rfl (by kernel_rfl) (by kernel_rfl) ?_
  refine go_s0 none (.store 33 (.tmp 4) (.tmp 43)) 0 ?_
  refine os_store rfl rfl sz33 rfl (one_Act24 _) .auto (Nat.le_of_ble_eq_true rfl) (splw_Act24 _ _ (siz_Act24 _)) ?_
  refine go_nil ?_
  change G _ _ _ _
  refine p_weaken [4] rfl ?_
  refine p_ret0 ?_
  try dsimp only [thenQ, inBlockQ]
  try rw [if_pos rfl]
  refine ret_left ([]) (.inr rfl) (.cons (res_cell rfl (At.mem .auto) (ldv_agg agg33 (extw_Act24 _) (Nat.le_of_ble_eq_true rfl))) .nil) .auto ?_
  exact ⟨_, ⟨hdo, ⟨hk, inI64 (by show (-1000000 : Int) ≤ n % 400; omega) (by show n % 400 ≤ 1000000; omega), wrap_u8 _⟩, inU8 (by show (0 : Int) ≤ n % 3; omega) (by show n % 3 ≤ 255; omega), ht⟩, rfl, rfl⟩
def edgeB : List Bnd := [⟨0, 0, 0, 0, 0⟩, ⟨1, 1, 1, 1, 0⟩, ⟨4097, 1, 1, 1, 1⟩, ⟨4096, 18446744073709551615, 18446744073709551615, 18446744073709551615, 18446744073709551615⟩, ⟨-9223372036854775808, 1, 1, 1, 1⟩, ⟨1, 2, 18446744073709551615, 9, 18446744073709551615⟩]
def bndOk (b : Bnd) : Bool := decide (-9223372036854775808 ≤ b.flows ∧ b.flows ≤ 9223372036854775807 ∧ 0 ≤ b.idle ∧ b.idle ≤ 18446744073709551615 ∧ 0 ≤ b.active ∧ b.active ≤ 18446744073709551615 ∧ 0 ≤ b.packets ∧ b.packets ≤ 18446744073709551615 ∧ 0 ≤ b.bytes ∧ b.bytes ≤ 18446744073709551615)
theorem bndOk_wf {b : Bnd} (h : bndOk b = true) : b.Wf := by
  obtain ⟨h1, h2, h3, h4, h5, h6, h7, h8, h9, h10⟩ := of_decide_eq_true h
  exact ⟨⟨h1, h2⟩, ⟨h3, h4⟩, ⟨h5, h6⟩, ⟨h7, h8⟩, ⟨h9, h10⟩⟩
theorem edge_wf : ∀ b ∈ edgeB, b.Wf := fun b hb => bndOk_wf ((by decide : ∀ b ∈ edgeB, bndOk b = true) b hb)
theorem advA_wf : (⟨5, (default : Act24).packet, 0, 18446744073709551615⟩ : Act24).Wf :=
  ⟨inI64 (by decide) (by decide), ⟨zeroS_wf, inI64 (by decide) (by decide), inU8 (by decide) (by decide)⟩, inU8 (by decide) (by decide), inU64 (by decide) (by decide)⟩
theorem pu_CacheKnown : Pu Tryz.prog 3 [] (.bool true) := by
  refine ct_body (rv := [.tmp 0]) [] Tryz.func3 (by kernel_rfl) Tryz.ntmps3 Tryz.results3 rfl rfl (fun w0 => ?_)
  refine p_seq0 ?_
  refine p_plain0 (0 :: []) ?_
  refine go_q0 0 (.assign (.const (.bool false))) 4 (qv_assign rfl) ?_
  refine go_nil ?_
  change G _ _ _ _
  refine p_seq0 ?_
  refine p_plain0 (0 :: []) ?_
  refine go_q0 1 (.assign (.const (.int .i64 1))) 3 (qv_assign rfl) ?_
  refine go_nil ?_
  change G _ _ _ _
  refine p_seq0 ?_
  refine p_seq0 ?_
  refine p_plain0 (0 :: []) ?_
  refine go_q0 2 (.assign (.const (.int .i64 0))) 3 (qv_assign rfl) ?_
  refine go_nil ?_
  change G _ _ _ _
  refine p_block 0 (by kernel_rfl) ?_
  refine p_loopE (by kernel_rfl) (fun s m => ∃ (n : Nat) (k : Int), (n ≤ 100) ∧ (0 ≤ k ∧ k < 100003) ∧ Ge s ⟨[], [(0, .bool false), (1, .int .i64 k), (2, .int .i64 n)], []⟩ ∧ m = 101 - n) ?_ ?_
  · exact ⟨_, ⟨0, 1, by omega, by omega, ⟨rfl, ⟨[0, 1, 2], rfl⟩, .auto⟩, rfl⟩⟩
  rintro s m ⟨n, k, hn, hk, hs, rfl⟩
  refine ge_ok hs ?_
  refine p_seq0 ?_
  refine p_seq0 ?_
  refine p_plain0 (0 :: 1 :: []) ?_
  refine go_q0 11 (.move (.tmp 2)) 3 (qv_move rfl) ?_
  refine go_q0 12 (.binOp .lss 3 (.tmp 11) (.const (.int .i64 100)) 3) 4 (qv_lss rfl rfl rfl) ?_
  refine go_nil ?_
  change G _ _ _ _
  refine p_weaken [0, 1, 2, 12] rfl ?_
  refine p_cond (.tmp 12) (by kernel_rfl) rfl (fun h12 => ?_) (fun h12 => ?_)
  rotate_left
  · replace h12 := kn h12
    refine p_exit 0 (by kernel_rfl) ?_
    change G _ _ _ _
    refine p_weaken [0] rfl ?_
    refine p_seq0 ?_
    refine p_plain0 (0 :: []) ?_
    refine go_q0 7 (.assign (.const (.int .u64 18446744073709551615))) 23 (qv_assign rfl) ?_
    refine go_nil ?_
    change G _ _ _ _
    refine p_seq0 ?_
    refine p_plain0 (0 :: 1 :: 2 :: 3 :: 4 :: 5 :: 6 :: 7 :: 8 :: 9 :: 10 :: 11 :: 12 :: 13 :: []) ?_
    refine go_q0 81 (.build 36 #[]) 36 (qv_build rfl (bld36_)) ?_
    refine go_q0 82 (.build 36 #[(0, .const (.int .i64 1)), (1, .const (.int .u64 1)), (2, .const (.int .u64 1)), (3, .const (.int .u64 1))]) 36 (qv_build rfl (bld36_0_1_2_3 _ _ _ _)) ?_
    refine go_q0 83 (.build 36 #[(0, .const (.int .i64 4097)), (1, .const (.int .u64 1)), (2, .const (.int .u64 1)), (3, .const (.int .u64 1)), (4, .const (.int .u64 1))]) 36 (qv_build rfl (bld36_0_1_2_3_4 _ _ _ _ _)) ?_
    refine go_q0 84 (.move (.tmp 7)) 23 (qv_move rfl) ?_
    refine go_q0 85 (.move (.tmp 7)) 23 (qv_move rfl) ?_
    refine go_q0 86 (.move (.tmp 7)) 23 (qv_move rfl) ?_
    refine go_q0 87 (.move (.tmp 7)) 23 (qv_move rfl) ?_
    refine go_q0 88 (.build 36 #[(0, .const (.int .i64 4096)), (1, .tmp 84), (2, .tmp 85), (3, .tmp 86), (4, .tmp 87)]) 36 (qv_build rfl (bld36_0_1_2_3_4 _ _ _ _ _)) ?_
    refine go_q0 89 (.build 36 #[(0, .const (.int .i64 (-9223372036854775808))), (1, .const (.int .u64 1)), (2, .const (.int .u64 1)), (3, .const (.int .u64 1)), (4, .const (.int .u64 1))]) 36 (qv_build rfl (bld36_0_1_2_3_4 _ _ _ _ _)) ?_
    refine go_q0 90 (.move (.tmp 7)) 23 (qv_move rfl) ?_
    refine go_q0 91 (.move (.tmp 7)) 23 (qv_move rfl) ?_
    refine go_q0 92 (.build 36 #[(0, .const (.int .i64 1)), (1, .const (.int .u64 2)), (2, .tmp 90), (3, .const (.int .u64 9)), (4, .tmp 91)]) 36 (qv_build rfl (bld36_0_1_2_3_4 _ _ _ _ _)) ?_
    refine go_s0 (some 93) (.buildSlice 40 6 #[(0, .tmp 81), (1, .tmp 82), (2, .tmp 83), (3, .tmp 88), (4, .tmp 89), (5, .tmp 92)]) 40 ?_
    refine os_buildSlice (Nat.le_of_ble_eq_true rfl) rfl (bls40_6 _ _ _ _ _ _) (fun b93 => ?_)
    have hE : Lst eBnd (some ⟨b93, 0, none⟩) edgeB [(b93, .cells (eBnd.flat edgeB).toArray 36 (0, 0))] := .inr ⟨b93, 0, _, _, _, rfl, List.mem_singleton.2 rfl, Holds.whole rfl⟩
    refine go_q0 8 (.assign (.tmp 93)) 40 (qv_assign rfl) ?_
    refine go_nil ?_
    change G _ _ _ _
    refine p_weaken [0, 7, 8] rfl ?_
    refine p_seq0 ?_
    refine p_seq0 ?_
    refine p_plain0 (0 :: []) ?_
    refine go_q0 9 (.assign (.const (.int .i64 0))) 3 (qv_assign rfl) ?_
    refine go_nil ?_
    change G _ _ _ _
    refine p_block 4 (by kernel_rfl) ?_
    refine p_loopE (by kernel_rfl) (fun s m => ∃ (i : Nat), (i ≤ 6) ∧ Ge s ⟨[], [(0, .bool false), (7, .int .u64 18446744073709551615), (8, .slice (some ⟨b93, 0, none⟩) 6 6), (9, .int .i64 i)], [(b93, .cells (eBnd.flat edgeB).toArray 36 (0, 0))]⟩ ∧ m = 7 - i) ?_ ?_
    · exact ⟨_, ⟨0, by omega, ⟨rfl, ⟨[0, 7, 8, 9], rfl⟩, .auto⟩, rfl⟩⟩
    rintro s m ⟨i, hi, hs, rfl⟩
    refine ge_ok hs ?_
    refine p_seq0 ?_
    refine p_seq0 ?_
    refine p_plain0 (0 :: 1 :: 2 :: 3 :: []) ?_
    refine go_q0 94 (.move (.tmp 9)) 3 (qv_move rfl) ?_
    refine go_q0 95 (.move (.tmp 8)) 40 (qv_move rfl) ?_
    refine go_q0 96 (.call { callee := .builtin .len, args := #[.tmp 95], argTypes := #[40] }) 3 (qv_lenS un40 rfl) ?_
    refine go_q0 97 (.binOp .lss 3 (.tmp 94) (.tmp 96) 3) 4 (qv_lss rfl rfl rfl) ?_
    refine go_nil ?_
    change G _ _ _ _
    refine p_weaken [0, 7, 8, 9, 97] rfl ?_
    refine p_cond (.tmp 97) (by kernel_rfl) rfl (fun h97 => ?_) (fun h97 => ?_)
    rotate_left
    · replace h97 := kn h97
      refine p_exit 4 (by kernel_rfl) ?_
      change G _ _ _ _
      refine p_weaken [0] rfl ?_
      refine p_seq0 ?_
      refine p_plain0 (0 :: 1 :: 2 :: 3 :: 4 :: 5 :: []) ?_
      refine go_s0 (some 141) (.call { callee := .value (.func 5), args := #[.const (.int .i64 1), .const (.int .u64 1)], argTypes := #[3, 23] }) 33 ?_
      refine os_call (Nat.le_of_ble_eq_true rfl) en5 rfl .auto (ct_act (n := 1) (tick := 1) (by decide) (by decide) (inU64 (by decide) (by decide))) ?_
      rintro v141 A141 ⟨a1, ha1, rfl, rfl⟩
      try dsimp only [List.nil_append, List.cons_append]
      refine go_s0 (some 142) (.call { callee := .value (.func 8), args := #[.tmp 141], argTypes := #[33] }) 4 ?_
      refine os_callP rfl en8 rfl (pu_CacheNone a1) ?_
      refine go_q0 143 (.move (.tmp 142)) 4 (qv_move rfl) ?_
      refine go_s (d := some 144) (op := .call { callee := .value (.func 9), args := #[], argTypes := #[] }) (ty := 4) (g := some (2, true)) (by kernel_rfl) ⟨143, by kernel_rfl, rfl⟩ ?_
      refine os_callP rfl en9 rfl (pu_works24) ?_
      refine go_q0 145 (.pick (.tmp 143) (.tmp 144) (.const (.bool false))) 4 (qv_pick_t rfl rfl) ?_
      refine go_q0 0 (.assign (.tmp 145)) 4 (qv_assign rfl) ?_
      refine go_nil ?_
      change G _ _ _ _
      refine p_weaken [0] rfl ?_
      refine p_ret0 ?_
      try dsimp only [thenQ, inBlockQ]
      try rw [if_pos rfl]
      refine ret_now (.inr rfl) (.cons (res_tmp rfl) .nil) (by repeat constructor) ?_
      exact ⟨rfl, rfl⟩
    replace h97 := kn h97
    refine p_skip0 ?_
    change G _ _ _ _
    refine p_weaken [0, 7, 8, 9] rfl ?_
    refine p_seq0 ?_
    refine p_block 5 (by kernel_rfl) ?_
    refine p_seq0 ?_
    obtain ⟨b, hb⟩ : ∃ b, edgeB[i]? = some b := ⟨_, List.getElem?_eq_getElem (show i < 6 by omega)⟩
    have hbw := edge_wf b (List.mem_of_getElem? hb)
    refine p_plain0 (0 :: 1 :: 2 :: 3 :: 4 :: 5 :: 6 :: 7 :: 8 :: 9 :: 10 :: 11 :: 12 :: 13 :: 14 :: []) ?_
    refine go_q0 100 (.move (.tmp 7)) 23 (qv_move rfl) ?_
    refine go_q0 101 (.binOp .sub 23 (.tmp 100) (.const (.int .u64 1)) 23) 23 (qv_sub rfl rfl (by first | exact IntWalk.u64_in _ (by omega) | exact IntWalk.u64_in _ (by dsimp only; omega) | rfl)) ?_
    refine go_s0 (some 102) (.call { callee := .value (.func 5), args := #[.const (.int .i64 10), .tmp 101], argTypes := #[3, 23] }) 33 ?_
    refine os_call (Nat.le_of_ble_eq_true rfl) en5 rfl .auto (ct_act (n := 10) (tick := 18446744073709551614) (by decide) (by decide) (inU64 (by decide) (by decide))) ?_
    rintro v102 A102 ⟨a1, ha1, rfl, rfl⟩
    try dsimp only [List.nil_append, List.cons_append]
    refine go_q0 103 (.move (.tmp 7)) 23 (qv_move rfl) ?_
    refine go_q0 104 (.binOp .sub 23 (.tmp 103) (.const (.int .u64 1)) 23) 23 (qv_sub rfl rfl (by first | exact IntWalk.u64_in _ (by omega) | exact IntWalk.u64_in _ (by dsimp only; omega) | rfl)) ?_
    refine go_s0 (some 105) (.call { callee := .value (.func 5), args := #[.const (.int .i64 11), .tmp 104], argTypes := #[3, 23] }) 33 ?_
    refine os_call (Nat.le_of_ble_eq_true rfl) en5 rfl .auto (ct_act (n := 11) (tick := 18446744073709551614) (by decide) (by decide) (inU64 (by decide) (by decide))) ?_
    rintro v105 A105 ⟨a2, ha2, rfl, rfl⟩
    try dsimp only [List.nil_append, List.cons_append]
    refine go_q0 106 (.move (.tmp 7)) 23 (qv_move rfl) ?_
    refine go_q0 107 (.build 33 #[(0, .const (.int .i64 5)), (3, .tmp 106)]) 33 (qv_build rfl (bld33_0_3 _ _)) ?_
    refine go_q0 108 (.move (.tmp 7)) 23 (qv_move rfl) ?_
    refine go_s0 (some 109) (.call { callee := .value (.func 5), args := #[.const (.int .i64 12), .tmp 108], argTypes := #[3, 23] }) 33 ?_
    refine os_call (Nat.le_of_ble_eq_true rfl) en5 rfl .auto (ct_act (n := 12) (tick := 18446744073709551615) (by decide) (by decide) (inU64 (by decide) (by decide))) ?_
    rintro v109 A109 ⟨a3, ha3, rfl, rfl⟩
    try dsimp only [List.nil_append, List.cons_append]
    refine go_s0 (some 110) (.call { callee := .value (.func 5), args := #[.const (.int .i64 10), .const (.int .u64 3)], argTypes := #[3, 23] }) 33 ?_
    refine os_call (Nat.le_of_ble_eq_true rfl) en5 rfl .auto (ct_act (n := 10) (tick := 3) (by decide) (by decide) (inU64 (by decide) (by decide))) ?_
    rintro v110 A110 ⟨a4, ha4, rfl, rfl⟩
    try dsimp only [List.nil_append, List.cons_append]
    refine go_q0 111 (.move (.tmp 7)) 23 (qv_move rfl) ?_
    refine go_q0 112 (.build 33 #[(0, .const (.int .i64 5)), (3, .tmp 111)]) 33 (qv_build rfl (bld33_0_3 _ _)) ?_
    refine go_s0 (some 113) (.buildSlice 22 6 #[(0, .tmp 102), (1, .tmp 105), (2, .tmp 107), (3, .tmp 109), (4, .tmp 110), (5, .tmp 112)]) 22 ?_
    refine os_buildSlice (Nat.le_of_ble_eq_true rfl) rfl (bls22_6 _ _ _ _ _ _) (fun b113 => ?_)
    obtain ⟨l, hl⟩ : ∃ l : List Act24, l = [a1, a2, ⟨5, (default : Act24).packet, 0, 18446744073709551615⟩, a3, a4, ⟨5, (default : Act24).packet, 0, 18446744073709551615⟩] := ⟨_, rfl⟩
    have hll : l.length = 6 := by rw [hl]; rfl
    have hlw : ∀ a ∈ l, a.Wf := by intro a ha; rw [hl] at ha; simp only [List.mem_cons, List.not_mem_nil, or_false] at ha; rcases ha with rfl | rfl | rfl | rfl | rfl | rfl; exact ha1; exact ha2; exact advA_wf; exact ha3; exact ha4; exact advA_wf
    have hL : Lst eAct24 (some ⟨b113, 0, none⟩) l [(b113, .cells (a1.c ++ a2.c ++ (⟨5, (default : Act24).packet, 0, 18446744073709551615⟩ : Act24).c ++ a3.c ++ a4.c ++ (⟨5, (default : Act24).packet, 0, 18446744073709551615⟩ : Act24).c) 33 (0, 0))] := .inr ⟨b113, 0, _, _, _, rfl, List.mem_singleton.2 rfl, Holds.whole (by rw [hl]; kernel_rfl)⟩
    have hP := ct_CachePlaysAll 18446744073709551613 b l _ _ 6 (inU64 (by decide) (by decide)) hbw hL hlw
    have hK := ct_CacheKeepsAll b l _ _ 6 hbw hL hlw
    have hTk := ct_CacheTicksAll b l 9 _ _ 6 hbw hL hlw (inU8 (by decide) (by decide))
    rw [hll] at hP hK hTk
    refine go_q0 10 (.assign (.tmp 113)) 22 (qv_assign rfl) ?_
    refine go_nil ?_
    change G _ _ _ _
    refine p_weaken [0, 7, 8, 9, 10] rfl ?_
    refine p_seq0 ?_
    refine p_plain0 (0 :: 1 :: 2 :: 3 :: 4 :: 5 :: 6 :: 7 :: 8 :: 9 :: 10 :: 11 :: 12 :: 13 :: 14 :: 15 :: 16 :: 17 :: 18 :: 19 :: 20 :: 21 :: 22 :: 23 :: 24 :: 25 :: 26 :: []) ?_
    refine go_q0 114 (.move (.tmp 7)) 23 (qv_move rfl) ?_
    refine go_q0 115 (.binOp .sub 23 (.tmp 114) (.const (.int .u64 2)) 23) 23 (qv_sub rfl rfl (by first | exact IntWalk.u64_in _ (by omega) | exact IntWalk.u64_in _ (by dsimp only; omega) | rfl)) ?_
    refine go_q0 116 (.move (.tmp 8)) 40 (qv_move rfl) ?_
    refine go_q0 117 (.move (.tmp 9)) 3 (qv_move rfl) ?_
    refine go_q0 118 (.indexAddr 40 (.tmp 116) (.tmp 117)) 0 (qv_index un40 sz36 rfl rfl rfl (by omega)) ?_
    refine go_q0 119 (.load 36 (.tmp 118)) 36 (qv_load rfl .auto (ldv_els (l := edgeB) (Holds.whole rfl) hb (by decide) agg36 rfl)) ?_
    refine go_q0 120 (.move (.tmp 10)) 22 (qv_move rfl) ?_
    refine go_s0 (some 121) (.call { callee := .value (.func 4), args := #[.tmp 115, .tmp 119, .tmp 120], argTypes := #[23, 36, 22] }) 4 ?_
    refine os_pv rfl (pv_callR en4 rfl .auto (hP)) ?_
    refine go_q0 122 (.unOp .not 4 (.tmp 121)) 4 (qv_not rfl) ?_
    refine go_q0 123 (.move (.tmp 122)) 4 (qv_move rfl) ?_
    refine go_q (d := 124) (op := .move (.tmp 8)) (ty := 40) (g := some (9, false)) (by kernel_rfl) ⟨123, by kernel_rfl, rfl⟩ rfl (qv_move rfl) ?_
    refine go_q (d := 125) (op := .move (.tmp 9)) (ty := 3) (g := some (9, false)) (by kernel_rfl) ⟨123, by kernel_rfl, rfl⟩ rfl (qv_move rfl) ?_
    refine go_q (d := 126) (op := .indexAddr 40 (.tmp 124) (.tmp 125)) (ty := 0) (g := some (9, false)) (by kernel_rfl) ⟨123, by kernel_rfl, rfl⟩ rfl (qv_index un40 sz36 rfl rfl rfl (by omega)) ?_
    refine go_q (d := 127) (op := .load 36 (.tmp 126)) (ty := 36) (g := some (9, false)) (by kernel_rfl) ⟨123, by kernel_rfl, rfl⟩ rfl (qv_load rfl .auto (ldv_els (l := edgeB) (Holds.whole rfl) hb (by decide) agg36 rfl)) ?_
    refine go_q (d := 128) (op := .move (.tmp 10)) (ty := 22) (g := some (9, false)) (by kernel_rfl) ⟨123, by kernel_rfl, rfl⟩ rfl (qv_move rfl) ?_
    refine go_s (d := some 129) (op := .call { callee := .value (.func 6), args := #[.tmp 127, .tmp 128], argTypes := #[36, 22] }) (ty := 4) (g := some (9, false)) (by kernel_rfl) ⟨123, by kernel_rfl, rfl⟩ ?_
    refine os_pv rfl (pv_callR en6 rfl .auto (hK)) ?_
    refine go_q (d := 130) (op := .unOp .not 4 (.tmp 129)) (ty := 4) (g := some (9, false)) (by kernel_rfl) ⟨123, by kernel_rfl, rfl⟩ rfl (qv_not rfl) ?_
    refine go_q0 131 (.pick (.tmp 123) (.const (.bool true)) (.tmp 130)) 4 (qv_pick_f rfl rfl) ?_
    refine go_q0 132 (.move (.tmp 131)) 4 (qv_move rfl) ?_
    refine go_q (d := 133) (op := .move (.tmp 8)) (ty := 40) (g := some (18, false)) (by kernel_rfl) ⟨132, by kernel_rfl, rfl⟩ rfl (qv_move rfl) ?_
    refine go_q (d := 134) (op := .move (.tmp 9)) (ty := 3) (g := some (18, false)) (by kernel_rfl) ⟨132, by kernel_rfl, rfl⟩ rfl (qv_move rfl) ?_
    refine go_q (d := 135) (op := .indexAddr 40 (.tmp 133) (.tmp 134)) (ty := 0) (g := some (18, false)) (by kernel_rfl) ⟨132, by kernel_rfl, rfl⟩ rfl (qv_index un40 sz36 rfl rfl rfl (by omega)) ?_
    refine go_q (d := 136) (op := .load 36 (.tmp 135)) (ty := 36) (g := some (18, false)) (by kernel_rfl) ⟨132, by kernel_rfl, rfl⟩ rfl (qv_load rfl .auto (ldv_els (l := edgeB) (Holds.whole rfl) hb (by decide) agg36 rfl)) ?_
    refine go_q (d := 137) (op := .move (.tmp 10)) (ty := 22) (g := some (18, false)) (by kernel_rfl) ⟨132, by kernel_rfl, rfl⟩ rfl (qv_move rfl) ?_
    refine go_s (d := some 138) (op := .call { callee := .value (.func 7), args := #[.tmp 136, .tmp 137, .const (.int .u8 9)], argTypes := #[36, 22, 5] }) (ty := 4) (g := some (18, false)) (by kernel_rfl) ⟨132, by kernel_rfl, rfl⟩ ?_
    refine os_pv rfl (pv_callR en7 rfl .auto (hTk)) ?_
    refine go_q (d := 139) (op := .unOp .not 4 (.tmp 138)) (ty := 4) (g := some (18, false)) (by kernel_rfl) ⟨132, by kernel_rfl, rfl⟩ rfl (qv_not rfl) ?_
    refine go_q0 140 (.pick (.tmp 132) (.const (.bool true)) (.tmp 139)) 4 (qv_pick_f rfl rfl) ?_
    refine go_nil ?_
    change G _ _ _ _
    refine p_weaken [0, 7, 8, 9, 140] rfl ?_
    refine p_condF (.tmp 140) (by kernel_rfl) rfl ?_
    refine p_skip0 ?_
    change G _ _ _ _
    refine p_weaken [0, 7, 8, 9] rfl ?_
    refine p_plain0 (0 :: 1 :: 2 :: []) ?_
    refine go_q0 98 (.move (.tmp 9)) 3 (qv_move rfl) ?_
    refine go_q0 99 (.binOp .add 3 (.tmp 98) (.const (.int .i64 1)) 3) 3 (qv_add rfl rfl (by first | exact IntWalk.i64_in _ (by omega) | exact IntWalk.i64_in _ (by dsimp only; omega) | rfl)) ?_
    refine go_q0 9 (.assign (.tmp 99)) 3 (qv_assign rfl) ?_
    refine go_nil ?_
    exact ⟨_, ⟨i + 1, by omega, ⟨rfl, ⟨[0, 7, 8, 9], rfl⟩, .auto⟩, rfl⟩, by omega⟩
  replace h12 := kn h12
  refine p_skip0 ?_
  change G _ _ _ _
  refine p_weaken [0, 1, 2] rfl ?_
  refine p_seq0 ?_
  refine p_block 1 (by kernel_rfl) ?_
  refine p_seq0 ?_
  refine p_plain0 (0 :: []) ?_
  refine go_q0 3 (.assign (.const (.slice none 0 0))) 22 (qv_assign rfl) ?_
  refine go_nil ?_
  change G _ _ _ _
  refine p_seq0 ?_
  refine p_plain0 (0 :: []) ?_
  refine go_q0 4 (.assign (.const (.int .u64 0))) 23 (qv_assign rfl) ?_
  refine go_nil ?_
  change G _ _ _ _
  refine p_seq0 ?_
  refine p_seq0 ?_
  refine p_plain0 (0 :: []) ?_
  refine go_q0 5 (.assign (.const (.int .i64 0))) 3 (qv_assign rfl) ?_
  refine go_nil ?_
  change G _ _ _ _
  refine p_block 2 (by kernel_rfl) ?_
  refine p_loopE (by kernel_rfl) (fun s m => ∃ (i : Nat) (k2 : Int) (l : List Act24) (T : Int) (p : Option Addr) (c : Nat) (A : Mem), (i ≤ 50) ∧ (0 ≤ k2 ∧ k2 < 100003) ∧ (l.length = i) ∧ (∀ a ∈ l, a.Wf) ∧ (0 ≤ T ∧ T ≤ 3 * (i : Int)) ∧ (OwnL eAct24 33 p c l A) ∧ Ge s ⟨[], [(0, .bool false), (1, .int .i64 k2), (2, .int .i64 n), (3, .slice p l.length c), (4, .int .u64 T), (5, .int .i64 i)], A⟩ ∧ m = 51 - i) ?_ ?_
  · exact ⟨_, ⟨0, k, [], 0, none, 0, [], by omega, hk, rfl, fun a ha => absurd ha List.not_mem_nil, by omega, OwnL.nil, ⟨rfl, ⟨[0, 1, 2, 3, 4, 5], rfl⟩, .auto⟩, rfl⟩⟩
  rintro s m ⟨i, k2, l, T, p, c, A, hi, hk2, hll, hlw, hT, hO, hs, rfl⟩
  refine ge_ok hs ?_
  refine p_seq0 ?_
  refine p_seq0 ?_
  refine p_plain0 (0 :: 1 :: []) ?_
  refine go_q0 15 (.move (.tmp 5)) 3 (qv_move rfl) ?_
  refine go_q0 16 (.binOp .lss 3 (.tmp 15) (.const (.int .i64 50)) 3) 4 (qv_lss rfl rfl rfl) ?_
  refine go_nil ?_
  change G _ _ _ _
  refine p_weaken [0, 1, 2, 3, 4, 5, 16] rfl ?_
  refine p_cond (.tmp 16) (by kernel_rfl) rfl (fun h16 => ?_) (fun h16 => ?_)
  · replace h16 := kn h16
    refine p_skip0 ?_
    change G _ _ _ _
    refine p_weaken [0, 1, 2, 3, 4, 5] rfl ?_
    refine p_seq0 ?_
    refine p_block 3 (by kernel_rfl) ?_
    refine p_seq0 ?_
    refine p_plain0 (0 :: 1 :: 2 :: 3 :: 4 :: 5 :: []) ?_
    refine go_q0 19 (.move (.tmp 4)) 23 (qv_move rfl) ?_
    refine go_q0 20 (.move (.tmp 1)) 3 (qv_move rfl) ?_
    refine go_q0 21 (.binOp .rem 3 (.tmp 20) (.const (.int .i64 4)) 3) 3 (qv_rem rfl rfl (by omega) ((Int.tmod_eq_emod_of_nonneg hk2.1 : k2.tmod 4 = k2 % 4))) ?_
    refine go_q0 22 (.convert 3 23 (.tmp 21)) 23 (qv_conv un3 un23 rfl (by first | exact IntWalk.u64_in _ (by omega) | rfl)) ?_
    refine go_q0 23 (.binOp .add 23 (.tmp 19) (.tmp 22) 23) 23 (qv_add rfl rfl (by first | exact IntWalk.u64_in _ (by omega) | exact IntWalk.u64_in _ (by dsimp only; omega) | rfl)) ?_
    refine go_q0 4 (.assign (.tmp 23)) 23 (qv_assign rfl) ?_
    refine go_nil ?_
    change G _ _ _ _
    refine p_weaken [0, 1, 2, 3, 4, 5] rfl ?_
    refine p_seq0 ?_
    have hTn : 0 ≤ T + k2 % 4 ∧ T + k2 % 4 ≤ 3 * ((i + 1 : Nat) : Int) := by omega
    refine p_plain0 (0 :: 1 :: 2 :: 3 :: 4 :: 5 :: 6 :: []) ?_
    refine go_q0 24 (.move (.tmp 3)) 22 (qv_move rfl) ?_
    refine go_q0 25 (.move (.tmp 1)) 3 (qv_move rfl) ?_
    refine go_q0 26 (.move (.tmp 4)) 23 (qv_move rfl) ?_
    refine go_s0 (some 27) (.call { callee := .value (.func 5), args := #[.tmp 25, .tmp 26], argTypes := #[3, 23] }) 33 ?_
    refine os_call (Nat.le_of_ble_eq_true rfl) en5 rfl .auto (ct_act (n := k2) (tick := T + k2 % 4) hk2.1 (by omega) (inU64 (by omega) (by omega))) ?_
    rintro v27 A27 ⟨a, haw, rfl, rfl⟩
    try dsimp only [List.nil_append, List.cons_append]
    refine go_s0 (some 28) (.buildSlice 22 1 #[(0, .tmp 27)]) 22 ?_
    refine os_buildSlice (Nat.le_of_ble_eq_true rfl) rfl (bls22_1 _) (fun b28 => ?_)
    refine go_s0 (some 29) (.call { callee := .builtin .append, args := #[.tmp 24, .tmp 28], argTypes := #[22, 22] }) 22 ?_
    refine os_appendK (E := eAct24) (l := l) (l2 := [a]) rfl el22 rfl rfl rfl rfl (hO) .auto .auto (Go.E.holds_one _) (one_Act24) (by simp [maxLen] <;> omega) (by simp <;> omega) (fun p29 c29 A29 h29 => ?_)
    have hlwn : ∀ x ∈ l ++ [a], x.Wf := fun x hx => by rcases List.mem_append.1 hx with h | h; exact hlw x h; rw [List.mem_singleton.1 h]; exact haw
    refine go_q0 3 (.assign (.tmp 29)) 22 (qv_assign rfl) ?_
    refine go_nil ?_
    change G _ _ _ _
    refine p_weaken [0, 1, 2, 3, 4, 5] rfl ?_
    have hk3 : 0 ≤ (k2 * 31 + 7 * i + 11) % 100003 ∧ (k2 * 31 + 7 * i + 11) % 100003 < 100003 := by omega
    refine p_plain0 (0 :: 1 :: 2 :: 3 :: 4 :: 5 :: 6 :: 7 :: []) ?_
    refine go_q0 30 (.move (.tmp 1)) 3 (qv_move rfl) ?_
    refine go_q0 31 (.binOp .mul 3 (.tmp 30) (.const (.int .i64 31)) 3) 3 (qv_mul rfl rfl (by first | exact IntWalk.i64_in _ (by omega) | exact IntWalk.i64_in _ (by dsimp only; omega) | rfl)) ?_
    refine go_q0 32 (.move (.tmp 5)) 3 (qv_move rfl) ?_
    refine go_q0 33 (.binOp .mul 3 (.const (.int .i64 7)) (.tmp 32) 3) 3 (qv_mul rfl rfl (by first | exact IntWalk.i64_in _ (by omega) | exact IntWalk.i64_in _ (by dsimp only; omega) | rfl)) ?_
    refine go_q0 34 (.binOp .add 3 (.tmp 31) (.tmp 33) 3) 3 (qv_add rfl rfl (by first | exact IntWalk.i64_in _ (by omega) | exact IntWalk.i64_in _ (by dsimp only; omega) | rfl)) ?_
    refine go_q0 35 (.binOp .add 3 (.tmp 34) (.const (.int .i64 11)) 3) 3 (qv_add rfl rfl (by first | exact IntWalk.i64_in _ (by omega) | exact IntWalk.i64_in _ (by dsimp only; omega) | rfl)) ?_
    refine go_q0 36 (.binOp .rem 3 (.tmp 35) (.const (.int .i64 100003)) 3) 3 (qv_rem rfl rfl (by omega) ((Int.tmod_eq_emod_of_nonneg (by omega) : (k2 * 31 + 7 * (i : Int) + 11).tmod 100003 = (k2 * 31 + 7 * i + 11) % 100003))) ?_
    refine go_q0 1 (.assign (.tmp 36)) 3 (qv_assign rfl) ?_
    refine go_nil ?_
    change G _ _ _ _
    refine p_weaken [0, 1, 2, 3, 4, 5] rfl ?_
    refine p_plain0 (0 :: 1 :: 2 :: []) ?_
    refine go_q0 17 (.move (.tmp 5)) 3 (qv_move rfl) ?_
    refine go_q0 18 (.binOp .add 3 (.tmp 17) (.const (.int .i64 1)) 3) 3 (qv_add rfl rfl (by first | exact IntWalk.i64_in _ (by omega) | exact IntWalk.i64_in _ (by dsimp only; omega) | rfl)) ?_
    refine go_q0 5 (.assign (.tmp 18)) 3 (qv_assign rfl) ?_
    refine go_nil ?_
    exact ⟨_, ⟨i + 1, _, _, _, _, _, _, by omega, hk3, by rw [List.length_append, hll]; rfl, hlwn, hTn, h29, ⟨rfl, ⟨[0, 1, 2, 3, 4, 5], rfl⟩, .auto⟩, rfl⟩, by omega⟩
  replace h16 := kn h16
  refine p_exit 2 (by kernel_rfl) ?_
  change G _ _ _ _
  refine p_weaken [0, 1, 2, 3] rfl ?_
  refine p_seq0 ?_
  refine p_plain0 (0 :: 1 :: 2 :: 3 :: 4 :: 5 :: 6 :: 7 :: 8 :: 9 :: 10 :: 11 :: 12 :: 13 :: 14 :: 15 :: 16 :: 17 :: 18 :: 19 :: 20 :: 21 :: 22 :: 23 :: []) ?_
  refine go_q0 37 (.move (.tmp 2)) 3 (qv_move rfl) ?_
  refine go_q0 38 (.binOp .rem 3 (.tmp 37) (.const (.int .i64 6)) 3) 3 (qv_rem rfl rfl (by omega) ((Int.tmod_eq_emod_of_nonneg (by omega) : (n : Int).tmod 6 = n % 6))) ?_
  refine go_q0 39 (.binOp .add 3 (.const (.int .i64 1)) (.tmp 38) 3) 3 (qv_add rfl rfl (by first | exact IntWalk.i64_in _ (by omega) | exact IntWalk.i64_in _ (by dsimp only; omega) | rfl)) ?_
  refine go_q0 40 (.move (.tmp 2)) 3 (qv_move rfl) ?_
  refine go_q0 41 (.binOp .rem 3 (.tmp 40) (.const (.int .i64 9)) 3) 3 (qv_rem rfl rfl (by omega) ((Int.tmod_eq_emod_of_nonneg (by omega) : (n : Int).tmod 9 = n % 9))) ?_
  refine go_q0 42 (.binOp .add 3 (.const (.int .i64 1)) (.tmp 41) 3) 3 (qv_add rfl rfl (by first | exact IntWalk.i64_in _ (by omega) | exact IntWalk.i64_in _ (by dsimp only; omega) | rfl)) ?_
  refine go_q0 43 (.convert 3 23 (.tmp 42)) 23 (qv_conv un3 un23 rfl (by first | exact IntWalk.u64_in _ (by omega) | rfl)) ?_
  refine go_q0 44 (.move (.tmp 2)) 3 (qv_move rfl) ?_
  refine go_q0 45 (.binOp .mul 3 (.tmp 44) (.const (.int .i64 3)) 3) 3 (qv_mul rfl rfl (by first | exact IntWalk.i64_in _ (by omega) | exact IntWalk.i64_in _ (by dsimp only; omega) | rfl)) ?_
  refine go_q0 46 (.binOp .rem 3 (.tmp 45) (.const (.int .i64 40)) 3) 3 (qv_rem rfl rfl (by omega) ((Int.tmod_eq_emod_of_nonneg (by omega) : ((n : Int) * 3).tmod 40 = n * 3 % 40))) ?_
  refine go_q0 47 (.binOp .add 3 (.const (.int .i64 1)) (.tmp 46) 3) 3 (qv_add rfl rfl (by first | exact IntWalk.i64_in _ (by omega) | exact IntWalk.i64_in _ (by dsimp only; omega) | rfl)) ?_
  refine go_q0 48 (.convert 3 23 (.tmp 47)) 23 (qv_conv un3 un23 rfl (by first | exact IntWalk.u64_in _ (by omega) | rfl)) ?_
  refine go_q0 49 (.move (.tmp 2)) 3 (qv_move rfl) ?_
  refine go_q0 50 (.binOp .rem 3 (.tmp 49) (.const (.int .i64 7)) 3) 3 (qv_rem rfl rfl (by omega) ((Int.tmod_eq_emod_of_nonneg (by omega) : (n : Int).tmod 7 = n % 7))) ?_
  refine go_q0 51 (.binOp .add 3 (.const (.int .i64 1)) (.tmp 50) 3) 3 (qv_add rfl rfl (by first | exact IntWalk.i64_in _ (by omega) | exact IntWalk.i64_in _ (by dsimp only; omega) | rfl)) ?_
  refine go_q0 52 (.convert 3 23 (.tmp 51)) 23 (qv_conv un3 un23 rfl (by first | exact IntWalk.u64_in _ (by omega) | rfl)) ?_
  refine go_q0 53 (.move (.tmp 2)) 3 (qv_move rfl) ?_
  refine go_q0 54 (.binOp .mul 3 (.tmp 53) (.const (.int .i64 37)) 3) 3 (qv_mul rfl rfl (by first | exact IntWalk.i64_in _ (by omega) | exact IntWalk.i64_in _ (by dsimp only; omega) | rfl)) ?_
  refine go_q0 55 (.binOp .rem 3 (.tmp 54) (.const (.int .i64 2000)) 3) 3 (qv_rem rfl rfl (by omega) ((Int.tmod_eq_emod_of_nonneg (by omega) : ((n : Int) * 37).tmod 2000 = n * 37 % 2000))) ?_
  refine go_q0 56 (.binOp .add 3 (.const (.int .i64 1)) (.tmp 55) 3) 3 (qv_add rfl rfl (by first | exact IntWalk.i64_in _ (by omega) | exact IntWalk.i64_in _ (by dsimp only; omega) | rfl)) ?_
  refine go_q0 57 (.convert 3 23 (.tmp 56)) 23 (qv_conv un3 un23 rfl (by first | exact IntWalk.u64_in _ (by omega) | rfl)) ?_
  refine go_q0 58 (.build 36 #[(0, .tmp 39), (1, .tmp 43), (2, .tmp 48), (3, .tmp 52), (4, .tmp 57)]) 36 (qv_build rfl (bld36_0_1_2_3_4 _ _ _ _ _)) ?_
  refine go_s0 (some 6) (.alloc 36) 0 ?_
  refine os_allocA rfl ze36 (fun b6 => ?_)
  refine go_s0 none (.store 36 (.tmp 6) (.tmp 58)) 0 ?_
  refine os_store rfl rfl sz36 rfl (one_Bnd _) .auto (Nat.le_of_ble_eq_true rfl) (splw_Bnd _ _ (siz_Bnd _)) ?_
  refine go_nil ?_
  change G _ _ _ _
  refine p_weaken [0, 1, 2, 3, 6] rfl ?_
  refine p_seq0 ?_
  have hbw : (⟨1 + (n : Int) % 6, 1 + (n : Int) % 9, 1 + (n : Int) * 3 % 40, 1 + (n : Int) % 7, 1 + (n : Int) * 37 % 2000⟩ : Bnd).Wf := ⟨inI64 (by show (-1000000 : Int) ≤ 1 + (n : Int) % 6; omega) (by show 1 + (n : Int) % 6 ≤ 1000000; omega), inU64 (by show (0 : Int) ≤ 1 + (n : Int) % 9; omega) (by show 1 + (n : Int) % 9 ≤ 18446744073709551615; omega), inU64 (by show (0 : Int) ≤ 1 + (n : Int) * 3 % 40; omega) (by show 1 + (n : Int) * 3 % 40 ≤ 18446744073709551615; omega), inU64 (by show (0 : Int) ≤ 1 + (n : Int) % 7; omega) (by show 1 + (n : Int) % 7 ≤ 18446744073709551615; omega), inU64 (by show (0 : Int) ≤ 1 + (n : Int) * 37 % 2000; omega) (by show 1 + (n : Int) * 37 % 2000 ≤ 18446744073709551615; omega)⟩
  have hl50 : l.length = 50 := by omega
  have ht20 : (l.take 20).length = 20 := by rw [List.length_take]; omega
  have hcap := hO.len_cap
  have hP := ct_CachePlaysAll ((n : Int) % 3) _ l A p c (inU64 (by omega) (by omega)) hbw hO.lst hlw
  have hK := ct_CacheKeepsAll _ l A p c hbw hO.lst hlw
  have hTk := ct_CacheTicksAll _ (l.take 20) (n : Int) A p c hbw (hO.cut 20).lst (fun a ha => hlw a (List.mem_of_mem_take ha)) (inU8 (by omega) (by omega))
  rw [ht20] at hTk
  refine p_draw (by kernel_rfl) mixed 22 22 _ (fun _ h => h) (by kernel_rfl) ?_
  refine gd_all (0 :: 1 :: 2 :: 3 :: 4 :: 5 :: 6 :: 7 :: 8 :: 9 :: 10 :: 11 :: 12 :: 13 :: 14 :: 15 :: 16 :: 17 :: 18 :: 19 :: 20 :: 21 :: []) _ rfl (by kernel_rfl) (by decide) (fun _ h => h) rfl ?_
  refine sq_q0 59 (.move (.tmp 2)) 3 (qv_move rfl) ?_
  refine sq_q0 60 (.binOp .rem 3 (.tmp 59) (.const (.int .i64 3)) 3) 3 (qv_rem rfl rfl (by omega) ((Int.tmod_eq_emod_of_nonneg (by omega) : (n : Int).tmod 3 = n % 3))) ?_
  refine sq_q0 61 (.convert 3 23 (.tmp 60)) 23 (qv_conv un3 un23 rfl (by first | exact IntWalk.u64_in _ (by omega) | rfl)) ?_
  refine sq_q0 62 (.load 36 (.tmp 6)) 36 (qv_load rfl .auto (ldv_agg agg36 (extw_Bnd _) (Nat.le_of_ble_eq_true rfl))) ?_
  refine sq_q0 63 (.move (.tmp 3)) 22 (qv_move rfl) ?_
  refine sq_p (d := 64) (op := .call { callee := .value (.func 4), args := #[.tmp 61, .tmp 62, .tmp 63], argTypes := #[23, 36, 22] }) (ty := 4) (g := none) (by kernel_rfl) trivial (pv_callR en4 rfl .auto (hP)) ?_
  refine sq_q0 65 (.unOp .not 4 (.tmp 64)) 4 (qv_not rfl) ?_
  refine sq_q0 66 (.move (.tmp 65)) 4 (qv_move rfl) ?_
  refine sq_q (d := 67) (op := .load 36 (.tmp 6)) (ty := 36) (g := some (7, false)) (by kernel_rfl) ⟨66, by kernel_rfl, rfl⟩ (fun _ h => nomatch h) (qv_load rfl .auto (ldv_agg agg36 (extw_Bnd _) (Nat.le_of_ble_eq_true rfl))) ?_
  refine sq_q (d := 68) (op := .move (.tmp 3)) (ty := 22) (g := some (7, false)) (by kernel_rfl) ⟨66, by kernel_rfl, rfl⟩ (fun _ h => nomatch h) (qv_move rfl) ?_
  refine sq_p (d := 69) (op := .call { callee := .value (.func 6), args := #[.tmp 67, .tmp 68], argTypes := #[36, 22] }) (ty := 4) (g := some (7, false)) (by kernel_rfl) ⟨66, by kernel_rfl, rfl⟩ (pv_callR en6 rfl .auto (hK)) ?_
  refine sq_q (d := 70) (op := .unOp .not 4 (.tmp 69)) (ty := 4) (g := some (7, false)) (by kernel_rfl) ⟨66, by kernel_rfl, rfl⟩ (fun _ h => nomatch h) (qv_not rfl) ?_
  refine sq_q0 71 (.pick (.tmp 66) (.const (.bool true)) (.tmp 70)) 4 (qv_pick_f rfl rfl) ?_
  refine sq_q0 72 (.move (.tmp 71)) 4 (qv_move rfl) ?_
  refine sq_q (d := 73) (op := .load 36 (.tmp 6)) (ty := 36) (g := some (13, false)) (by kernel_rfl) ⟨72, by kernel_rfl, rfl⟩ (fun _ h => nomatch h) (qv_load rfl .auto (ldv_agg agg36 (extw_Bnd _) (Nat.le_of_ble_eq_true rfl))) ?_
  refine sq_q (d := 74) (op := .move (.tmp 3)) (ty := 22) (g := some (13, false)) (by kernel_rfl) ⟨72, by kernel_rfl, rfl⟩ (fun _ h => nomatch h) (qv_move rfl) ?_
  refine sq_q (d := 75) (op := .slice 22 (.tmp 74) none (some (.const (.int .i64 20))) none) (ty := 22) (g := some (13, false)) (by kernel_rfl) ⟨72, by kernel_rfl, rfl⟩ (fun _ h => nomatch h) (qv_cutO (h := 20) hO un22 sz33 rfl rfl rfl (by omega)) ?_
  refine sq_q (d := 76) (op := .move (.tmp 2)) (ty := 3) (g := some (13, false)) (by kernel_rfl) ⟨72, by kernel_rfl, rfl⟩ (fun _ h => nomatch h) (qv_move rfl) ?_
  refine sq_q (d := 77) (op := .convert 3 5 (.tmp 76)) (ty := 5) (g := some (13, false)) (by kernel_rfl) ⟨72, by kernel_rfl, rfl⟩ (fun _ h => nomatch h) (qv_conv un3 un5 rfl (by first | exact IntWalk.u8_in _ (by omega) | rfl)) ?_
  refine sq_p (d := 78) (op := .call { callee := .value (.func 7), args := #[.tmp 73, .tmp 75, .tmp 77], argTypes := #[36, 22, 5] }) (ty := 4) (g := some (13, false)) (by kernel_rfl) ⟨72, by kernel_rfl, rfl⟩ (pv_callR en7 rfl .auto (hTk)) ?_
  refine sq_q (d := 79) (op := .unOp .not 4 (.tmp 78)) (ty := 4) (g := some (13, false)) (by kernel_rfl) ⟨72, by kernel_rfl, rfl⟩ (fun _ h => nomatch h) (qv_not rfl) ?_
  refine sq_q0 80 (.pick (.tmp 72) (.const (.bool true)) (.tmp 79)) 4 (qv_pick_f rfl rfl) ?_
  refine SeqK.nil (fun β => ?_)
  refine gd_tail [] rfl (by kernel_rfl) (by kernel_rfl) ?_
  refine go_nil ?_
  change G _ _ _ _
  refine p_weaken [0, 1, 2, 80] rfl ?_
  refine p_condF (.tmp 80) (by kernel_rfl) rfl ?_
  refine p_skip0 ?_
  change G _ _ _ _
  refine p_weaken [0, 1, 2] rfl ?_
  refine p_plain0 (0 :: 1 :: 2 :: []) ?_
  refine go_q0 13 (.move (.tmp 2)) 3 (qv_move rfl) ?_
  refine go_q0 14 (.binOp .add 3 (.tmp 13) (.const (.int .i64 1)) 3) 3 (qv_add rfl rfl (by first | exact IntWalk.i64_in _ (by omega) | exact IntWalk.i64_in _ (by dsimp only; omega) | rfl)) ?_
  refine go_q0 2 (.assign (.tmp 14)) 3 (qv_assign rfl) ?_
  refine go_nil ?_
  exact ⟨_, ⟨n + 1, _, by omega, hk2, ⟨rfl, ⟨[0, 1, 2], rfl⟩, .auto⟩, rfl⟩, by omega⟩
end Go.Proofs.YtobmcpoejhhemaaGreat
