/- The law TableKnown: the walk. -/
import Derived.Test.YtobmcpoejhhemaaPlays
import Derived.Test.YtobmcpoejhhemaaKeepsW
namespace Go.Proofs.Ytobmcpoejhhemaa
open Go.E

theorem keyN_wf2 (n : Int) : (keyN n).Wf := by
  refine ⟨⟨⟨ink10, z8, z8, z8, z8, z8, z8, z8, z8, z8, z8, z8, z8, z8, z8, z8⟩⟩, zeroS_wf.dst_, ink17, ?_, ink53⟩
  show InK .u16 (IntKind.u16.wrap n)
  have : IntKind.u16.wrap n = n % 65536 := by simp [IntKind.wrap, IntKind.bits, IntKind.signed]
  rw [this]
  exact ⟨Int.emod_nonneg _ (by decide), by have := Int.emod_lt_of_pos n (show (0 : Int) < 65536 by decide); simp [IntKind.max, IntKind.bits, IntKind.signed]; omega⟩
theorem ink1 : InK .u8 1 := ⟨by decide, by decide⟩
/-- A key whose byte 9 is written over. -/
def key9 (k : Key) : Key := { k with src := { k.src with b := { k.src.b with x9 := 1 } } }
theorem key9_wf {k : Key} (h : k.Wf) : (key9 k).Wf := by
  obtain ⟨⟨⟨h0, h1, h2, h3, h4, h5, h6, h7, h8, h9, h10, h11, h12, h13, h14, h15⟩⟩, hd, hp, hs, hq⟩ := h
  exact ⟨⟨⟨h0, h1, h2, h3, h4, h5, h6, h7, h8, ink1, h10, h11, h12, h13, h14, h15⟩⟩, hd, hp, hs, hq⟩
def ActOk (a : Act23) : Prop := a.k.Wf
theorem plays1 (z : Int) {acts : List Act23} {M : Mem} {p : Option Addr} {c : Nat} (h : Lst eAct23 p acts M) (hw : ∀ a ∈ acts, ActOk a) :
    Ct Try.prog 8 [.int .i64 z, .slice p acts.length c].toArray M (fun v M' => v = .bool true ∧ M' = M) := by
  cases hz : okSize z with
  | false => exact ct_TablePlaysBad z acts M p c hz
  | true =>
    obtain ⟨n, rfl⟩ : ∃ n : Nat, z = n := ⟨z.toNat, by have := (okSize_pos hz).1; omega⟩
    exact ct_TablePlays n acts M p c hz h hw
theorem keeps1 (z : Int) {acts : List Act23} {M : Mem} {p : Option Addr} {c : Nat} (h : Lst eAct23 p acts M) (hw : ∀ a ∈ acts, ActOk a) :
    Ct Try.prog 6 [.int .i64 z, .slice p acts.length c].toArray M (fun v M' => v = .bool true ∧ M' = M) := by
  cases hz : okSize z with
  | false => exact ct_TableKeepsBad z acts M p c hz
  | true =>
    obtain ⟨n, rfl⟩ : ∃ n : Nat, z = n := ⟨z.toNat, by have := (okSize_pos hz).1; omega⟩
    exact ct_TableKeeps n acts M p c hz h hw
theorem plays0 (z : Int) : Pu Try.prog 8 [.int .i64 z, .slice none 0 0] (.bool true) := plays1 z (acts := []) (.inl rfl) (by simp)
def sizes8 : List Int := [1, 2, 4, 8, 16, 32, 64, 3]
theorem mem_app1 {acts l : List Act23} (h : ∀ a ∈ acts, ActOk a) (hl : ∀ a ∈ l, ActOk a) : ∀ a ∈ acts ++ l, ActOk a := fun a ha => by
  rcases List.mem_append.1 ha with h1 | h1
  · exact h a h1
  · exact hl a h1

theorem pu_TableKnown : Pu Try.prog 10 [] (.bool true) := by
  refine ct_body (rv := [.tmp 0]) [] Try.func10 (by kernel_rfl) Try.ntmps10 Try.results10 rfl rfl (fun w0 => ?_)
  refine p_seq0 ?_
  refine p_plain0 (0 :: []) ?_
  refine go_q0 0 (.assign (.const (.bool false))) 4 (qv_assign rfl) ?_
  refine go_nil ?_
  change G _ _ _ _
  refine p_seq0 ?_
  refine p_seq0 ?_
  refine p_plain0 (0 :: []) ?_
  refine go_q0 1 (.assign (.const (.int .i64 0))) 3 (qv_assign rfl) ?_
  refine go_nil ?_
  change G _ _ _ _
  refine p_block 0 (by kernel_rfl) ?_
  refine p_loopE (by kernel_rfl) (fun s m => ∃ (i : Nat), (i ≤ 40) ∧ Ge s ⟨[], [(1, .int .i64 i)], []⟩ ∧ m = 41 - i) ?_ ?_
  · exact ⟨_, ⟨0, by omega, ⟨rfl, ⟨[1], rfl⟩, .auto⟩, rfl⟩⟩
  rintro s m ⟨i, hi, hs, rfl⟩
  refine ge_ok hs ?_
  refine p_seq0 ?_
  refine p_seq0 ?_
  refine p_plain0 (0 :: 1 :: []) ?_
  refine go_q0 10 (.move (.tmp 1)) 3 (qv_move rfl) ?_
  refine go_q0 11 (.binOp .lss 3 (.tmp 10) (.const (.int .i64 40)) 3) 4 (qv_lss rfl rfl rfl) ?_
  refine go_nil ?_
  change G _ _ _ _
  refine p_weaken [1, 11] rfl ?_
  refine p_cond (.tmp 11) (by kernel_rfl) rfl (fun h11 => ?_) (fun h11 => ?_)
  rotate_left
  · replace h11 := kn h11
    refine p_exit 0 (by kernel_rfl) ?_
    change G _ _ _ _
    refine p_weaken [] rfl ?_
    refine p_seq0 ?_
    refine p_plain0 (0 :: 1 :: 2 :: 3 :: 4 :: 5 :: 6 :: 7 :: 8 :: 9 :: 10 :: []) ?_
    refine go_s0 (some 125) (.call { callee := .value (.func 8), args := #[.const (.int .i64 (-4)), .const (.slice none 0 0)], argTypes := #[3, 82] }) 4 ?_
    refine os_callP rfl en8 rfl (plays0 (-4)) ?_
    refine go_q0 126 (.move (.tmp 125)) 4 (qv_move rfl) ?_
    refine go_s (d := some 127) (op := .call { callee := .value (.func 8), args := #[.const (.int .i64 131072), .const (.slice none 0 0)], argTypes := #[3, 82] }) (ty := 4) (g := some (1, true)) (by kernel_rfl) ⟨126, by kernel_rfl, rfl⟩ ?_
    refine os_callP rfl en8 rfl (plays0 131072) ?_
    refine go_q0 128 (.pick (.tmp 126) (.tmp 127) (.const (.bool false))) 4 (qv_pick_t rfl rfl) ?_
    refine go_q0 129 (.move (.tmp 128)) 4 (qv_move rfl) ?_
    refine go_s (d := some 130) (op := .call { callee := .value (.func 8), args := #[.const (.int .i64 65537), .const (.slice none 0 0)], argTypes := #[3, 82] }) (ty := 4) (g := some (4, true)) (by kernel_rfl) ⟨129, by kernel_rfl, rfl⟩ ?_
    refine os_callP rfl en8 rfl (plays0 65537) ?_
    refine go_q0 131 (.pick (.tmp 129) (.tmp 130) (.const (.bool false))) 4 (qv_pick_t rfl rfl) ?_
    refine go_q0 132 (.move (.tmp 131)) 4 (qv_move rfl) ?_
    refine go_s (d := some 133) (op := .call { callee := .value (.func 38), args := #[], argTypes := #[] }) (ty := 4) (g := some (7, true)) (by kernel_rfl) ⟨132, by kernel_rfl, rfl⟩ ?_
    refine os_callP rfl en38 rfl (pu_works23) ?_
    refine go_q0 134 (.pick (.tmp 132) (.tmp 133) (.const (.bool false))) 4 (qv_pick_t rfl rfl) ?_
    refine go_q0 0 (.assign (.tmp 134)) 4 (qv_assign rfl) ?_
    refine go_nil ?_
    change G _ _ _ _
    refine p_weaken [0] rfl ?_
    refine p_ret0 ?_
    try dsimp only [thenQ, inBlockQ]
    try rw [if_pos rfl]
    refine ret_now (.inr rfl) (.cons (res_tmp rfl) .nil) (by repeat constructor) ?_
    exact ⟨rfl, rfl⟩
  replace h11 := kn h11
  refine p_skip0 ?_
  change G _ _ _ _
  refine p_weaken [1] rfl ?_
  refine p_seq0 ?_
  refine p_block 1 (by kernel_rfl) ?_
  refine p_seq0 ?_
  refine p_plain0 (0 :: []) ?_
  refine go_q0 2 (.assign (.const (.slice none 0 0))) 82 (qv_assign rfl) ?_
  refine go_nil ?_
  change G _ _ _ _
  refine p_seq0 ?_
  refine p_plain0 (0 :: 1 :: []) ?_
  refine go_q0 14 (.move (.tmp 1)) 3 (qv_move rfl) ?_
  refine go_q0 3 (.assign (.tmp 14)) 3 (qv_assign rfl) ?_
  refine go_nil ?_
  change G _ _ _ _
  refine p_weaken [1, 2, 3] rfl ?_
  refine p_seq0 ?_
  refine p_seq0 ?_
  refine p_plain0 (0 :: []) ?_
  refine go_q0 4 (.assign (.const (.int .i64 0))) 3 (qv_assign rfl) ?_
  refine go_nil ?_
  change G _ _ _ _
  refine p_block 2 (by kernel_rfl) ?_
  refine p_loopE (by kernel_rfl) (fun s m => ∃ (q : Nat) (k : Nat) (acts : List Act23) (p : Option Addr) (c : Nat) (A : Mem), (q ≤ 50) ∧ (k ≤ 100003) ∧ (acts.length = q) ∧ (∀ a ∈ acts, ActOk a) ∧ (OwnL eAct23 88 p c acts A) ∧ Ge s ⟨[], [(1, .int .i64 i), (2, .slice p acts.length c), (3, .int .i64 k), (4, .int .i64 q)], A⟩ ∧ m = 51 - q) ?_ ?_
  · exact ⟨_, ⟨0, i, [], none, 0, [], by omega, by omega, rfl, by simp, OwnL.nil, ⟨rfl, ⟨[1, 2, 3, 4], rfl⟩, .auto⟩, rfl⟩⟩
  rintro s m ⟨q, k, acts, p, c, A, hq, hk, hal, haw, hA, hs, rfl⟩
  refine ge_ok hs ?_
  refine p_seq0 ?_
  refine p_seq0 ?_
  refine p_plain0 (0 :: 1 :: []) ?_
  refine go_q0 15 (.move (.tmp 4)) 3 (qv_move rfl) ?_
  refine go_q0 16 (.binOp .lss 3 (.tmp 15) (.const (.int .i64 50)) 3) 4 (qv_lss rfl rfl rfl) ?_
  refine go_nil ?_
  change G _ _ _ _
  refine p_weaken [1, 2, 3, 4, 16] rfl ?_
  refine p_cond (.tmp 16) (by kernel_rfl) rfl (fun h16 => ?_) (fun h16 => ?_)
  · replace h16 := kn h16
    refine p_skip0 ?_
    change G _ _ _ _
    refine p_weaken [1, 2, 3, 4] rfl ?_
    refine p_seq0 ?_
    refine p_block 3 (by kernel_rfl) ?_
    refine p_seq0 ?_
    refine p_plain0 (0 :: 1 :: 2 :: 3 :: 4 :: 5 :: 6 :: 7 :: []) ?_
    refine go_q0 19 (.move (.tmp 3)) 3 (qv_move rfl) ?_
    refine go_q0 20 (.binOp .quo 3 (.tmp 19) (.const (.int .i64 8)) 3) 3 (qv_quo rfl rfl (by omega) ((by rw [Int.tdiv_eq_ediv_of_nonneg (by omega)]; exact IntWalk.i64_in _ (by omega) : IntKind.i64.wrap ((k : Int).tdiv 8) = ((k / 8 : Nat) : Int)))) ?_
    refine go_q0 21 (.move (.tmp 1)) 3 (qv_move rfl) ?_
    refine go_q0 22 (.binOp .add 3 (.const (.int .i64 5)) (.tmp 21) 3) 3 (qv_add rfl rfl (by first | exact IntWalk.i64_in _ (by omega) | exact IntWalk.i64_in _ (by dsimp only; omega) | rfl)) ?_
    refine go_q0 23 (.binOp .rem 3 (.tmp 20) (.tmp 22) 3) 3 (qv_rem rfl rfl (by omega) ((by rw [Int.tmod_eq_emod_of_nonneg (by omega)] : ((k / 8 : Nat) : Int).tmod (5 + (i : Int)) = ((k / 8 : Nat) : Int) % (5 + (i : Int))))) ?_
    refine go_s0 (some 24) (.call { callee := .value (.func 69), args := #[.tmp 23], argTypes := #[3] }) 27 ?_
    refine os_callP rfl en69 rfl (pu_key (((k / 8 : Nat) : Int) % (5 + (i : Int)))) ?_
    refine go_s0 (some 5) (.alloc 27) 0 ?_
    refine os_allocA rfl ze27 (fun b5 => ?_)
    refine go_s0 none (.store 27 (.tmp 5) (.tmp 24)) 0 ?_
    refine os_store rfl rfl sz27 rfl (one_Key _) .auto (Nat.le_of_ble_eq_true rfl) (splw_Key _ _ (siz_Key _)) ?_
    refine go_nil ?_
    change G _ _ _ _
    refine p_weaken [1, 2, 3, 4, 5] rfl ?_
    refine p_seqK [1, 2, 3, 4, 5] rfl (fun frk Mk s => ∃ (y : Key), (y.Wf) ∧ Ge s ⟨[], frk, (b5, .cells y.c 27 (0, 0)) :: A⟩) (by kernel_rfl) ?_ ?_
    · refine p_seq0 ?_
      refine p_plain0 (0 :: 1 :: 2 :: []) ?_
      refine go_q0 25 (.move (.tmp 3)) 3 (qv_move rfl) ?_
      refine go_q0 26 (.binOp .rem 3 (.tmp 25) (.const (.int .i64 41)) 3) 3 (qv_rem rfl rfl (by omega) ((by rw [Int.tmod_eq_emod_of_nonneg (by omega)] : (k : Int).tmod 41 = (k : Int) % 41))) ?_
      refine go_q0 27 (.binOp .eql 3 (.tmp 26) (.const (.int .i64 0)) 3) 4 (qv_eql rfl rfl rfl) ?_
      refine go_nil ?_
      change G _ _ _ _
      refine p_weaken [1, 2, 3, 4, 5, 27] rfl ?_
      refine p_cond (.tmp 27) (by kernel_rfl) rfl (fun h27 => ?_) (fun h27 => ?_)
      rotate_left
      · replace h27 := kn h27
        have hyn := keyN_wf2 (((k / 8 : Nat) : Int) % (5 + (i : Int)))
        refine p_skip0 ?_
        exact ⟨_, hyn, ⟨rfl, ⟨[1, 2, 3, 4, 5], rfl⟩, .auto⟩⟩
      replace h27 := kn h27
      have hyn := key9_wf (keyN_wf2 (((k / 8 : Nat) : Int) % (5 + (i : Int))))
      refine p_plain0 (0 :: 1 :: 2 :: 3 :: []) ?_
      refine go_q0 28 (.fieldAddr 27 (.tmp 5) 0) 0 (qv_field rfl fd27_0) ?_
      refine go_q0 29 (.fieldAddr 24 (.tmp 28) 1) 0 (qv_field rfl fd24_1) ?_
      refine go_q0 30 (.indexAddr 22 (.tmp 29) (.const (.int .i64 9))) 0 (qv_indexA un22 sz5 rfl rfl (j := 9) rfl (by decide)) ?_
      refine go_s0 none (.store 5 (.tmp 30) (.const (.int .u8 1))) 0 ?_
      refine os_store1 (cs' := (key9 (keyN (((k / 8 : Nat) : Int) % (5 + (i : Int))))).c) rfl rfl sz5 rfl rfl .auto (Nat.le_of_ble_eq_true rfl) (by kernel_rfl) ?_
      refine go_nil ?_
      exact ⟨_, hyn, ⟨rfl, ⟨[1, 2, 3, 4, 5], rfl⟩, .auto⟩⟩
    rintro s ⟨y, hyw, hs⟩
    refine ge_ok hs ?_
    refine p_seq0 ?_
    refine p_plain0 (0 :: 1 :: 2 :: 3 :: 4 :: 5 :: 6 :: 7 :: 8 :: 9 :: 10 :: []) ?_
    refine go_q0 31 (.move (.tmp 2)) 82 (qv_move rfl) ?_
    refine go_q0 32 (.move (.tmp 3)) 3 (qv_move rfl) ?_
    refine go_q0 33 (.binOp .rem 3 (.tmp 32) (.const (.int .i64 8)) 3) 3 (qv_rem rfl rfl (by omega) (rfl)) ?_
    refine go_q0 34 (.load 27 (.tmp 5)) 27 (qv_load rfl .auto (ldv_agg agg27 (extw_Key _) (Nat.le_of_ble_eq_true rfl))) ?_
    refine go_q0 35 (.move (.tmp 3)) 3 (qv_move rfl) ?_
    refine go_q0 36 (.binOp .rem 3 (.tmp 35) (.const (.int .i64 50)) 3) 3 (qv_rem rfl rfl (by omega) (rfl)) ?_
    refine go_q0 37 (.convert 3 30 (.tmp 36)) 30 (qv_conv un3 un30 rfl (rfl)) ?_
    refine go_q0 38 (.build 88 #[(0, .tmp 33), (1, .tmp 34), (2, .tmp 37)]) 88 (qv_build rfl (bld88_0_1_2 _ _ _)) ?_
    refine go_s0 (some 39) (.buildSlice 82 1 #[(0, .tmp 38)]) 82 ?_
    refine os_buildSlice (Nat.le_of_ble_eq_true rfl) rfl (bls82_1 _) (fun b39 => ?_)
    refine go_s0 (some 40) (.call { callee := .builtin .append, args := #[.tmp 31, .tmp 39], argTypes := #[82, 82] }) 82 ?_
    refine os_appendK (E := eAct23) (l := acts) (l2 := [(⟨(k : Int).tmod 8, y, IntKind.u64.wrap ((k : Int).tmod 50)⟩ : Act23)]) rfl el82 rfl rfl rfl rfl (hA) .auto .auto (Go.E.holds_one _) (one_Act23) (by simp [maxLen] <;> omega) (by simp <;> omega) (fun p40 c40 A40 h40 => ?_)
    refine go_q0 2 (.assign (.tmp 40)) 82 (qv_assign rfl) ?_
    refine go_nil ?_
    change G _ _ _ _
    refine p_weaken [1, 2, 3, 4] rfl ?_
    refine p_plain0 (0 :: 1 :: 2 :: 3 :: 4 :: 5 :: 6 :: 7 :: []) ?_
    refine go_q0 41 (.move (.tmp 3)) 3 (qv_move rfl) ?_
    refine go_q0 42 (.binOp .mul 3 (.tmp 41) (.const (.int .i64 31)) 3) 3 (qv_mul rfl rfl (by first | exact IntWalk.i64_in _ (by omega) | exact IntWalk.i64_in _ (by dsimp only; omega) | rfl)) ?_
    refine go_q0 43 (.move (.tmp 4)) 3 (qv_move rfl) ?_
    refine go_q0 44 (.binOp .mul 3 (.const (.int .i64 7)) (.tmp 43) 3) 3 (qv_mul rfl rfl (by first | exact IntWalk.i64_in _ (by omega) | exact IntWalk.i64_in _ (by dsimp only; omega) | rfl)) ?_
    refine go_q0 45 (.binOp .add 3 (.tmp 42) (.tmp 44) 3) 3 (qv_add rfl rfl (by first | exact IntWalk.i64_in _ (by omega) | exact IntWalk.i64_in _ (by dsimp only; omega) | rfl)) ?_
    refine go_q0 46 (.binOp .add 3 (.tmp 45) (.const (.int .i64 11)) 3) 3 (qv_add rfl rfl (by first | exact IntWalk.i64_in _ (by omega) | exact IntWalk.i64_in _ (by dsimp only; omega) | rfl)) ?_
    refine go_q0 47 (.binOp .rem 3 (.tmp 46) (.const (.int .i64 100003)) 3) 3 (qv_rem rfl rfl (by omega) ((by rw [Int.tmod_eq_emod_of_nonneg (by omega)]; omega : ((k : Int) * 31 + 7 * (q : Int) + 11).tmod 100003 = (((k * 31 + 7 * q + 11) % 100003 : Nat) : Int)))) ?_
    refine go_q0 3 (.assign (.tmp 47)) 3 (qv_assign rfl) ?_
    refine go_nil ?_
    change G _ _ _ _
    refine p_weaken [1, 2, 3, 4] rfl ?_
    refine p_plain0 (0 :: 1 :: 2 :: []) ?_
    refine go_q0 17 (.move (.tmp 4)) 3 (qv_move rfl) ?_
    refine go_q0 18 (.binOp .add 3 (.tmp 17) (.const (.int .i64 1)) 3) 3 (qv_add rfl rfl (by first | exact IntWalk.i64_in _ (by omega) | exact IntWalk.i64_in _ (by dsimp only; omega) | rfl)) ?_
    refine go_q0 4 (.assign (.tmp 18)) 3 (qv_assign rfl) ?_
    refine go_nil ?_
    exact ⟨_, ⟨q + 1, (k * 31 + 7 * q + 11) % 100003, _, _, _, _, by omega, by omega, by simp [hal], mem_app1 haw (by simp only [List.mem_singleton, forall_eq]; exact hyw), h40, ⟨rfl, ⟨[1, 2, 3, 4], rfl⟩, .auto⟩, rfl⟩, by omega⟩
  replace h16 := kn h16
  refine p_exit 2 (by kernel_rfl) ?_
  change G _ _ _ _
  refine p_weaken [1, 2] rfl ?_
  refine p_seq0 ?_
  have hq50 : q = 50 := by omega
  subst hq50
  obtain ⟨z, hz8⟩ : ∃ z, sizes8[i % 8]? = some z := ⟨_, List.getElem?_eq_getElem (by simp [sizes8]; omega)⟩
  obtain ⟨a, hai⟩ : ∃ a, acts[i]? = some a := ⟨_, List.getElem?_eq_getElem (by omega)⟩
  have hAl := hA.lst
  obtain ⟨b, cur, rfl, rfl, _, _, _, H⟩ := hA.some_ (by omega)
  refine p_plain0 (0 :: 1 :: 2 :: 3 :: 4 :: 5 :: []) ?_
  refine go_s0 (some 48) (.buildSlice 89 8 #[(0, .const (.int .i64 1)), (1, .const (.int .i64 2)), (2, .const (.int .i64 4)), (3, .const (.int .i64 8)), (4, .const (.int .i64 16)), (5, .const (.int .i64 32)), (6, .const (.int .i64 64)), (7, .const (.int .i64 3))]) 89 ?_
  refine os_buildSlice (Nat.le_of_ble_eq_true rfl) rfl (bls89_8 _ _ _ _ _ _ _ _) (fun b48 => ?_)
  refine go_q0 49 (.move (.tmp 1)) 3 (qv_move rfl) ?_
  refine go_q0 50 (.binOp .rem 3 (.tmp 49) (.const (.int .i64 8)) 3) 3 (qv_rem rfl rfl (by omega) ((by rw [Int.tmod_eq_emod_of_nonneg (by omega)]; omega : (i : Int).tmod 8 = ((i % 8 : Nat) : Int)))) ?_
  refine go_q0 51 (.indexAddr 89 (.tmp 48) (.tmp 50)) 0 (qv_index un89 sz3 rfl rfl rfl (by omega)) ?_
  refine go_q0 52 (.load 3 (.tmp 51)) 3 (qv_load rfl .auto (ldv_el (E := eI .i64) (l := sizes8) (Holds.whole rfl) hz8 sc3 (k := 0) rfl rfl)) ?_
  refine go_q0 6 (.assign (.tmp 52)) 3 (qv_assign rfl) ?_
  refine go_nil ?_
  change G _ _ _ _
  refine p_weaken [1, 2, 6] rfl ?_
  refine p_seq0 ?_
  refine p_seq0 ?_
  refine p_plain0 (0 :: 1 :: 2 :: 3 :: 4 :: 5 :: 6 :: 7 :: 8 :: 9 :: 10 :: 11 :: 12 :: 13 :: 14 :: 15 :: 16 :: 17 :: 18 :: []) ?_
  refine go_q0 53 (.move (.tmp 6)) 3 (qv_move rfl) ?_
  refine go_q0 54 (.move (.tmp 2)) 82 (qv_move rfl) ?_
  refine go_s0 (some 55) (.call { callee := .value (.func 8), args := #[.tmp 53, .tmp 54], argTypes := #[3, 82] }) 4 ?_
  refine os_pv rfl (pv_callR en8 rfl .auto (plays1 z (c := c) hAl haw)) ?_
  refine go_q0 56 (.unOp .not 4 (.tmp 55)) 4 (qv_not rfl) ?_
  refine go_q0 57 (.move (.tmp 56)) 4 (qv_move rfl) ?_
  refine go_q (d := 58) (op := .move (.tmp 6)) (ty := 3) (g := some (4, false)) (by kernel_rfl) ⟨57, by kernel_rfl, rfl⟩ rfl (qv_move rfl) ?_
  refine go_q (d := 59) (op := .move (.tmp 2)) (ty := 82) (g := some (4, false)) (by kernel_rfl) ⟨57, by kernel_rfl, rfl⟩ rfl (qv_move rfl) ?_
  refine go_s (d := some 60) (op := .call { callee := .value (.func 6), args := #[.tmp 58, .tmp 59], argTypes := #[3, 82] }) (ty := 4) (g := some (4, false)) (by kernel_rfl) ⟨57, by kernel_rfl, rfl⟩ ?_
  refine os_pv rfl (pv_callR en6 rfl .auto (keeps1 z (c := c) hAl haw)) ?_
  refine go_q (d := 61) (op := .unOp .not 4 (.tmp 60)) (ty := 4) (g := some (4, false)) (by kernel_rfl) ⟨57, by kernel_rfl, rfl⟩ rfl (qv_not rfl) ?_
  refine go_q0 62 (.pick (.tmp 57) (.const (.bool true)) (.tmp 61)) 4 (qv_pick_f rfl rfl) ?_
  refine go_q0 63 (.move (.tmp 62)) 4 (qv_move rfl) ?_
  refine go_q (d := 64) (op := .move (.tmp 2)) (ty := 82) (g := some (10, false)) (by kernel_rfl) ⟨63, by kernel_rfl, rfl⟩ rfl (qv_move rfl) ?_
  refine go_q (d := 65) (op := .move (.tmp 1)) (ty := 3) (g := some (10, false)) (by kernel_rfl) ⟨63, by kernel_rfl, rfl⟩ rfl (qv_move rfl) ?_
  refine go_q (d := 66) (op := .indexAddr 82 (.tmp 64) (.tmp 65)) (ty := 0) (g := some (10, false)) (by kernel_rfl) ⟨63, by kernel_rfl, rfl⟩ rfl (qv_index un82 sz88 rfl rfl rfl (by omega)) ?_
  refine go_q (d := 67) (op := .fieldAddr 88 (.tmp 66) 1) (ty := 0) (g := some (10, false)) (by kernel_rfl) ⟨63, by kernel_rfl, rfl⟩ rfl (qv_field rfl fd88_1) ?_
  refine go_q (d := 68) (op := .load 27 (.tmp 67)) (ty := 27) (g := some (10, false)) (by kernel_rfl) ⟨63, by kernel_rfl, rfl⟩ rfl (qv_load rfl .auto (ldv_elp H hai agg27 (ext_Act23_1_37 a) (by decide) (by decide) rfl)) ?_
  refine go_s (d := some 69) (op := .call { callee := .value (.func 9), args := #[.tmp 68, .const (.int .u64 5)], argTypes := #[27, 30] }) (ty := 4) (g := some (10, false)) (by kernel_rfl) ⟨63, by kernel_rfl, rfl⟩ ?_
  refine os_callP rfl en9 rfl (pu_TableNone a.k 5) ?_
  refine go_q (d := 70) (op := .unOp .not 4 (.tmp 69)) (ty := 4) (g := some (10, false)) (by kernel_rfl) ⟨63, by kernel_rfl, rfl⟩ rfl (qv_not rfl) ?_
  refine go_q0 71 (.pick (.tmp 63) (.const (.bool true)) (.tmp 70)) 4 (qv_pick_f rfl rfl) ?_
  refine go_nil ?_
  change G _ _ _ _
  refine p_weaken [1, 71] rfl ?_
  refine p_condF (.tmp 71) (by kernel_rfl) rfl ?_
  refine p_skip0 ?_
  change G _ _ _ _
  refine p_weaken [1] rfl ?_
  refine p_seq0 ?_
  refine p_plain0 (0 :: []) ?_
  refine go_q0 7 (.assign (.const (.slice none 0 0))) 82 (qv_assign rfl) ?_
  refine go_nil ?_
  change G _ _ _ _
  refine p_seq0 ?_
  refine p_seq0 ?_
  refine p_plain0 (0 :: []) ?_
  refine go_q0 8 (.assign (.const (.int .i64 0))) 3 (qv_assign rfl) ?_
  refine go_nil ?_
  change G _ _ _ _
  refine p_block 4 (by kernel_rfl) ?_
  refine p_loopE (by kernel_rfl) (fun s m => ∃ (q : Nat) (acts : List Act23) (p : Option Addr) (c : Nat) (A : Mem), (q ≤ 20) ∧ (acts.length = q) ∧ (∀ a ∈ acts, ActOk a) ∧ (OwnL eAct23 88 p c acts A) ∧ Ge s ⟨[], [(1, .int .i64 i), (7, .slice p acts.length c), (8, .int .i64 q)], A⟩ ∧ m = 21 - q) ?_ ?_
  · exact ⟨_, ⟨0, [], none, 0, [], by omega, rfl, by simp, OwnL.nil, ⟨rfl, ⟨[1, 7, 8], rfl⟩, .auto⟩, rfl⟩⟩
  rintro s m ⟨q, acts, p, c, A, hq, hal, haw, hA, hs, rfl⟩
  refine ge_ok hs ?_
  refine p_seq0 ?_
  refine p_seq0 ?_
  refine p_plain0 (0 :: 1 :: []) ?_
  refine go_q0 72 (.move (.tmp 8)) 3 (qv_move rfl) ?_
  refine go_q0 73 (.binOp .lss 3 (.tmp 72) (.const (.int .i64 20)) 3) 4 (qv_lss rfl rfl rfl) ?_
  refine go_nil ?_
  change G _ _ _ _
  refine p_weaken [1, 7, 8, 73] rfl ?_
  refine p_cond (.tmp 73) (by kernel_rfl) rfl (fun h73 => ?_) (fun h73 => ?_)
  · replace h73 := kn h73
    refine p_skip0 ?_
    change G _ _ _ _
    refine p_weaken [1, 7, 8] rfl ?_
    refine p_seq0 ?_
    refine p_block 5 (by kernel_rfl) ?_
    refine p_plain0 (0 :: 1 :: 2 :: 3 :: 4 :: 5 :: 6 :: 7 :: 8 :: 9 :: 10 :: 11 :: []) ?_
    refine go_q0 76 (.move (.tmp 7)) 82 (qv_move rfl) ?_
    refine go_q0 77 (.move (.tmp 1)) 3 (qv_move rfl) ?_
    refine go_q0 78 (.binOp .mul 3 (.tmp 77) (.const (.int .i64 20)) 3) 3 (qv_mul rfl rfl (by first | exact IntWalk.i64_in _ (by omega) | exact IntWalk.i64_in _ (by dsimp only; omega) | rfl)) ?_
    refine go_q0 79 (.move (.tmp 8)) 3 (qv_move rfl) ?_
    refine go_q0 80 (.binOp .add 3 (.tmp 78) (.tmp 79) 3) 3 (qv_add rfl rfl (by first | exact IntWalk.i64_in _ (by omega) | exact IntWalk.i64_in _ (by dsimp only; omega) | rfl)) ?_
    refine go_s0 (some 81) (.call { callee := .value (.func 69), args := #[.tmp 80], argTypes := #[3] }) 27 ?_
    refine os_callP rfl en69 rfl (pu_key ((i : Int) * 20 + q)) ?_
    refine go_q0 82 (.move (.tmp 8)) 3 (qv_move rfl) ?_
    refine go_q0 83 (.convert 3 30 (.tmp 82)) 30 (qv_conv un3 un30 rfl (by first | exact IntWalk.u64_in _ (by omega) | rfl)) ?_
    refine go_q0 84 (.build 88 #[(0, .const (.int .i64 0)), (1, .tmp 81), (2, .tmp 83)]) 88 (qv_build rfl (bld88_0_1_2 _ _ _)) ?_
    refine go_s0 (some 85) (.buildSlice 82 1 #[(0, .tmp 84)]) 82 ?_
    refine os_buildSlice (Nat.le_of_ble_eq_true rfl) rfl (bls82_1 _) (fun b85 => ?_)
    refine go_s0 (some 86) (.call { callee := .builtin .append, args := #[.tmp 76, .tmp 85], argTypes := #[82, 82] }) 82 ?_
    refine os_appendK (E := eAct23) (l := acts) (l2 := [(⟨0, keyN ((i : Int) * 20 + q), q⟩ : Act23)]) rfl el82 rfl rfl rfl rfl (hA) .auto .auto (Go.E.holds_one _) (one_Act23) (by simp [maxLen] <;> omega) (by simp <;> omega) (fun p86 c86 A86 h86 => ?_)
    refine go_q0 7 (.assign (.tmp 86)) 82 (qv_assign rfl) ?_
    refine go_nil ?_
    change G _ _ _ _
    refine p_weaken [1, 7, 8] rfl ?_
    refine p_plain0 (0 :: 1 :: 2 :: []) ?_
    refine go_q0 74 (.move (.tmp 8)) 3 (qv_move rfl) ?_
    refine go_q0 75 (.binOp .add 3 (.tmp 74) (.const (.int .i64 1)) 3) 3 (qv_add rfl rfl (by first | exact IntWalk.i64_in _ (by omega) | exact IntWalk.i64_in _ (by dsimp only; omega) | rfl)) ?_
    refine go_q0 8 (.assign (.tmp 75)) 3 (qv_assign rfl) ?_
    refine go_nil ?_
    exact ⟨_, ⟨q + 1, _, _, _, _, by omega, by simp [hal], mem_app1 haw (by simp only [List.mem_singleton, forall_eq]; exact keyN_wf2 _), h86, ⟨rfl, ⟨[1, 7, 8], rfl⟩, .auto⟩, rfl⟩, by omega⟩
  replace h73 := kn h73
  refine p_exit 4 (by kernel_rfl) ?_
  change G _ _ _ _
  refine p_weaken [1, 7] rfl ?_
  refine p_seq0 ?_
  refine p_seq0 ?_
  refine p_plain0 (0 :: []) ?_
  refine go_q0 9 (.assign (.const (.int .i64 0))) 3 (qv_assign rfl) ?_
  refine go_nil ?_
  change G _ _ _ _
  refine p_block 6 (by kernel_rfl) ?_
  refine p_loopE (by kernel_rfl) (fun s m => ∃ (q : Nat) (acts : List Act23) (p : Option Addr) (c : Nat) (A : Mem), (q ≤ 20) ∧ (acts.length = 20 + 2 * q) ∧ (∀ a ∈ acts, ActOk a) ∧ (OwnL eAct23 88 p c acts A) ∧ Ge s ⟨[], [(1, .int .i64 i), (7, .slice p acts.length c), (9, .int .i64 q)], A⟩ ∧ m = 21 - q) ?_ ?_
  · exact ⟨_, ⟨0, acts, p, c, A, by omega, by omega, haw, hA, ⟨rfl, ⟨[1, 7, 9], rfl⟩, .auto⟩, rfl⟩⟩
  rintro s m ⟨q, acts, p, c, A, hq, hal, haw, hA, hs, rfl⟩
  refine ge_ok hs ?_
  refine p_seq0 ?_
  refine p_seq0 ?_
  refine p_plain0 (0 :: 1 :: []) ?_
  refine go_q0 87 (.move (.tmp 9)) 3 (qv_move rfl) ?_
  refine go_q0 88 (.binOp .lss 3 (.tmp 87) (.const (.int .i64 20)) 3) 4 (qv_lss rfl rfl rfl) ?_
  refine go_nil ?_
  change G _ _ _ _
  refine p_weaken [1, 7, 9, 88] rfl ?_
  refine p_cond (.tmp 88) (by kernel_rfl) rfl (fun h88 => ?_) (fun h88 => ?_)
  · replace h88 := kn h88
    refine p_skip0 ?_
    change G _ _ _ _
    refine p_weaken [1, 7, 9] rfl ?_
    refine p_seq0 ?_
    refine p_block 7 (by kernel_rfl) ?_
    refine p_plain0 (0 :: 1 :: 2 :: 3 :: 4 :: 5 :: 6 :: 7 :: 8 :: 9 :: 10 :: 11 :: 12 :: 13 :: 14 :: 15 :: 16 :: []) ?_
    refine go_q0 91 (.move (.tmp 7)) 82 (qv_move rfl) ?_
    refine go_q0 92 (.move (.tmp 1)) 3 (qv_move rfl) ?_
    refine go_q0 93 (.binOp .mul 3 (.tmp 92) (.const (.int .i64 20)) 3) 3 (qv_mul rfl rfl (by first | exact IntWalk.i64_in _ (by omega) | exact IntWalk.i64_in _ (by dsimp only; omega) | rfl)) ?_
    refine go_q0 94 (.move (.tmp 9)) 3 (qv_move rfl) ?_
    refine go_q0 95 (.binOp .mul 3 (.tmp 94) (.const (.int .i64 7)) 3) 3 (qv_mul rfl rfl (by first | exact IntWalk.i64_in _ (by omega) | exact IntWalk.i64_in _ (by dsimp only; omega) | rfl)) ?_
    refine go_q0 96 (.binOp .rem 3 (.tmp 95) (.const (.int .i64 20)) 3) 3 (qv_rem rfl rfl (by omega) ((by rw [Int.tmod_eq_emod_of_nonneg (by omega)] : ((q : Int) * 7).tmod 20 = ((q : Int) * 7) % 20))) ?_
    refine go_q0 97 (.binOp .add 3 (.tmp 93) (.tmp 96) 3) 3 (qv_add rfl rfl (by first | exact IntWalk.i64_in _ (by omega) | exact IntWalk.i64_in _ (by dsimp only; omega) | rfl)) ?_
    refine go_s0 (some 98) (.call { callee := .value (.func 69), args := #[.tmp 97], argTypes := #[3] }) 27 ?_
    refine os_callP rfl en69 rfl (pu_key ((i : Int) * 20 + ((q : Int) * 7) % 20)) ?_
    refine go_q0 99 (.build 88 #[(0, .const (.int .i64 4)), (1, .tmp 98), (2, .const (.int .u64 0))]) 88 (qv_build rfl (bld88_0_1_2 _ _ _)) ?_
    refine go_q0 100 (.move (.tmp 1)) 3 (qv_move rfl) ?_
    refine go_q0 101 (.move (.tmp 9)) 3 (qv_move rfl) ?_
    refine go_q0 102 (.binOp .add 3 (.tmp 100) (.tmp 101) 3) 3 (qv_add rfl rfl (by first | exact IntWalk.i64_in _ (by omega) | exact IntWalk.i64_in _ (by dsimp only; omega) | rfl)) ?_
    refine go_s0 (some 103) (.call { callee := .value (.func 69), args := #[.tmp 102], argTypes := #[3] }) 27 ?_
    refine os_callP rfl en69 rfl (pu_key ((i : Int) + q)) ?_
    refine go_q0 104 (.build 88 #[(0, .const (.int .i64 0)), (1, .tmp 103), (2, .const (.int .u64 1))]) 88 (qv_build rfl (bld88_0_1_2 _ _ _)) ?_
    refine go_s0 (some 105) (.buildSlice 82 2 #[(0, .tmp 99), (1, .tmp 104)]) 82 ?_
    refine os_buildSlice (Nat.le_of_ble_eq_true rfl) rfl (bls82_2 _ _) (fun b105 => ?_)
    refine go_s0 (some 106) (.call { callee := .builtin .append, args := #[.tmp 91, .tmp 105], argTypes := #[82, 82] }) 82 ?_
    refine os_appendK (E := eAct23) (l := acts) (l2 := [(⟨4, keyN ((i : Int) * 20 + ((q : Int) * 7) % 20), 0⟩ : Act23), (⟨0, keyN ((i : Int) + q), 1⟩ : Act23)]) rfl el82 rfl rfl rfl rfl (hA) .auto .auto (Holds.whole (by simp [Enc.flat, eAct23])) (one_Act23) (by simp [maxLen] <;> omega) (by simp <;> omega) (fun p106 c106 A106 h106 => ?_)
    refine go_q0 7 (.assign (.tmp 106)) 82 (qv_assign rfl) ?_
    refine go_nil ?_
    change G _ _ _ _
    refine p_weaken [1, 7, 9] rfl ?_
    refine p_plain0 (0 :: 1 :: 2 :: []) ?_
    refine go_q0 89 (.move (.tmp 9)) 3 (qv_move rfl) ?_
    refine go_q0 90 (.binOp .add 3 (.tmp 89) (.const (.int .i64 1)) 3) 3 (qv_add rfl rfl (by first | exact IntWalk.i64_in _ (by omega) | exact IntWalk.i64_in _ (by dsimp only; omega) | rfl)) ?_
    refine go_q0 9 (.assign (.tmp 90)) 3 (qv_assign rfl) ?_
    refine go_nil ?_
    exact ⟨_, ⟨q + 1, _, _, _, _, by omega, by simp [hal]; omega, mem_app1 haw (by simp only [List.mem_cons, List.not_mem_nil, or_false, forall_eq_or_imp, forall_eq]; exact ⟨keyN_wf2 _, keyN_wf2 _⟩), h106, ⟨rfl, ⟨[1, 7, 9], rfl⟩, .auto⟩, rfl⟩, by omega⟩
  replace h88 := kn h88
  refine p_exit 6 (by kernel_rfl) ?_
  change G _ _ _ _
  refine p_weaken [1, 7] rfl ?_
  refine p_seq0 ?_
  refine p_plain0 (0 :: 1 :: 2 :: 3 :: 4 :: 5 :: 6 :: 7 :: 8 :: 9 :: 10 :: 11 :: 12 :: 13 :: 14 :: 15 :: 16 :: 17 :: []) ?_
  refine go_q0 107 (.move (.tmp 7)) 82 (qv_move rfl) ?_
  refine go_s0 (some 108) (.call { callee := .value (.func 8), args := #[.const (.int .i64 16), .tmp 107], argTypes := #[3, 82] }) 4 ?_
  refine os_pv rfl (pv_callR en8 rfl .auto (plays1 16 (c := c) hA.lst haw)) ?_
  refine go_q0 109 (.unOp .not 4 (.tmp 108)) 4 (qv_not rfl) ?_
  refine go_q0 110 (.move (.tmp 109)) 4 (qv_move rfl) ?_
  refine go_q (d := 111) (op := .move (.tmp 7)) (ty := 82) (g := some (3, false)) (by kernel_rfl) ⟨110, by kernel_rfl, rfl⟩ rfl (qv_move rfl) ?_
  refine go_s (d := some 112) (op := .call { callee := .value (.func 6), args := #[.const (.int .i64 16), .tmp 111], argTypes := #[3, 82] }) (ty := 4) (g := some (3, false)) (by kernel_rfl) ⟨110, by kernel_rfl, rfl⟩ ?_
  refine os_pv rfl (pv_callR en6 rfl .auto (keeps1 16 (c := c) hA.lst haw)) ?_
  refine go_q (d := 113) (op := .unOp .not 4 (.tmp 112)) (ty := 4) (g := some (3, false)) (by kernel_rfl) ⟨110, by kernel_rfl, rfl⟩ rfl (qv_not rfl) ?_
  refine go_q0 114 (.pick (.tmp 110) (.const (.bool true)) (.tmp 113)) 4 (qv_pick_f rfl rfl) ?_
  refine go_q0 115 (.move (.tmp 114)) 4 (qv_move rfl) ?_
  refine go_q (d := 116) (op := .move (.tmp 7)) (ty := 82) (g := some (8, false)) (by kernel_rfl) ⟨115, by kernel_rfl, rfl⟩ rfl (qv_move rfl) ?_
  refine go_s (d := some 117) (op := .call { callee := .value (.func 8), args := #[.const (.int .i64 8), .tmp 116], argTypes := #[3, 82] }) (ty := 4) (g := some (8, false)) (by kernel_rfl) ⟨115, by kernel_rfl, rfl⟩ ?_
  refine os_pv rfl (pv_callR en8 rfl .auto (plays1 8 (c := c) hA.lst haw)) ?_
  refine go_q (d := 118) (op := .unOp .not 4 (.tmp 117)) (ty := 4) (g := some (8, false)) (by kernel_rfl) ⟨115, by kernel_rfl, rfl⟩ rfl (qv_not rfl) ?_
  refine go_q0 119 (.pick (.tmp 115) (.const (.bool true)) (.tmp 118)) 4 (qv_pick_f rfl rfl) ?_
  refine go_q0 120 (.move (.tmp 119)) 4 (qv_move rfl) ?_
  refine go_q (d := 121) (op := .move (.tmp 7)) (ty := 82) (g := some (13, false)) (by kernel_rfl) ⟨120, by kernel_rfl, rfl⟩ rfl (qv_move rfl) ?_
  refine go_s (d := some 122) (op := .call { callee := .value (.func 6), args := #[.const (.int .i64 4), .tmp 121], argTypes := #[3, 82] }) (ty := 4) (g := some (13, false)) (by kernel_rfl) ⟨120, by kernel_rfl, rfl⟩ ?_
  refine os_pv rfl (pv_callR en6 rfl .auto (keeps1 4 (c := c) hA.lst haw)) ?_
  refine go_q (d := 123) (op := .unOp .not 4 (.tmp 122)) (ty := 4) (g := some (13, false)) (by kernel_rfl) ⟨120, by kernel_rfl, rfl⟩ rfl (qv_not rfl) ?_
  refine go_q0 124 (.pick (.tmp 120) (.const (.bool true)) (.tmp 123)) 4 (qv_pick_f rfl rfl) ?_
  refine go_nil ?_
  change G _ _ _ _
  refine p_weaken [1, 124] rfl ?_
  refine p_condF (.tmp 124) (by kernel_rfl) rfl ?_
  refine p_skip0 ?_
  change G _ _ _ _
  refine p_weaken [1] rfl ?_
  refine p_plain0 (0 :: 1 :: 2 :: []) ?_
  refine go_q0 12 (.move (.tmp 1)) 3 (qv_move rfl) ?_
  refine go_q0 13 (.binOp .add 3 (.tmp 12) (.const (.int .i64 1)) 3) 3 (qv_add rfl rfl (by first | exact IntWalk.i64_in _ (by omega) | exact IntWalk.i64_in _ (by dsimp only; omega) | rfl)) ?_
  refine go_q0 1 (.assign (.tmp 13)) 3 (qv_assign rfl) ?_
  refine go_nil ?_
  exact ⟨_, ⟨i + 1, by omega, ⟨rfl, ⟨[1], rfl⟩, .auto⟩, rfl⟩, by omega⟩
end Go.Proofs.Ytobmcpoejhhemaa
