/- The law TableKeeps: the walk. -/
import Derived.Test.YtobmcpoejhhemaaKeep
import Derived.Test.YtobmcpoejhhemaaNone
import Derived.Test.YtobmcpoejhhemaaEngH
namespace Go.Proofs.Ytobmcpoejhhemaa
open Go.E

theorem ct_ProbesV {bt bs : Nat} {many : Int} {n : Nat} {L : List Slot} {k : Key} (hl : L.length = n) (hk : k.Wf) (h1 : 1 ≤ n) (h2 : n ≤ 65536) :
    Ct Try.prog 40 [.pointer (some ⟨bt, 0, none⟩), .agg k.c].toArray [tabO bt bs n many, slotO bs L] (fun v M' => v = .int .i64 (probesV L k) ∧ M' = [tabO bt bs n many, slotO bs L]) := by
  subst hl
  exact ct_Probes hk h1 h2
theorem Kp.reach {n : Nat} {L : List Slot} {ks : List Key} {ns : List Int} (hn : Pow n) (h : Kp n L ks ns) {i : Nat} {s : Slot} (hs : L[i]? = some s) (hu : s.used = true) :
    ∃ m, m < n ∧ probesV L s.key = (m : Int) + 1 ∧ (home n s.key + m) % n = i ∧ s.key.Wf ∧ ∀ q, q ≤ m → ∃ s', L[(home n s.key + q) % n]? = some s' ∧ s'.used = true := by
  obtain ⟨rank, hI⟩ := h.inv
  have hl := h.L_len
  have hi : i < n := by rw [← hl]; exact (List.getElem?_eq_some_iff.1 hs).1
  have hse : sl L i = s := by unfold sl; rw [hs]; rfl
  subst hse
  have hf := find_there hn hI hi hu
  have hh := home_lt hn (sl L i).key
  refine ⟨dist n (home n (sl L i).key) i, dist_lt hh hi, ?_, add_dist hh hi, h.wf _ (List.mem_of_getElem? hs), fun q hq => ?_⟩
  · unfold probesV; rw [hf]; dsimp only; omega
  · have hr : (home n (sl L i).key + q) % n < n := Nat.mod_lt _ hn.pos
    refine ⟨_, get_sl (by omega), ?_⟩
    by_cases e : q = dist n (home n (sl L i).key) i
    · rw [e, add_dist hh hi]; exact hu
    · have hd := dist_add hh (show q < n by have := dist_lt hh hi; omega)
      exact (hI.path i hi hu _ hr (by unfold way; rw [hd]; omega)).1
theorem home_hash {n : Nat} (hn : Pow n) (k : Key) : hashK k % (n : Int) = (home n k : Int) := by
  have hp : (0 : Int) < n := by have := hn.pos; omega
  unfold home place
  rw [wrap64, Int.emod_emod_of_dvd _ hn.dvd, Int.toNat_of_nonneg (Int.emod_nonneg _ (by omega))]
  simp
theorem foldl_nn (l : List Int) : ∀ h : Int, 0 ≤ h → 0 ≤ l.foldl hashS h := by
  induction l with
  | nil => intro h hh; exact hh
  | cons a l ih => intro h _; exact ih _ (wrap64_nn _)
theorem hashK_nn (k : Key) : 0 ≤ hashK k := foldl_nn _ _ (by decide)

theorem ct_reached {bt bs : Nat} {many : Int} {n : Nat} {L : List Slot} {ks : List Key} {ns : List Int} (hn : Pow n) (h : Kp n L ks ns) :
    Ct Try.prog 47 [.pointer (some ⟨bt, 0, none⟩)].toArray [tabO bt bs n many, slotO bs L] (fun v M' => v = .bool true ∧ M' = [tabO bt bs n many, slotO bs L]) := by
  have hl := h.L_len
  have h1 := hn.pos
  have h2 := hn.le
  have hS := ct_Slots (bt := bt) (bs := bs) (many := many) (L := L) (by omega) (by omega)
  rw [hl] at hS
  refine ct_body (rv := [.tmp 2]) [(0, _)] Try.func47 (by kernel_rfl) Try.ntmps47 Try.results47 rfl rfl (fun w0 => ?_)
  refine p_seq0 ?_
  refine p_plain0 (0 :: []) ?_
  refine go_q0 2 (.assign (.const (.bool false))) 4 (qv_assign rfl) ?_
  refine go_nil ?_
  change G _ _ _ _
  refine p_seq0 ?_
  refine p_plain0 (0 :: 1 :: 2 :: []) ?_
  refine go_q0 8 (.move (.tmp 0)) 83 (qv_move rfl) ?_
  refine go_s0 (some 9) (.call { callee := .value (.func 67), args := #[.tmp 8], argTypes := #[83] }) 124 ?_
  refine os_call (Nat.le_of_ble_eq_true rfl) en67 rfl .auto (hS) ?_
  rintro v9 A9 ⟨A, ⟨p, cap, rfl, hO⟩, rfl⟩
  try dsimp only [List.nil_append, List.cons_append]
  obtain ⟨b, cur, rfl, rfl, _, _, _, H⟩ := hO.some_ (by omega)
  rw [hl]
  refine go_q0 3 (.assign (.tmp 9)) 124 (qv_assign rfl) ?_
  refine go_nil ?_
  change G _ _ _ _
  refine p_weaken [0, 2, 3] rfl ?_
  refine p_seq0 ?_
  refine p_seq0 ?_
  refine p_plain0 (0 :: []) ?_
  refine go_q0 4 (.assign (.const (.int .i64 0))) 3 (qv_assign rfl) ?_
  refine go_nil ?_
  change G _ _ _ _
  refine p_block 0 (by kernel_rfl) ?_
  refine p_loopE (by kernel_rfl) (fun s m => ∃ (i : Nat), (i ≤ n) ∧ Ge s ⟨[], [(0, .pointer (some ⟨bt, 0, none⟩)), (3, .slice (some ⟨b, 0, none⟩) n cap), (4, .int .i64 i)], [(b, .cells cur 175 (0, 0)), tabO bt bs n many, slotO bs L]⟩ ∧ m = n + 1 - i) ?_ ?_
  · exact ⟨_, ⟨0, by omega, ⟨rfl, ⟨[0, 3, 4], rfl⟩, .auto⟩, rfl⟩⟩
  rintro s m ⟨i, hi, hs, rfl⟩
  refine ge_ok hs ?_
  refine p_seq0 ?_
  refine p_seq0 ?_
  refine p_plain0 (0 :: 1 :: 2 :: 3 :: []) ?_
  refine go_q0 10 (.move (.tmp 4)) 3 (qv_move rfl) ?_
  refine go_q0 11 (.move (.tmp 3)) 124 (qv_move rfl) ?_
  refine go_q0 12 (.call { callee := .builtin .len, args := #[.tmp 11], argTypes := #[124] }) 3 (qv_lenS un124 rfl) ?_
  refine go_q0 13 (.binOp .lss 3 (.tmp 10) (.tmp 12) 3) 4 (qv_lss rfl rfl rfl) ?_
  refine go_nil ?_
  change G _ _ _ _
  refine p_weaken [0, 3, 4, 13] rfl ?_
  refine p_cond (.tmp 13) (by kernel_rfl) rfl (fun h13 => ?_) (fun h13 => ?_)
  rotate_left
  · replace h13 := kn h13
    refine p_exit 0 (by kernel_rfl) ?_
    change G _ _ _ _
    refine p_weaken [] rfl ?_
    refine p_seq0 ?_
    refine p_plain0 (0 :: []) ?_
    refine go_q0 2 (.assign (.const (.bool true))) 4 (qv_assign rfl) ?_
    refine go_nil ?_
    change G _ _ _ _
    refine p_ret0 ?_
    try dsimp only [thenQ, inBlockQ]
    try rw [if_pos rfl]
    refine ret_left ([tabO bt bs n many, slotO bs L]) (.inr rfl) (.cons (res_tmp rfl) .nil) .auto ?_
    exact ⟨rfl, rfl⟩
  replace h13 := kn h13
  refine p_skip0 ?_
  change G _ _ _ _
  refine p_weaken [0, 3, 4] rfl ?_
  refine p_seq0 ?_
  refine p_block 1 (by kernel_rfl) ?_
  refine p_seq0 ?_
  refine p_seq0 ?_
  obtain ⟨x, hx⟩ : ∃ x, L[i]? = some x := ⟨_, List.getElem?_eq_getElem (by omega)⟩
  refine p_plain0 (0 :: 1 :: 2 :: 3 :: 4 :: 5 :: []) ?_
  refine go_q0 16 (.move (.tmp 3)) 124 (qv_move rfl) ?_
  refine go_q0 17 (.move (.tmp 4)) 3 (qv_move rfl) ?_
  refine go_q0 18 (.indexAddr 124 (.tmp 16) (.tmp 17)) 0 (qv_index un124 sz175 rfl rfl rfl (by omega)) ?_
  refine go_q0 19 (.fieldAddr 175 (.tmp 18) 0) 0 (qv_field rfl fd175_0) ?_
  refine go_q0 20 (.load 4 (.tmp 19)) 4 (qv_load rfl .auto (ldv_el H hx sc4 (get_Slot_0 x) rfl)) ?_
  refine go_q0 21 (.unOp .not 4 (.tmp 20)) 4 (qv_not rfl) ?_
  refine go_nil ?_
  change G _ _ _ _
  refine p_weaken [0, 3, 4, 21] rfl ?_
  refine p_cond (.tmp 21) (by kernel_rfl) rfl (fun h21 => ?_) (fun h21 => ?_)
  · replace h21 := kn h21
    refine p_exit 1 (by kernel_rfl) ?_
    change G _ _ _ _
    refine p_weaken [0, 3, 4] rfl ?_
    refine p_plain0 (0 :: 1 :: 2 :: []) ?_
    refine go_q0 14 (.move (.tmp 4)) 3 (qv_move rfl) ?_
    refine go_q0 15 (.binOp .add 3 (.tmp 14) (.const (.int .i64 1)) 3) 3 (qv_add rfl rfl (by first | exact IntWalk.i64_in _ (by omega) | exact IntWalk.i64_in _ (by dsimp only; omega) | rfl)) ?_
    refine go_q0 4 (.assign (.tmp 15)) 3 (qv_assign rfl) ?_
    refine go_nil ?_
    exact ⟨_, ⟨i + 1, by omega, ⟨rfl, ⟨[0, 3, 4], rfl⟩, .auto⟩, rfl⟩, by omega⟩
  replace h21 := kn h21
  refine p_skip0 ?_
  change G _ _ _ _
  refine p_weaken [0, 3, 4] rfl ?_
  refine p_seq0 ?_
  obtain ⟨d, hd, hpv, hmi, hkw, hq⟩ := h.reach hn hx h21
  have hhl := home_lt hn x.key
  refine p_plain0 (0 :: 1 :: 2 :: 3 :: 4 :: 5 :: 6 :: 7 :: []) ?_
  refine go_q0 22 (.move (.tmp 0)) 83 (qv_move rfl) ?_
  refine go_q0 23 (.move (.tmp 3)) 124 (qv_move rfl) ?_
  refine go_q0 24 (.move (.tmp 4)) 3 (qv_move rfl) ?_
  refine go_q0 25 (.indexAddr 124 (.tmp 23) (.tmp 24)) 0 (qv_index un124 sz175 rfl rfl rfl (by omega)) ?_
  refine go_q0 26 (.fieldAddr 175 (.tmp 25) 1) 0 (qv_field rfl fd175_1) ?_
  refine go_q0 27 (.load 27 (.tmp 26)) 27 (qv_load rfl .auto (ldv_elp H hx agg27 (ext_Slot_1_37 x) (by decide) (by decide) rfl)) ?_
  refine go_s0 (some 28) (.call { callee := .value (.func 40), args := #[.tmp 22, .tmp 27], argTypes := #[83, 27] }) 3 ?_
  refine os_pv rfl (pv_callR en40 rfl .auto (ct_ProbesV (many := many) (bs := bs) hl hkw (by omega) (by omega))) ?_
  refine go_q0 5 (.assign (.tmp 28)) 3 (qv_assign rfl) ?_
  refine go_nil ?_
  change G _ _ _ _
  refine p_weaken [0, 3, 4, 5] rfl ?_
  refine p_seq0 ?_
  refine p_plain0 (0 :: 1 :: 2 :: 3 :: 4 :: 5 :: 6 :: 7 :: 8 :: 9 :: 10 :: 11 :: []) ?_
  refine go_q0 29 (.move (.tmp 3)) 124 (qv_move rfl) ?_
  refine go_q0 30 (.move (.tmp 4)) 3 (qv_move rfl) ?_
  refine go_q0 31 (.indexAddr 124 (.tmp 29) (.tmp 30)) 0 (qv_index un124 sz175 rfl rfl rfl (by omega)) ?_
  refine go_q0 32 (.fieldAddr 175 (.tmp 31) 1) 0 (qv_field rfl fd175_1) ?_
  refine go_q0 33 (.load 27 (.tmp 32)) 27 (qv_load rfl .auto (ldv_elp H hx agg27 (ext_Slot_1_37 x) (by decide) (by decide) rfl)) ?_
  refine go_s0 (some 34) (.call { callee := .value (.func 63), args := #[.tmp 33], argTypes := #[27] }) 30 ?_
  refine os_callP rfl en63 rfl (pu_Hash x.key hkw) ?_
  refine go_q0 35 (.move (.tmp 3)) 124 (qv_move rfl) ?_
  refine go_q0 36 (.call { callee := .builtin .len, args := #[.tmp 35], argTypes := #[124] }) 3 (qv_lenS un124 rfl) ?_
  refine go_q0 37 (.convert 3 30 (.tmp 36)) 30 (qv_conv un3 un30 rfl (by first | exact IntWalk.u64_in _ (by omega) | rfl)) ?_
  refine go_q0 38 (.binOp .rem 30 (.tmp 34) (.tmp 37) 30) 30 (qv_rem rfl rfl (by omega) ((by rw [Int.tmod_eq_emod_of_nonneg (hashK_nn _)]; exact home_hash hn x.key : (hashK x.key).tmod (n : Int) = (home n x.key : Int)))) ?_
  refine go_q0 39 (.convert 30 3 (.tmp 38)) 3 (qv_conv un30 un3 rfl (by first | exact IntWalk.i64_in _ (by omega) | rfl)) ?_
  refine go_q0 6 (.assign (.tmp 39)) 3 (qv_assign rfl) ?_
  refine go_nil ?_
  change G _ _ _ _
  refine p_weaken [0, 3, 4, 5, 6] rfl ?_
  refine p_seq0 ?_
  refine p_seq0 ?_
  refine p_plain0 (0 :: 1 :: 2 :: 3 :: 4 :: 5 :: 6 :: 7 :: 8 :: 9 :: 10 :: 11 :: 12 :: []) ?_
  refine go_q0 40 (.move (.tmp 5)) 3 (qv_move rfl) ?_
  refine go_q0 41 (.binOp .lss 3 (.tmp 40) (.const (.int .i64 1)) 3) 4 (qv_lss (b := false) rfl rfl (decide_eq_false (by omega))) ?_
  refine go_q0 42 (.move (.tmp 41)) 4 (qv_move rfl) ?_
  refine go_q (d := 43) (op := .move (.tmp 6)) (ty := 3) (g := some (2, false)) (by kernel_rfl) ⟨42, by kernel_rfl, rfl⟩ rfl (qv_move rfl) ?_
  refine go_q (d := 44) (op := .move (.tmp 5)) (ty := 3) (g := some (2, false)) (by kernel_rfl) ⟨42, by kernel_rfl, rfl⟩ rfl (qv_move rfl) ?_
  refine go_q (d := 45) (op := .binOp .add 3 (.tmp 43) (.tmp 44) 3) (ty := 3) (g := some (2, false)) (by kernel_rfl) ⟨42, by kernel_rfl, rfl⟩ rfl (qv_add rfl rfl (by first | exact IntWalk.i64_in _ (by omega) | exact IntWalk.i64_in _ (by dsimp only; omega) | rfl)) ?_
  refine go_q (d := 46) (op := .binOp .sub 3 (.tmp 45) (.const (.int .i64 1)) 3) (ty := 3) (g := some (2, false)) (by kernel_rfl) ⟨42, by kernel_rfl, rfl⟩ rfl (qv_sub rfl rfl (by first | exact IntWalk.i64_in _ (by omega) | exact IntWalk.i64_in _ (by dsimp only; omega) | rfl)) ?_
  refine go_q (d := 47) (op := .move (.tmp 3)) (ty := 124) (g := some (2, false)) (by kernel_rfl) ⟨42, by kernel_rfl, rfl⟩ rfl (qv_move rfl) ?_
  refine go_q (d := 48) (op := .call { callee := .builtin .len, args := #[.tmp 47], argTypes := #[124] }) (ty := 3) (g := some (2, false)) (by kernel_rfl) ⟨42, by kernel_rfl, rfl⟩ rfl (qv_lenS un124 rfl) ?_
  refine go_q (d := 49) (op := .binOp .rem 3 (.tmp 46) (.tmp 48) 3) (ty := 3) (g := some (2, false)) (by kernel_rfl) ⟨42, by kernel_rfl, rfl⟩ rfl (qv_rem rfl rfl (by omega) ((by rw [hpv, show (home n x.key : Int) + ((d : Int) + 1) - 1 = ((home n x.key + d : Nat) : Int) by omega, Int.tmod_eq_emod_of_nonneg (by omega), ← Int.natCast_emod, hmi] : ((home n x.key : Int) + probesV L x.key - 1).tmod (n : Int) = (i : Int)))) ?_
  refine go_q (d := 50) (op := .move (.tmp 4)) (ty := 3) (g := some (2, false)) (by kernel_rfl) ⟨42, by kernel_rfl, rfl⟩ rfl (qv_move rfl) ?_
  refine go_q (d := 51) (op := .binOp .neq 3 (.tmp 49) (.tmp 50) 3) (ty := 4) (g := some (2, false)) (by kernel_rfl) ⟨42, by kernel_rfl, rfl⟩ rfl (qv_neq (b := false) rfl rfl (bne_eq_false_iff_eq.2 (by omega))) ?_
  refine go_q0 52 (.pick (.tmp 42) (.const (.bool true)) (.tmp 51)) 4 (qv_pick_f rfl rfl) ?_
  refine go_nil ?_
  change G _ _ _ _
  refine p_weaken [0, 3, 4, 5, 6, 52] rfl ?_
  refine p_condF (.tmp 52) (by kernel_rfl) rfl ?_
  refine p_skip0 ?_
  change G _ _ _ _
  refine p_weaken [0, 3, 4, 5, 6] rfl ?_
  refine p_seq0 ?_
  refine p_plain0 (0 :: []) ?_
  refine go_q0 7 (.assign (.const (.int .i64 0))) 3 (qv_assign rfl) ?_
  refine go_nil ?_
  change G _ _ _ _
  refine p_block 2 (by kernel_rfl) ?_
  refine p_loopE (by kernel_rfl) (fun s m => ∃ (q : Nat), (q ≤ d + 1) ∧ Ge s ⟨[], [(0, .pointer (some ⟨bt, 0, none⟩)), (3, .slice (some ⟨b, 0, none⟩) n cap), (4, .int .i64 i), (5, .int .i64 (probesV L x.key)), (6, .int .i64 (home n x.key)), (7, .int .i64 q)], [(b, .cells cur 175 (0, 0)), tabO bt bs n many, slotO bs L]⟩ ∧ m = d + 2 - q) ?_ ?_
  · exact ⟨_, ⟨0, by omega, ⟨rfl, ⟨[0, 3, 4, 5, 6, 7], rfl⟩, .auto⟩, rfl⟩⟩
  rintro s m ⟨q, hqm, hs, rfl⟩
  refine ge_ok hs ?_
  refine p_seq0 ?_
  refine p_seq0 ?_
  refine p_plain0 (0 :: 1 :: 2 :: []) ?_
  refine go_q0 53 (.move (.tmp 7)) 3 (qv_move rfl) ?_
  refine go_q0 54 (.move (.tmp 5)) 3 (qv_move rfl) ?_
  refine go_q0 55 (.binOp .lss 3 (.tmp 53) (.tmp 54) 3) 4 (qv_lss rfl rfl rfl) ?_
  refine go_nil ?_
  change G _ _ _ _
  refine p_weaken [0, 3, 4, 5, 6, 7, 55] rfl ?_
  refine p_cond (.tmp 55) (by kernel_rfl) rfl (fun h55 => ?_) (fun h55 => ?_)
  rotate_left
  · replace h55 := kn h55
    refine p_exit 2 (by kernel_rfl) ?_
    change G _ _ _ _
    refine p_weaken [0, 3, 4] rfl ?_
    refine p_plain0 (0 :: 1 :: 2 :: []) ?_
    refine go_q0 14 (.move (.tmp 4)) 3 (qv_move rfl) ?_
    refine go_q0 15 (.binOp .add 3 (.tmp 14) (.const (.int .i64 1)) 3) 3 (qv_add rfl rfl (by first | exact IntWalk.i64_in _ (by omega) | exact IntWalk.i64_in _ (by dsimp only; omega) | rfl)) ?_
    refine go_q0 4 (.assign (.tmp 15)) 3 (qv_assign rfl) ?_
    refine go_nil ?_
    exact ⟨_, ⟨i + 1, by omega, ⟨rfl, ⟨[0, 3, 4], rfl⟩, .auto⟩, rfl⟩, by omega⟩
  replace h55 := kn h55
  refine p_skip0 ?_
  change G _ _ _ _
  refine p_weaken [0, 3, 4, 5, 6, 7] rfl ?_
  refine p_seq0 ?_
  refine p_block 3 (by kernel_rfl) ?_
  refine p_seq0 ?_
  obtain ⟨s', hs', hu'⟩ := hq q (by omega)
  have hml : (home n x.key + q) % n < n := Nat.mod_lt _ hn.pos
  refine p_plain0 (0 :: 1 :: 2 :: 3 :: 4 :: 5 :: 6 :: 7 :: 8 :: 9 :: 10 :: []) ?_
  refine go_q0 58 (.move (.tmp 3)) 124 (qv_move rfl) ?_
  refine go_q0 59 (.move (.tmp 6)) 3 (qv_move rfl) ?_
  refine go_q0 60 (.move (.tmp 7)) 3 (qv_move rfl) ?_
  refine go_q0 61 (.binOp .add 3 (.tmp 59) (.tmp 60) 3) 3 (qv_add rfl rfl (by first | exact IntWalk.i64_in _ (by omega) | exact IntWalk.i64_in _ (by dsimp only; omega) | rfl)) ?_
  refine go_q0 62 (.move (.tmp 3)) 124 (qv_move rfl) ?_
  refine go_q0 63 (.call { callee := .builtin .len, args := #[.tmp 62], argTypes := #[124] }) 3 (qv_lenS un124 rfl) ?_
  refine go_q0 64 (.binOp .rem 3 (.tmp 61) (.tmp 63) 3) 3 (qv_rem rfl rfl (by omega) ((by rw [Int.tmod_eq_emod_of_nonneg (by omega)]; rfl : ((home n x.key : Int) + (q : Int)).tmod (n : Int) = (((home n x.key + q) % n : Nat) : Int)))) ?_
  refine go_q0 65 (.indexAddr 124 (.tmp 58) (.tmp 64)) 0 (qv_index un124 sz175 rfl rfl rfl hml) ?_
  refine go_q0 66 (.fieldAddr 175 (.tmp 65) 0) 0 (qv_field rfl fd175_0) ?_
  refine go_q0 67 (.load 4 (.tmp 66)) 4 (qv_load rfl .auto (ldv_el H hs' sc4 (get_Slot_0 s') rfl)) ?_
  refine go_q0 68 (.unOp .not 4 (.tmp 67)) 4 (qv_not rfl) ?_
  refine go_nil ?_
  change G _ _ _ _
  refine p_weaken [0, 3, 4, 5, 6, 7, 68] rfl ?_
  refine p_cond (.tmp 68) (by kernel_rfl) rfl (fun h68 => ?_) (fun h68 => ?_)
  · replace h68 := kn h68
    rw [hu'] at h68
    cases h68
  replace h68 := kn h68
  refine p_skip0 ?_
  change G _ _ _ _
  refine p_weaken [0, 3, 4, 5, 6, 7] rfl ?_
  refine p_plain0 (0 :: 1 :: 2 :: []) ?_
  refine go_q0 56 (.move (.tmp 7)) 3 (qv_move rfl) ?_
  refine go_q0 57 (.binOp .add 3 (.tmp 56) (.const (.int .i64 1)) 3) 3 (qv_add rfl rfl (by first | exact IntWalk.i64_in _ (by omega) | exact IntWalk.i64_in _ (by dsimp only; omega) | rfl)) ?_
  refine go_q0 7 (.assign (.tmp 57)) 3 (qv_assign rfl) ?_
  refine go_nil ?_
  exact ⟨_, ⟨q + 1, by omega, ⟨rfl, ⟨[0, 3, 4, 5, 6, 7], rfl⟩, .auto⟩, rfl⟩, by omega⟩
end Go.Proofs.Ytobmcpoejhhemaa
