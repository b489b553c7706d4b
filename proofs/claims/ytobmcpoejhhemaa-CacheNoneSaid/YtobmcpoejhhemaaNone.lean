/- Contracts: the chapter's examples (works); a table that is not there. -/
import Derived.Test.YtobmcpoejhhemaaTabD
namespace Go.Proofs.Ytobmcpoejhhemaa
open Go.E

def keyN (n : Int) : Key := { zeroS.key with src := { zeroS.key.src with b := { zeroS.key.src.b with x0 := 10 } }, proto := 17, srcPort := IntKind.u16.wrap n, dstPort := 53 }
theorem pu_key (n : Int) : Pu Try.prog 69 [.int .i64 n] (.agg (keyN n).c) := by
  refine ct_body (rv := [.cell 2 27]) [(0, _)] Try.func69 (by kernel_rfl) Try.ntmps69 Try.results69 rfl rfl (fun w0 => ?_)
  refine p_seq0 ?_
  refine p_plain0 (0 :: []) ?_
  refine go_s0 (some 2) (.alloc 27) 0 ?_
  refine os_allocA rfl ze27 (fun b2 => ?_)
  refine go_nil ?_
  change G _ _ _ _
  refine p_seq0 ?_
  refine p_plain0 (0 :: 1 :: 2 :: 3 :: 4 :: []) ?_
  refine go_q0 4 (.move (.tmp 0)) 3 (qv_move rfl) ?_
  refine go_q0 5 (.convert 3 25 (.tmp 4)) 25 (qv_conv un3 un25 rfl (rfl)) ?_
  refine go_q0 6 (.build 27 #[(2, .const (.int .u8 17)), (3, .tmp 5), (4, .const (.int .u16 53))]) 27 (qv_build rfl (bld27_2_3_4 _ _ _)) ?_
  refine go_s0 (some 3) (.alloc 27) 0 ?_
  refine os_allocA rfl ze27 (fun b3 => ?_)
  refine go_s0 none (.store 27 (.tmp 3) (.tmp 6)) 0 ?_
  refine os_store rfl rfl sz27 rfl (one_Key _) .auto (Nat.le_of_ble_eq_true rfl) (splw_Key _ _ (siz_Key _)) ?_
  refine go_nil ?_
  change G _ _ _ _
  refine p_weaken [2, 3] rfl ?_
  refine p_seq0 ?_
  refine p_plain0 (0 :: 1 :: 2 :: 3 :: []) ?_
  refine go_q0 7 (.fieldAddr 27 (.tmp 3) 0) 0 (qv_field rfl fd27_0) ?_
  refine go_q0 8 (.fieldAddr 24 (.tmp 7) 1) 0 (qv_field rfl fd24_1) ?_
  refine go_q0 9 (.indexAddr 22 (.tmp 8) (.const (.int .i64 0))) 0 (qv_indexA un22 sz5 rfl rfl (j := 0) rfl (by decide)) ?_
  refine go_s0 none (.store 5 (.tmp 9) (.const (.int .u8 10))) 0 ?_
  refine os_store1 (cs' := (keyN n).c) rfl rfl sz5 rfl rfl (by repeat first | exact .here | apply Up.next | apply Up.app) (Nat.le_of_ble_eq_true rfl) (by kernel_rfl) ?_
  refine go_nil ?_
  change G _ _ _ _
  refine p_weaken [2, 3] rfl ?_
  refine p_seq0 ?_
  refine p_plain0 (0 :: 1 :: []) ?_
  refine go_q0 10 (.load 27 (.tmp 3)) 27 (qv_load rfl .auto (ldv_agg agg27 (extw_Key _) (Nat.le_of_ble_eq_true rfl))) ?_
  refine go_s0 none (.store 27 (.tmp 2) (.tmp 10)) 0 ?_
  refine os_store rfl rfl sz27 rfl (one_Key _) .auto (Nat.le_of_ble_eq_true rfl) (splw_Key _ _ (siz_Key _)) ?_
  refine go_nil ?_
  change G _ _ _ _
  refine p_weaken [2] rfl ?_
  refine p_ret0 ?_
  try dsimp only [thenQ, inBlockQ]
  try rw [if_pos rfl]
  refine ret_now (.inr rfl) (.cons (res_cell rfl (At.mem .auto) (ldv_agg agg27 (extw_Key _) (Nat.le_of_ble_eq_true rfl))) .nil) (by repeat constructor) ?_
  exact ⟨rfl, rfl⟩
theorem place_one (k : Key) (i : Nat) : place 1 k i = 0 := by
  unfold place
  simp [Int.emod_one]
theorem findI_one (s : Slot) (k : Key) : findI [s] k = if (!s.used || decide (s.key = k)) = true then some 0 else none := by
  have h : stop [s] k 0 = (!s.used || decide (s.key = k)) := stop_of (by show [s][place 1 k 0]? = _; rw [place_one]; rfl)
  unfold findI
  show (List.range 1).find? _ = _
  rw [List.range_succ]
  simp only [List.range_zero, List.nil_append, List.find?_cons, List.find?_nil, h]
  cases (!s.used || decide (s.key = k)) <;> rfl
theorem ink10 : InK .u8 10 := ⟨by decide, by decide⟩
theorem ink17 : InK .u8 17 := ⟨by decide, by decide⟩
theorem ink53 : InK .u16 53 := ⟨by decide, by decide⟩
theorem keyN_wf (n : Int) (h : 0 ≤ n ∧ n ≤ 65535) : (keyN n).Wf := by
  have e : IntKind.u16.wrap n = n := IntWalk.u16_in _ (by omega)
  refine ⟨⟨⟨ink10, z8, z8, z8, z8, z8, z8, z8, z8, z8, z8, z8, z8, z8, z8, z8⟩⟩, zeroS_wf.dst_, ink17, ?_, ink53⟩
  show InK .u16 (IntKind.u16.wrap n)
  rw [e]
  exact h
theorem putR_one (s : Slot) (k : Key) (n m : Int) (hr : k.right = true) : putR [s] k n m = if s.used = true then (if s.key = k then (0, [⟨true, k, n⟩], m) else (230, [s], m)) else (0, [⟨true, k, n⟩], m + 1) := by
  unfold putR
  rw [if_pos hr, findI_one]
  cases hu : s.used with
  | true =>
    by_cases he : s.key = k
    · simp [he, place_one, hu]
    · simp [he]
  | false => simp [place_one, hu]
theorem hasI_one (s : Slot) (k : Key) : hasI [s] k = if s.used = true ∧ s.key = k then some 0 else none := by
  unfold hasI
  rw [findI_one]
  cases hu : s.used with
  | true =>
    by_cases he : s.key = k
    · simp [he, place_one, hu]
    · simp [he]
  | false => simp [place_one, hu]

theorem k1_right : (keyN 1).right = true := by decide
theorem k2_right : (keyN 2).right = true := by decide
theorem k12 : ¬ keyN 1 = keyN 2 := by decide
theorem ct_DeleteN {bt bs : Nat} {many : Int} {L : List Slot} {k : Key} (hk : k.Wf) (h1 : 1 ≤ L.length) (h2 : L.length ≤ 65536) (hj : hasI L k = none) :
    Ct Try.prog 44 [.pointer (some ⟨bt, 0, none⟩), .agg k.c].toArray [tabO bt bs L.length many, slotO bs L] (fun v M' => v = .bool false ∧ M' = [tabO bt bs L.length many, slotO bs L]) := by
  have hh := ct_has (bt := bt) (bs := bs) (many := many) hk h1 h2
  rw [hj] at hh
  refine ct_body (rv := [.tmp 4]) [(0, _), (1, _)] Try.func44 (by kernel_rfl) Try.ntmps44 Try.results44 rfl rfl (fun w0 => ?_)
  refine p_seq0 ?_
  refine p_plain0 (0 :: 1 :: []) ?_
  refine go_s0 (some 3) (.box 27 (.tmp 1)) 0 ?_
  refine os_boxA rfl rfl (fun b3 => ?_)
  refine go_q0 4 (.assign (.const (.bool false))) 4 (qv_assign rfl) ?_
  refine go_nil ?_
  change G _ _ _ _
  refine p_weaken [0, 3, 4] rfl ?_
  refine p_seq0 ?_
  refine p_plain0 (0 :: 1 :: 2 :: 3 :: []) ?_
  refine go_q0 12 (.move (.tmp 0)) 83 (qv_move rfl) ?_
  refine go_q0 13 (.load 27 (.tmp 3)) 27 (qv_load rfl .auto (ldv_agg agg27 (extw_Key _) (Nat.le_of_ble_eq_true rfl))) ?_
  refine go_s0 (some 14) (.call { callee := .value (.func 97), args := #[.tmp 12, .tmp 13], argTypes := #[83, 27] }) 3 ?_
  refine os_pv rfl (pv_callR en97 rfl .auto (hh)) ?_
  refine go_q0 5 (.assign (.tmp 14)) 3 (qv_assign rfl) ?_
  refine go_nil ?_
  change G _ _ _ _
  refine p_weaken [0, 4, 5] rfl ?_
  refine p_seq0 ?_
  refine p_seq0 ?_
  refine p_plain0 (0 :: 1 :: []) ?_
  refine go_q0 15 (.move (.tmp 5)) 3 (qv_move rfl) ?_
  refine go_q0 16 (.binOp .lss 3 (.tmp 15) (.const (.int .i64 0)) 3) 4 (qv_lss (b := true) rfl rfl (by decide)) ?_
  refine go_nil ?_
  change G _ _ _ _
  refine p_weaken [0, 4, 5, 16] rfl ?_
  refine p_condT (.tmp 16) (by kernel_rfl) rfl ?_
  refine p_seq0 ?_
  refine p_plain0 (0 :: []) ?_
  refine go_q0 4 (.assign (.const (.bool false))) 4 (qv_assign rfl) ?_
  refine go_nil ?_
  change G _ _ _ _
  refine p_weaken [0, 4, 5] rfl ?_
  refine p_ret0 ?_
  try dsimp only [thenQ, inBlockQ]
  try rw [if_pos rfl]
  refine ret_left ([tabO bt bs L.length many, slotO bs L]) (.inr rfl) (.cons (res_tmp rfl) .nil) .auto ?_
  exact ⟨rfl, rfl⟩
theorem pu_works23 : Pu Try.prog 38 [] (.bool true) := by
  have w1 := keyN_wf 1 (by decide)
  have w2 := keyN_wf 2 (by decide)
  refine ct_body (rv := [.tmp 0]) [] Try.func38 (by kernel_rfl) Try.ntmps38 Try.results38 rfl rfl (fun w0 => ?_)
  refine p_seq0 ?_
  refine p_plain0 (0 :: []) ?_
  refine go_q0 0 (.assign (.const (.bool false))) 4 (qv_assign rfl) ?_
  refine go_nil ?_
  change G _ _ _ _
  refine p_seq0 ?_
  refine p_plain0 (0 :: 1 :: 2 :: 3 :: 4 :: 5 :: []) ?_
  refine go_s0 (some 13) (.call { callee := .value (.func 39), args := #[.const (.int .i64 3)], argTypes := #[3] }) 84 ?_
  refine os_callP rfl en39 rfl (pu_NewBad 3 (by decide)) ?_
  refine go_q0 12 (.move (.tmp 13)) 84 (qv_move rfl) ?_
  refine go_q0 14 (.extract (.tmp 12) 0) 83 (qv_extract rfl rfl) ?_
  refine go_q0 15 (.extract (.tmp 12) 1) 61 (qv_extract rfl rfl) ?_
  refine go_q0 1 (.assign (.tmp 14)) 83 (qv_assign rfl) ?_
  refine go_q0 2 (.assign (.tmp 15)) 61 (qv_assign rfl) ?_
  refine go_nil ?_
  change G _ _ _ _
  refine p_weaken [0, 2] rfl ?_
  refine p_seq0 ?_
  refine p_plain0 (0 :: 1 :: 2 :: 3 :: 4 :: 5 :: []) ?_
  refine go_s0 (some 17) (.call { callee := .value (.func 39), args := #[.const (.int .i64 0)], argTypes := #[3] }) 84 ?_
  refine os_callP rfl en39 rfl (pu_NewBad 0 (by decide)) ?_
  refine go_q0 16 (.move (.tmp 17)) 84 (qv_move rfl) ?_
  refine go_q0 18 (.extract (.tmp 16) 0) 83 (qv_extract rfl rfl) ?_
  refine go_q0 19 (.extract (.tmp 16) 1) 61 (qv_extract rfl rfl) ?_
  refine go_q0 3 (.assign (.tmp 18)) 83 (qv_assign rfl) ?_
  refine go_q0 4 (.assign (.tmp 19)) 61 (qv_assign rfl) ?_
  refine go_nil ?_
  change G _ _ _ _
  refine p_weaken [0, 2, 4] rfl ?_
  refine p_seq0 ?_
  refine p_plain0 (0 :: 1 :: 2 :: 3 :: 4 :: 5 :: []) ?_
  refine go_s0 (some 21) (.call { callee := .value (.func 39), args := #[.const (.int .i64 1)], argTypes := #[3] }) 84 ?_
  refine os_call (Nat.le_of_ble_eq_true rfl) en39 rfl .auto (ct_New 1 (by decide) (by decide) (by decide)) ?_
  rintro v21 A21 ⟨bt, bs, rfl, rfl⟩
  try dsimp only [List.nil_append, List.cons_append]
  have c1 := ct_Put (bt := bt) (bs := bs) (many := 0) (n := 5) (L := [zeroS]) w1 (by decide) (by decide) (by decide) (by decide)
  rw [putR_one _ _ _ _ k1_right, if_neg (by decide)] at c1
  have c2 := ct_Put (bt := bt) (bs := bs) (many := 1) (n := 6) (L := [⟨true, keyN 1, 5⟩]) w2 (by decide) (by decide) (by decide) (by decide)
  rw [putR_one _ _ _ _ k2_right, if_pos rfl, if_neg k12] at c2
  have c3 := ct_Put (bt := bt) (bs := bs) (many := 1) (n := 7) (L := [⟨true, keyN 1, 5⟩]) w1 (by decide) (by decide) (by decide) (by decide)
  rw [putR_one _ _ _ _ k1_right, if_pos rfl, if_pos rfl] at c3
  have c4 := ct_Get (bt := bt) (bs := bs) (many := 1) (L := [⟨true, keyN 1, 7⟩]) w1 (by decide) (by decide)
  rw [show getV [⟨true, keyN 1, 7⟩] (keyN 1) = .tuple #[.int .u64 7, .bool true] by unfold getV; rw [hasI_one, if_pos ⟨rfl, rfl⟩]; rfl] at c4
  have c5 := ct_DeleteN (bt := bt) (bs := bs) (many := 1) (L := [⟨true, keyN 1, 7⟩]) w2 (by decide) (by decide) (by rw [hasI_one, if_neg (fun h => k12 h.2)])
  have c6 := ct_Delete (bt := bt) (bs := bs) (many := 1) (L := [⟨true, keyN 1, 7⟩]) (L' := [zeroS]) (k := keyN 1) (j := 0) w1 (fun s hs => by simp at hs; subst hs; exact w1) (by decide) (by decide) (by decide) (by decide) (by rw [hasI_one, if_pos ⟨rfl, rfl⟩]) rfl
  try dsimp only [List.nil_append, List.cons_append]
  refine go_q0 20 (.move (.tmp 21)) 84 (qv_move rfl) ?_
  refine go_q0 22 (.extract (.tmp 20) 0) 83 (qv_extract rfl rfl) ?_
  refine go_q0 23 (.extract (.tmp 20) 1) 61 (qv_extract rfl rfl) ?_
  refine go_q0 5 (.assign (.tmp 22)) 83 (qv_assign rfl) ?_
  refine go_q0 6 (.assign (.tmp 23)) 61 (qv_assign rfl) ?_
  refine go_nil ?_
  change G _ _ _ _
  refine p_weaken [0, 2, 4, 5, 6] rfl ?_
  refine p_seq0 ?_
  refine p_plain0 (0 :: 1 :: 2 :: 3 :: []) ?_
  refine go_q0 24 (.move (.tmp 5)) 83 (qv_move rfl) ?_
  refine go_s0 (some 25) (.call { callee := .value (.func 69), args := #[.const (.int .i64 1)], argTypes := #[3] }) 27 ?_
  refine os_callP rfl en69 rfl (pu_key 1) ?_
  refine go_s0 (some 26) (.call { callee := .value (.func 42), args := #[.tmp 24, .tmp 25, .const (.int .u64 5)], argTypes := #[83, 27, 30] }) 61 ?_
  refine os_call (Nat.le_of_ble_eq_true rfl) en42 rfl .auto (c1) ?_
  rintro v26 A26 ⟨rfl, rfl⟩
  try dsimp only [List.nil_append, List.cons_append]
  try dsimp only [List.nil_append, List.cons_append]
  refine go_q0 7 (.assign (.tmp 26)) 61 (qv_assign rfl) ?_
  refine go_nil ?_
  change G _ _ _ _
  refine p_weaken [0, 2, 4, 5, 6, 7] rfl ?_
  refine p_seq0 ?_
  refine p_plain0 (0 :: 1 :: 2 :: 3 :: []) ?_
  refine go_q0 27 (.move (.tmp 5)) 83 (qv_move rfl) ?_
  refine go_s0 (some 28) (.call { callee := .value (.func 69), args := #[.const (.int .i64 2)], argTypes := #[3] }) 27 ?_
  refine os_callP rfl en69 rfl (pu_key 2) ?_
  refine go_s0 (some 29) (.call { callee := .value (.func 42), args := #[.tmp 27, .tmp 28, .const (.int .u64 6)], argTypes := #[83, 27, 30] }) 61 ?_
  refine os_call (Nat.le_of_ble_eq_true rfl) en42 rfl .auto (c2) ?_
  rintro v29 A29 ⟨rfl, rfl⟩
  try dsimp only [List.nil_append, List.cons_append]
  try dsimp only [List.nil_append, List.cons_append]
  refine go_q0 8 (.assign (.tmp 29)) 61 (qv_assign rfl) ?_
  refine go_nil ?_
  change G _ _ _ _
  refine p_weaken [0, 2, 4, 5, 6, 7, 8] rfl ?_
  refine p_seq0 ?_
  refine p_plain0 (0 :: 1 :: 2 :: 3 :: []) ?_
  refine go_q0 30 (.move (.tmp 5)) 83 (qv_move rfl) ?_
  refine go_s0 (some 31) (.call { callee := .value (.func 69), args := #[.const (.int .i64 1)], argTypes := #[3] }) 27 ?_
  refine os_callP rfl en69 rfl (pu_key 1) ?_
  refine go_s0 (some 32) (.call { callee := .value (.func 42), args := #[.tmp 30, .tmp 31, .const (.int .u64 7)], argTypes := #[83, 27, 30] }) 61 ?_
  refine os_call (Nat.le_of_ble_eq_true rfl) en42 rfl .auto (c3) ?_
  rintro v32 A32 ⟨rfl, rfl⟩
  try dsimp only [List.nil_append, List.cons_append]
  try dsimp only [List.nil_append, List.cons_append]
  refine go_q0 9 (.assign (.tmp 32)) 61 (qv_assign rfl) ?_
  refine go_nil ?_
  change G _ _ _ _
  refine p_weaken [0, 2, 4, 5, 6, 7, 8, 9] rfl ?_
  refine p_seq0 ?_
  refine p_plain0 (0 :: 1 :: 2 :: 3 :: 4 :: 5 :: 6 :: 7 :: []) ?_
  refine go_q0 34 (.move (.tmp 5)) 83 (qv_move rfl) ?_
  refine go_s0 (some 35) (.call { callee := .value (.func 69), args := #[.const (.int .i64 1)], argTypes := #[3] }) 27 ?_
  refine os_callP rfl en69 rfl (pu_key 1) ?_
  refine go_s0 (some 36) (.call { callee := .value (.func 46), args := #[.tmp 34, .tmp 35], argTypes := #[83, 27] }) 95 ?_
  refine os_call (Nat.le_of_ble_eq_true rfl) en46 rfl .auto (c4) ?_
  rintro v36 A36 ⟨rfl, rfl⟩
  try dsimp only [List.nil_append, List.cons_append]
  try dsimp only [List.nil_append, List.cons_append]
  refine go_q0 33 (.move (.tmp 36)) 95 (qv_move rfl) ?_
  refine go_q0 37 (.extract (.tmp 33) 0) 30 (qv_extract rfl rfl) ?_
  refine go_q0 38 (.extract (.tmp 33) 1) 4 (qv_extract rfl rfl) ?_
  refine go_q0 10 (.assign (.tmp 37)) 30 (qv_assign rfl) ?_
  refine go_q0 11 (.assign (.tmp 38)) 4 (qv_assign rfl) ?_
  refine go_nil ?_
  change G _ _ _ _
  refine p_weaken [0, 2, 4, 5, 6, 7, 8, 9, 10, 11] rfl ?_
  refine p_seq0 ?_
  refine p_plain0 (0 :: 1 :: 2 :: 3 :: 4 :: 5 :: 6 :: 7 :: 8 :: 9 :: 10 :: 11 :: 12 :: 13 :: 14 :: 15 :: 16 :: 17 :: 18 :: 19 :: 20 :: 21 :: 22 :: 23 :: 24 :: 25 :: 26 :: 27 :: 28 :: 29 :: 30 :: 31 :: 32 :: 33 :: 34 :: 35 :: 36 :: 37 :: 38 :: 39 :: 40 :: 41 :: 42 :: 43 :: 44 :: 45 :: []) ?_
  refine go_q0 39 (.move (.tmp 2)) 61 (qv_move rfl) ?_
  refine go_q0 40 (.binOp .eql 61 (.tmp 39) (.const (.int .i64 2)) 61) 4 (qv_eql (b := true) rfl rfl (by decide)) ?_
  refine go_q0 41 (.move (.tmp 40)) 4 (qv_move rfl) ?_
  refine go_q (d := 42) (op := .move (.tmp 4)) (ty := 61) (g := some (2, true)) (by kernel_rfl) ⟨41, by kernel_rfl, rfl⟩ rfl (qv_move rfl) ?_
  refine go_q (d := 43) (op := .binOp .eql 61 (.tmp 42) (.const (.int .i64 2)) 61) (ty := 4) (g := some (2, true)) (by kernel_rfl) ⟨41, by kernel_rfl, rfl⟩ rfl (qv_eql (b := true) rfl rfl (by decide)) ?_
  refine go_q0 44 (.pick (.tmp 41) (.tmp 43) (.const (.bool false))) 4 (qv_pick_t rfl rfl) ?_
  refine go_q0 45 (.move (.tmp 44)) 4 (qv_move rfl) ?_
  refine go_q (d := 46) (op := .move (.tmp 6)) (ty := 61) (g := some (6, true)) (by kernel_rfl) ⟨45, by kernel_rfl, rfl⟩ rfl (qv_move rfl) ?_
  refine go_q (d := 47) (op := .binOp .eql 61 (.tmp 46) (.const (.int .i64 0)) 61) (ty := 4) (g := some (6, true)) (by kernel_rfl) ⟨45, by kernel_rfl, rfl⟩ rfl (qv_eql (b := true) rfl rfl (by decide)) ?_
  refine go_q0 48 (.pick (.tmp 45) (.tmp 47) (.const (.bool false))) 4 (qv_pick_t rfl rfl) ?_
  refine go_q0 49 (.move (.tmp 48)) 4 (qv_move rfl) ?_
  refine go_q (d := 50) (op := .move (.tmp 7)) (ty := 61) (g := some (10, true)) (by kernel_rfl) ⟨49, by kernel_rfl, rfl⟩ rfl (qv_move rfl) ?_
  refine go_q (d := 51) (op := .binOp .eql 61 (.tmp 50) (.const (.int .i64 0)) 61) (ty := 4) (g := some (10, true)) (by kernel_rfl) ⟨49, by kernel_rfl, rfl⟩ rfl (qv_eql (b := true) rfl rfl (by decide)) ?_
  refine go_q0 52 (.pick (.tmp 49) (.tmp 51) (.const (.bool false))) 4 (qv_pick_t rfl rfl) ?_
  refine go_q0 53 (.move (.tmp 52)) 4 (qv_move rfl) ?_
  refine go_q (d := 54) (op := .move (.tmp 8)) (ty := 61) (g := some (14, true)) (by kernel_rfl) ⟨53, by kernel_rfl, rfl⟩ rfl (qv_move rfl) ?_
  refine go_q (d := 55) (op := .binOp .eql 61 (.tmp 54) (.const (.int .i64 230)) 61) (ty := 4) (g := some (14, true)) (by kernel_rfl) ⟨53, by kernel_rfl, rfl⟩ rfl (qv_eql (b := true) rfl rfl (by decide)) ?_
  refine go_q0 56 (.pick (.tmp 53) (.tmp 55) (.const (.bool false))) 4 (qv_pick_t rfl rfl) ?_
  refine go_q0 57 (.move (.tmp 56)) 4 (qv_move rfl) ?_
  refine go_q (d := 58) (op := .move (.tmp 9)) (ty := 61) (g := some (18, true)) (by kernel_rfl) ⟨57, by kernel_rfl, rfl⟩ rfl (qv_move rfl) ?_
  refine go_q (d := 59) (op := .binOp .eql 61 (.tmp 58) (.const (.int .i64 0)) 61) (ty := 4) (g := some (18, true)) (by kernel_rfl) ⟨57, by kernel_rfl, rfl⟩ rfl (qv_eql (b := true) rfl rfl (by decide)) ?_
  refine go_q0 60 (.pick (.tmp 57) (.tmp 59) (.const (.bool false))) 4 (qv_pick_t rfl rfl) ?_
  refine go_q0 61 (.move (.tmp 60)) 4 (qv_move rfl) ?_
  refine go_q (d := 62) (op := .move (.tmp 11)) (ty := 4) (g := some (22, true)) (by kernel_rfl) ⟨61, by kernel_rfl, rfl⟩ rfl (qv_move rfl) ?_
  refine go_q0 63 (.pick (.tmp 61) (.tmp 62) (.const (.bool false))) 4 (qv_pick_t rfl rfl) ?_
  refine go_q0 64 (.move (.tmp 63)) 4 (qv_move rfl) ?_
  refine go_q (d := 65) (op := .move (.tmp 10)) (ty := 30) (g := some (25, true)) (by kernel_rfl) ⟨64, by kernel_rfl, rfl⟩ rfl (qv_move rfl) ?_
  refine go_q (d := 66) (op := .binOp .eql 30 (.tmp 65) (.const (.int .u64 7)) 30) (ty := 4) (g := some (25, true)) (by kernel_rfl) ⟨64, by kernel_rfl, rfl⟩ rfl (qv_eql (b := true) rfl rfl (by decide)) ?_
  refine go_q0 67 (.pick (.tmp 64) (.tmp 66) (.const (.bool false))) 4 (qv_pick_t rfl rfl) ?_
  refine go_q0 68 (.move (.tmp 67)) 4 (qv_move rfl) ?_
  refine go_q (d := 69) (op := .move (.tmp 5)) (ty := 83) (g := some (29, true)) (by kernel_rfl) ⟨68, by kernel_rfl, rfl⟩ rfl (qv_move rfl) ?_
  refine go_s (d := some 70) (op := .call { callee := .value (.func 69), args := #[.const (.int .i64 2)], argTypes := #[3] }) (ty := 27) (g := some (29, true)) (by kernel_rfl) ⟨68, by kernel_rfl, rfl⟩ ?_
  refine os_callP rfl en69 rfl (pu_key 2) ?_
  refine go_s (d := some 71) (op := .call { callee := .value (.func 44), args := #[.tmp 69, .tmp 70], argTypes := #[83, 27] }) (ty := 4) (g := some (29, true)) (by kernel_rfl) ⟨68, by kernel_rfl, rfl⟩ ?_
  refine os_call (Nat.le_of_ble_eq_true rfl) en44 rfl .auto (c5) ?_
  rintro v71 A71 ⟨rfl, rfl⟩
  try dsimp only [List.nil_append, List.cons_append]
  try dsimp only [List.nil_append, List.cons_append]
  refine go_q (d := 72) (op := .unOp .not 4 (.tmp 71)) (ty := 4) (g := some (29, true)) (by kernel_rfl) ⟨68, by kernel_rfl, rfl⟩ rfl (qv_not rfl) ?_
  refine go_q0 73 (.pick (.tmp 68) (.tmp 72) (.const (.bool false))) 4 (qv_pick_t rfl rfl) ?_
  refine go_q0 74 (.move (.tmp 73)) 4 (qv_move rfl) ?_
  refine go_q (d := 75) (op := .move (.tmp 5)) (ty := 83) (g := some (35, true)) (by kernel_rfl) ⟨74, by kernel_rfl, rfl⟩ rfl (qv_move rfl) ?_
  refine go_s (d := some 76) (op := .call { callee := .value (.func 69), args := #[.const (.int .i64 1)], argTypes := #[3] }) (ty := 27) (g := some (35, true)) (by kernel_rfl) ⟨74, by kernel_rfl, rfl⟩ ?_
  refine os_callP rfl en69 rfl (pu_key 1) ?_
  refine go_s (d := some 77) (op := .call { callee := .value (.func 44), args := #[.tmp 75, .tmp 76], argTypes := #[83, 27] }) (ty := 4) (g := some (35, true)) (by kernel_rfl) ⟨74, by kernel_rfl, rfl⟩ ?_
  refine os_call (Nat.le_of_ble_eq_true rfl) en44 rfl .auto (c6) ?_
  rintro v77 A77 ⟨rfl, rfl⟩
  try dsimp only [List.nil_append, List.cons_append]
  try dsimp only [List.nil_append, List.cons_append]
  refine go_q0 78 (.pick (.tmp 74) (.tmp 77) (.const (.bool false))) 4 (qv_pick_t rfl rfl) ?_
  refine go_q0 79 (.move (.tmp 78)) 4 (qv_move rfl) ?_
  refine go_q (d := 80) (op := .move (.tmp 5)) (ty := 83) (g := some (40, true)) (by kernel_rfl) ⟨79, by kernel_rfl, rfl⟩ rfl (qv_move rfl) ?_
  refine go_s (d := some 81) (op := .call { callee := .value (.func 45), args := #[.tmp 80], argTypes := #[83] }) (ty := 3) (g := some (40, true)) (by kernel_rfl) ⟨79, by kernel_rfl, rfl⟩ ?_
  refine os_call (Nat.le_of_ble_eq_true rfl) en45 rfl .auto (ct_Len bt bs 1 (1 - 1)) ?_
  rintro v81 A81 ⟨rfl, rfl⟩
  try dsimp only [List.nil_append, List.cons_append]
  try dsimp only [List.nil_append, List.cons_append]
  refine go_q (d := 82) (op := .binOp .eql 3 (.tmp 81) (.const (.int .i64 0)) 3) (ty := 4) (g := some (40, true)) (by kernel_rfl) ⟨79, by kernel_rfl, rfl⟩ rfl (qv_eql (b := true) rfl rfl (by decide)) ?_
  refine go_q0 83 (.pick (.tmp 79) (.tmp 82) (.const (.bool false))) 4 (qv_pick_t rfl rfl) ?_
  refine go_q0 0 (.assign (.tmp 83)) 4 (qv_assign rfl) ?_
  refine go_nil ?_
  change G _ _ _ _
  refine p_weaken [0] rfl ?_
  refine p_ret0 ?_
  try dsimp only [thenQ, inBlockQ]
  try rw [if_pos rfl]
  refine ret_left ([]) (.inr rfl) (.cons (res_tmp rfl) .nil) .auto ?_
  exact ⟨rfl, rfl⟩
end Go.Proofs.Ytobmcpoejhhemaa
