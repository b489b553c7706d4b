import Derived.Test.YtobmcpoejhhemaaGreatKTab
namespace Go.Proofs.YtobmcpoejhhemaaGreat
open Go.E

theorem ct_findN {bt bs : Nat} {many : Int} {L : List Slot} {k : Key} (hk : k.Wf) (h1 : 1 ≤ L.length) (h2 : L.length ≤ 65536) (hf : findI L k = none) :
    Ct Tryz.prog 105 [.pointer (some ⟨bt, 0, none⟩), .agg k.c].toArray [tabO bt bs L.length many, slotO bs L] (fun v M' => v = .tuple #[.int .i64 (-1), .int .i64 L.length] ∧ M' = [tabO bt bs L.length many, slotO bs L]) :=
  (ct_find hk h1 h2).mono fun v M' ⟨h, hm⟩ => ⟨by rw [h]; unfold findV; rw [hf], hm⟩
theorem ct_findS {bt bs : Nat} {many : Int} {L : List Slot} {k : Key} (hk : k.Wf) (h1 : 1 ≤ L.length) (h2 : L.length ≤ 65536) {i : Nat} (hf : findI L k = some i) :
    Ct Tryz.prog 105 [.pointer (some ⟨bt, 0, none⟩), .agg k.c].toArray [tabO bt bs L.length many, slotO bs L] (fun v M' => v = .tuple #[.int .i64 (place L.length k i), .int .i64 ((i + 1 : Nat) : Int)] ∧ M' = [tabO bt bs L.length many, slotO bs L]) :=
  (ct_find hk h1 h2).mono fun v M' ⟨h, hm⟩ => ⟨by rw [h]; unfold findV; rw [hf], hm⟩

/-- The key's place. -/
def hasI (L : List Slot) (k : Key) : Option Nat := match findI L k with
  | some i => match L[place L.length k i]? with
    | some s => if s.used then some (place L.length k i) else none
    | none => none
  | none => none
def hasV (o : Option Nat) : Int := match o with
  | some j => j
  | none => -1
theorem ct_has {bt bs : Nat} {many : Int} {L : List Slot} {k : Key} (hk : k.Wf) (h1 : 1 ≤ L.length) (h2 : L.length ≤ 65536) :
    Ct Tryz.prog 79 [.pointer (some ⟨bt, 0, none⟩), .agg k.c].toArray [tabO bt bs L.length many, slotO bs L] (fun v M' => v = .int .i64 (hasV (hasI L k)) ∧ M' = [tabO bt bs L.length many, slotO bs L]) := by
  cases hf : findI L k with
  | none =>
    refine ct_body (rv := [.tmp 4]) [(0, _), (1, _)] Tryz.func79 (by kernel_rfl) Tryz.ntmps79 Tryz.results79 rfl rfl (fun w0 => ?_)
    refine p_seq0 ?_
    refine p_plain0 (0 :: 1 :: []) ?_
    refine go_s0 (some 3) (.box 29 (.tmp 1)) 0 ?_
    refine os_boxA rfl rfl (fun b3 => ?_)
    refine go_q0 4 (.assign (.const (.int .i64 0))) 3 (qv_assign rfl) ?_
    refine go_nil ?_
    change G _ _ _ _
    refine p_weaken [0, 3, 4] rfl ?_
    refine p_seq0 ?_
    refine p_plain0 (0 :: 1 :: 2 :: 3 :: 4 :: 5 :: 6 :: 7 :: []) ?_
    refine go_q0 8 (.move (.tmp 0)) 78 (qv_move rfl) ?_
    refine go_q0 9 (.load 29 (.tmp 3)) 29 (qv_load rfl .auto (ldv_agg agg29 (extw_Key _) (Nat.le_of_ble_eq_true rfl))) ?_
    refine go_s0 (some 10) (.call { callee := .value (.func 105), args := #[.tmp 8, .tmp 9], argTypes := #[78, 29] }) 168 ?_
    refine os_pv rfl (pv_callR en105 rfl .auto (ct_findN hk h1 h2 hf)) ?_
    refine go_q0 7 (.move (.tmp 10)) 168 (qv_move rfl) ?_
    refine go_q0 11 (.extract (.tmp 7) 0) 3 (qv_extract rfl rfl) ?_
    refine go_q0 12 (.extract (.tmp 7) 1) 3 (qv_extract rfl rfl) ?_
    refine go_q0 5 (.assign (.tmp 11)) 3 (qv_assign rfl) ?_
    refine go_q0 6 (.assign (.tmp 12)) 3 (qv_assign rfl) ?_
    refine go_nil ?_
    change G _ _ _ _
    refine p_weaken [0, 4, 5] rfl ?_
    refine p_seq0 ?_
    refine p_seq0 ?_
    refine p_plain0 (0 :: 1 :: 2 :: 3 :: 4 :: 5 :: 6 :: 7 :: 8 :: 9 :: 10 :: 11 :: 12 :: []) ?_
    refine go_q0 13 (.move (.tmp 5)) 3 (qv_move rfl) ?_
    refine go_q0 14 (.binOp .geq 3 (.tmp 13) (.const (.int .i64 0)) 3) 4 (qv_geq (b := false) rfl rfl (decide_eq_false (by omega))) ?_
    refine go_q0 15 (.move (.tmp 14)) 4 (qv_move rfl) ?_
    refine go_n (d := 16) (op := .move (.tmp 0)) (ty := 78) (g := some (2, true)) (by kernel_rfl) ⟨15, _, by kernel_rfl, rfl, rfl⟩ rfl ?_
    refine go_n (d := 17) (op := .nilCheck (.tmp 16)) (ty := 0) (g := some (2, true)) (by kernel_rfl) ⟨15, _, by kernel_rfl, rfl, rfl⟩ rfl ?_
    refine go_n (d := 18) (op := .fieldAddr 126 (.tmp 17) 0) (ty := 0) (g := some (2, true)) (by kernel_rfl) ⟨15, _, by kernel_rfl, rfl, rfl⟩ rfl ?_
    refine go_n (d := 19) (op := .load 124 (.tmp 18)) (ty := 124) (g := some (2, true)) (by kernel_rfl) ⟨15, _, by kernel_rfl, rfl, rfl⟩ rfl ?_
    refine go_n (d := 20) (op := .move (.tmp 5)) (ty := 3) (g := some (2, true)) (by kernel_rfl) ⟨15, _, by kernel_rfl, rfl, rfl⟩ rfl ?_
    refine go_n (d := 21) (op := .indexAddr 124 (.tmp 19) (.tmp 20)) (ty := 0) (g := some (2, true)) (by kernel_rfl) ⟨15, _, by kernel_rfl, rfl, rfl⟩ rfl ?_
    refine go_n (d := 22) (op := .fieldAddr 146 (.tmp 21) 0) (ty := 0) (g := some (2, true)) (by kernel_rfl) ⟨15, _, by kernel_rfl, rfl, rfl⟩ rfl ?_
    refine go_n (d := 23) (op := .load 4 (.tmp 22)) (ty := 4) (g := some (2, true)) (by kernel_rfl) ⟨15, _, by kernel_rfl, rfl, rfl⟩ rfl ?_
    refine go_n (d := 24) (op := .unOp .not 4 (.tmp 23)) (ty := 4) (g := some (2, true)) (by kernel_rfl) ⟨15, _, by kernel_rfl, rfl, rfl⟩ rfl ?_
    refine go_q0 25 (.pick (.tmp 15) (.tmp 24) (.const (.bool false))) 4 (qv_pick_f rfl rfl) ?_
    refine go_nil ?_
    change G _ _ _ _
    refine p_weaken [4, 5, 25] rfl ?_
    refine p_condF (.tmp 25) (by kernel_rfl) rfl ?_
    refine p_skip0 ?_
    change G _ _ _ _
    refine p_weaken [4, 5] rfl ?_
    refine p_seq0 ?_
    refine p_plain0 (0 :: 1 :: []) ?_
    refine go_q0 26 (.move (.tmp 5)) 3 (qv_move rfl) ?_
    refine go_q0 4 (.assign (.tmp 26)) 3 (qv_assign rfl) ?_
    refine go_nil ?_
    change G _ _ _ _
    refine p_weaken [4] rfl ?_
    refine p_ret0 ?_
    try dsimp only [thenQ, inBlockQ]
    try rw [if_pos rfl]
    refine ret_left ([tabO bt bs L.length many, slotO bs L]) (.inr rfl) (.cons (res_tmp rfl) .nil) .auto ?_
    exact ⟨by simp only [hasI, hf]; rfl, rfl⟩
  | some i =>
    have hpl := place_lt (n := L.length) (by omega) k i
    obtain ⟨s, hs⟩ : ∃ s, L[place L.length k i]? = some s := ⟨_, List.getElem?_eq_getElem hpl⟩
    refine ct_body (rv := [.tmp 4]) [(0, _), (1, _)] Tryz.func79 (by kernel_rfl) Tryz.ntmps79 Tryz.results79 rfl rfl (fun w0 => ?_)
    refine p_seq0 ?_
    refine p_plain0 (0 :: 1 :: []) ?_
    refine go_s0 (some 3) (.box 29 (.tmp 1)) 0 ?_
    refine os_boxA rfl rfl (fun b3 => ?_)
    refine go_q0 4 (.assign (.const (.int .i64 0))) 3 (qv_assign rfl) ?_
    refine go_nil ?_
    change G _ _ _ _
    refine p_weaken [0, 3, 4] rfl ?_
    refine p_seq0 ?_
    refine p_plain0 (0 :: 1 :: 2 :: 3 :: 4 :: 5 :: 6 :: 7 :: []) ?_
    refine go_q0 8 (.move (.tmp 0)) 78 (qv_move rfl) ?_
    refine go_q0 9 (.load 29 (.tmp 3)) 29 (qv_load rfl .auto (ldv_agg agg29 (extw_Key _) (Nat.le_of_ble_eq_true rfl))) ?_
    refine go_s0 (some 10) (.call { callee := .value (.func 105), args := #[.tmp 8, .tmp 9], argTypes := #[78, 29] }) 168 ?_
    refine os_pv rfl (pv_callR en105 rfl .auto (ct_findS hk h1 h2 hf)) ?_
    refine go_q0 7 (.move (.tmp 10)) 168 (qv_move rfl) ?_
    refine go_q0 11 (.extract (.tmp 7) 0) 3 (qv_extract rfl rfl) ?_
    refine go_q0 12 (.extract (.tmp 7) 1) 3 (qv_extract rfl rfl) ?_
    refine go_q0 5 (.assign (.tmp 11)) 3 (qv_assign rfl) ?_
    refine go_q0 6 (.assign (.tmp 12)) 3 (qv_assign rfl) ?_
    refine go_nil ?_
    change G _ _ _ _
    refine p_weaken [0, 4, 5] rfl ?_
    refine p_seq0 ?_
    refine p_seq0 ?_
    refine p_plain0 (0 :: 1 :: 2 :: 3 :: 4 :: 5 :: 6 :: 7 :: 8 :: 9 :: 10 :: 11 :: 12 :: []) ?_
    refine go_q0 13 (.move (.tmp 5)) 3 (qv_move rfl) ?_
    refine go_q0 14 (.binOp .geq 3 (.tmp 13) (.const (.int .i64 0)) 3) 4 (qv_geq (b := true) rfl rfl (decide_eq_true (by omega))) ?_
    refine go_q0 15 (.move (.tmp 14)) 4 (qv_move rfl) ?_
    refine go_q (d := 16) (op := .move (.tmp 0)) (ty := 78) (g := some (2, true)) (by kernel_rfl) ⟨15, by kernel_rfl, rfl⟩ rfl (qv_move rfl) ?_
    refine go_q (d := 17) (op := .nilCheck (.tmp 16)) (ty := 0) (g := some (2, true)) (by kernel_rfl) ⟨15, by kernel_rfl, rfl⟩ rfl (qv_nilCheck rfl) ?_
    refine go_q (d := 18) (op := .fieldAddr 126 (.tmp 17) 0) (ty := 0) (g := some (2, true)) (by kernel_rfl) ⟨15, by kernel_rfl, rfl⟩ rfl (qv_field rfl fd126_0) ?_
    refine go_q (d := 19) (op := .load 124 (.tmp 18)) (ty := 124) (g := some (2, true)) (by kernel_rfl) ⟨15, by kernel_rfl, rfl⟩ rfl (qv_load rfl .auto (ldv_sca sc124 (get_Tab_0 _))) ?_
    refine go_q (d := 20) (op := .move (.tmp 5)) (ty := 3) (g := some (2, true)) (by kernel_rfl) ⟨15, by kernel_rfl, rfl⟩ rfl (qv_move rfl) ?_
    refine go_q (d := 21) (op := .indexAddr 124 (.tmp 19) (.tmp 20)) (ty := 0) (g := some (2, true)) (by kernel_rfl) ⟨15, by kernel_rfl, rfl⟩ rfl (qv_index un124 sz146 rfl rfl rfl hpl) ?_
    refine go_q (d := 22) (op := .fieldAddr 146 (.tmp 21) 0) (ty := 0) (g := some (2, true)) (by kernel_rfl) ⟨15, by kernel_rfl, rfl⟩ rfl (qv_field rfl fd146_0) ?_
    refine go_q (d := 23) (op := .load 4 (.tmp 22)) (ty := 4) (g := some (2, true)) (by kernel_rfl) ⟨15, by kernel_rfl, rfl⟩ rfl (qv_load rfl .auto (ldv_el (slot_holds L) hs sc4 (get_Slot_0 s) rfl)) ?_
    refine go_q (d := 24) (op := .unOp .not 4 (.tmp 23)) (ty := 4) (g := some (2, true)) (by kernel_rfl) ⟨15, by kernel_rfl, rfl⟩ rfl (qv_not rfl) ?_
    refine go_q0 25 (.pick (.tmp 15) (.tmp 24) (.const (.bool false))) 4 (qv_pick_t rfl rfl) ?_
    refine go_nil ?_
    change G _ _ _ _
    refine p_weaken [4, 5, 25] rfl ?_
    refine p_cond (.tmp 25) (by kernel_rfl) rfl (fun h25 => ?_) (fun h25 => ?_)
    · replace h25 := kn h25
      refine p_seq0 ?_
      refine p_plain0 (0 :: []) ?_
      refine go_q0 4 (.assign (.const (.int .i64 (-1)))) 3 (qv_assign rfl) ?_
      refine go_nil ?_
      change G _ _ _ _
      refine p_weaken [4, 5] rfl ?_
      refine p_ret0 ?_
      try dsimp only [thenQ, inBlockQ]
      try rw [if_pos rfl]
      refine ret_left ([tabO bt bs L.length many, slotO bs L]) (.inr rfl) (.cons (res_tmp rfl) .nil) .auto ?_
      exact ⟨by simp [hasI, hf, hs, h25, hasV, E.valOf], rfl⟩
    replace h25 := kn h25
    refine p_skip0 ?_
    change G _ _ _ _
    refine p_weaken [4, 5] rfl ?_
    refine p_seq0 ?_
    refine p_plain0 (0 :: 1 :: []) ?_
    refine go_q0 26 (.move (.tmp 5)) 3 (qv_move rfl) ?_
    refine go_q0 4 (.assign (.tmp 26)) 3 (qv_assign rfl) ?_
    refine go_nil ?_
    change G _ _ _ _
    refine p_weaken [4] rfl ?_
    refine p_ret0 ?_
    try dsimp only [thenQ, inBlockQ]
    try rw [if_pos rfl]
    refine ret_left ([tabO bt bs L.length many, slotO bs L]) (.inr rfl) (.cons (res_tmp rfl) .nil) .auto ?_
    exact ⟨by simp [hasI, hf, hs, h25, hasV, E.valOf], rfl⟩
/-- What Get answers. -/
def getV (L : List Slot) (k : Key) : Value := match hasI L k with
  | some j => match L[j]? with
    | some s => .tuple #[.int .u64 s.n, .bool true]
    | none => .tuple #[.int .u64 0, .bool false]
  | none => .tuple #[.int .u64 0, .bool false]
theorem hasI_lt {L : List Slot} {k : Key} {j : Nat} (h : hasI L k = some j) : j < L.length := by
  unfold hasI at h
  split at h
  · split at h
    · rename_i i _ s hs
      split at h
      · cases h; exact (List.getElem?_eq_some_iff.1 hs).1
      · cases h
    · cases h
  · cases h
theorem ct_Get {bt bs : Nat} {many : Int} {L : List Slot} {k : Key} (hk : k.Wf) (h1 : 1 ≤ L.length) (h2 : L.length ≤ 65536) :
    Ct Tryz.prog 55 [.pointer (some ⟨bt, 0, none⟩), .agg k.c].toArray [tabO bt bs L.length many, slotO bs L] (fun v M' => v = getV L k ∧ M' = [tabO bt bs L.length many, slotO bs L]) := by
  have hh := ct_has (bt := bt) (bs := bs) (many := many) hk h1 h2
  cases hf : hasI L k with
  | none =>
    rw [hf] at hh
    refine ct_body (rv := [.tmp 4, .tmp 5]) [(0, _), (1, _)] Tryz.func55 (by kernel_rfl) Tryz.ntmps55 Tryz.results55 rfl rfl (fun w0 => ?_)
    refine p_seq0 ?_
    refine p_plain0 (0 :: 1 :: 2 :: []) ?_
    refine go_s0 (some 3) (.box 29 (.tmp 1)) 0 ?_
    refine os_boxA rfl rfl (fun b3 => ?_)
    refine go_q0 4 (.assign (.const (.int .u64 0))) 23 (qv_assign rfl) ?_
    refine go_q0 5 (.assign (.const (.bool false))) 4 (qv_assign rfl) ?_
    refine go_nil ?_
    change G _ _ _ _
    refine p_weaken [0, 3, 4, 5] rfl ?_
    refine p_seq0 ?_
    refine p_plain0 (0 :: 1 :: 2 :: 3 :: []) ?_
    refine go_q0 7 (.move (.tmp 0)) 78 (qv_move rfl) ?_
    refine go_q0 8 (.load 29 (.tmp 3)) 29 (qv_load rfl .auto (ldv_agg agg29 (extw_Key _) (Nat.le_of_ble_eq_true rfl))) ?_
    refine go_s0 (some 9) (.call { callee := .value (.func 79), args := #[.tmp 7, .tmp 8], argTypes := #[78, 29] }) 3 ?_
    refine os_pv rfl (pv_callR en79 rfl .auto (hh)) ?_
    refine go_q0 6 (.assign (.tmp 9)) 3 (qv_assign rfl) ?_
    refine go_nil ?_
    change G _ _ _ _
    refine p_weaken [0, 4, 5, 6] rfl ?_
    refine p_seq0 ?_
    refine p_seq0 ?_
    refine p_plain0 (0 :: 1 :: []) ?_
    refine go_q0 10 (.move (.tmp 6)) 3 (qv_move rfl) ?_
    refine go_q0 11 (.binOp .lss 3 (.tmp 10) (.const (.int .i64 0)) 3) 4 (qv_lss (b := true) rfl rfl (by decide)) ?_
    refine go_nil ?_
    change G _ _ _ _
    refine p_weaken [0, 4, 5, 6, 11] rfl ?_
    refine p_condT (.tmp 11) (by kernel_rfl) rfl ?_
    refine p_seq0 ?_
    refine p_plain0 (0 :: 1 :: []) ?_
    refine go_q0 4 (.assign (.const (.int .u64 0))) 23 (qv_assign rfl) ?_
    refine go_q0 5 (.assign (.const (.bool false))) 4 (qv_assign rfl) ?_
    refine go_nil ?_
    change G _ _ _ _
    refine p_weaken [0, 4, 5, 6] rfl ?_
    refine p_ret0 ?_
    try dsimp only [thenQ, inBlockQ]
    try rw [if_pos rfl]
    refine ret_left ([tabO bt bs L.length many, slotO bs L]) (.inr rfl) (.cons (res_tmp rfl) (.cons (res_tmp rfl) .nil)) .auto ?_
    exact ⟨by simp only [getV, hf]; rfl, rfl⟩
  | some j =>
    rw [hf] at hh
    have hj := hasI_lt hf
    obtain ⟨s, hs⟩ : ∃ s, L[j]? = some s := ⟨_, List.getElem?_eq_getElem hj⟩
    refine ct_body (rv := [.tmp 4, .tmp 5]) [(0, _), (1, _)] Tryz.func55 (by kernel_rfl) Tryz.ntmps55 Tryz.results55 rfl rfl (fun w0 => ?_)
    refine p_seq0 ?_
    refine p_plain0 (0 :: 1 :: 2 :: []) ?_
    refine go_s0 (some 3) (.box 29 (.tmp 1)) 0 ?_
    refine os_boxA rfl rfl (fun b3 => ?_)
    refine go_q0 4 (.assign (.const (.int .u64 0))) 23 (qv_assign rfl) ?_
    refine go_q0 5 (.assign (.const (.bool false))) 4 (qv_assign rfl) ?_
    refine go_nil ?_
    change G _ _ _ _
    refine p_weaken [0, 3, 4, 5] rfl ?_
    refine p_seq0 ?_
    refine p_plain0 (0 :: 1 :: 2 :: 3 :: []) ?_
    refine go_q0 7 (.move (.tmp 0)) 78 (qv_move rfl) ?_
    refine go_q0 8 (.load 29 (.tmp 3)) 29 (qv_load rfl .auto (ldv_agg agg29 (extw_Key _) (Nat.le_of_ble_eq_true rfl))) ?_
    refine go_s0 (some 9) (.call { callee := .value (.func 79), args := #[.tmp 7, .tmp 8], argTypes := #[78, 29] }) 3 ?_
    refine os_pv rfl (pv_callR en79 rfl .auto (hh)) ?_
    refine go_q0 6 (.assign (.tmp 9)) 3 (qv_assign rfl) ?_
    refine go_nil ?_
    change G _ _ _ _
    refine p_weaken [0, 4, 5, 6] rfl ?_
    refine p_seq0 ?_
    refine p_seq0 ?_
    refine p_plain0 (0 :: 1 :: []) ?_
    refine go_q0 10 (.move (.tmp 6)) 3 (qv_move rfl) ?_
    refine go_q0 11 (.binOp .lss 3 (.tmp 10) (.const (.int .i64 0)) 3) 4 (qv_lss (b := false) rfl rfl (decide_eq_false (by unfold hasV; dsimp only; omega))) ?_
    refine go_nil ?_
    change G _ _ _ _
    refine p_weaken [0, 4, 5, 6, 11] rfl ?_
    refine p_condF (.tmp 11) (by kernel_rfl) rfl ?_
    refine p_skip0 ?_
    change G _ _ _ _
    refine p_weaken [0, 4, 5, 6] rfl ?_
    refine p_seq0 ?_
    refine p_plain0 (0 :: 1 :: 2 :: 3 :: 4 :: 5 :: 6 :: 7 :: 8 :: 9 :: []) ?_
    refine go_q0 12 (.move (.tmp 0)) 78 (qv_move rfl) ?_
    refine go_q0 13 (.nilCheck (.tmp 12)) 0 (qv_nilCheck rfl) ?_
    refine go_q0 14 (.fieldAddr 126 (.tmp 13) 0) 0 (qv_field rfl fd126_0) ?_
    refine go_q0 15 (.load 124 (.tmp 14)) 124 (qv_load rfl .auto (ldv_sca sc124 (get_Tab_0 _))) ?_
    refine go_q0 16 (.move (.tmp 6)) 3 (qv_move rfl) ?_
    refine go_q0 17 (.indexAddr 124 (.tmp 15) (.tmp 16)) 0 (qv_index un124 sz146 rfl rfl (by unfold hasV; rfl) hj) ?_
    refine go_q0 18 (.fieldAddr 146 (.tmp 17) 2) 0 (qv_field rfl fd146_2) ?_
    refine go_q0 19 (.load 23 (.tmp 18)) 23 (qv_load rfl .auto (ldv_el (slot_holds L) hs sc23 (get_Slot_38 s) rfl)) ?_
    refine go_q0 4 (.assign (.tmp 19)) 23 (qv_assign rfl) ?_
    refine go_q0 5 (.assign (.const (.bool true))) 4 (qv_assign rfl) ?_
    refine go_nil ?_
    change G _ _ _ _
    refine p_weaken [4, 5] rfl ?_
    refine p_ret0 ?_
    try dsimp only [thenQ, inBlockQ]
    try rw [if_pos rfl]
    refine ret_left ([tabO bt bs L.length many, slotO bs L]) (.inr rfl) (.cons (res_tmp rfl) (.cons (res_tmp rfl) .nil)) .auto ?_
    exact ⟨by simp only [getV, hf, hs]; rfl, rfl⟩

/-- What Put does: its answer, the places, how many are used. -/
def putR (L : List Slot) (k : Key) (n many : Int) : Int × List Slot × Int :=
  if k.right then match findI L k with
    | none => (230, L, many)
    | some i => (0, L.set (place L.length k i) ⟨true, k, n⟩, match L[place L.length k i]? with
      | some s => if s.used then many else many + 1
      | none => many)
  else (2, L, many)
theorem ct_Put {bt bs : Nat} {many n : Int} {L : List Slot} {k : Key} (hk : k.Wf) (h1 : 1 ≤ L.length) (h2 : L.length ≤ 65536) (hm0 : 0 ≤ many) (hm1 : many ≤ 1000000) :
    Ct Tryz.prog 82 [.pointer (some ⟨bt, 0, none⟩), .agg k.c, .int .u64 n].toArray [tabO bt bs L.length many, slotO bs L] (fun v M' => v = .int .i64 (putR L k n many).1 ∧ M' = [tabO bt bs L.length (putR L k n many).2.2, slotO bs (putR L k n many).2.1]) := by
  cases hf : findI L k with
  | none =>
    refine ct_body (rv := [.tmp 6]) [(0, _), (1, _), (2, _)] Tryz.func82 (by kernel_rfl) Tryz.ntmps82 Tryz.results82 rfl rfl (fun w0 => ?_)
    refine p_seq0 ?_
    refine p_plain0 (0 :: 1 :: []) ?_
    refine go_s0 (some 4) (.box 29 (.tmp 1)) 0 ?_
    refine os_boxA rfl rfl (fun b4 => ?_)
    refine go_q0 6 (.assign (.const (.int .i64 0))) 44 (qv_assign rfl) ?_
    refine go_nil ?_
    change G _ _ _ _
    refine p_weaken [0, 2, 4, 6] rfl ?_
    refine p_seq0 ?_
    refine p_plain0 (0 :: 1 :: 2 :: 3 :: 4 :: 5 :: 6 :: 7 :: []) ?_
    refine go_q0 10 (.move (.tmp 0)) 78 (qv_move rfl) ?_
    refine go_q0 11 (.load 29 (.tmp 4)) 29 (qv_load rfl .auto (ldv_agg agg29 (extw_Key _) (Nat.le_of_ble_eq_true rfl))) ?_
    refine go_s0 (some 12) (.call { callee := .value (.func 105), args := #[.tmp 10, .tmp 11], argTypes := #[78, 29] }) 168 ?_
    refine os_pv rfl (pv_callR en105 rfl .auto (ct_findN hk h1 h2 hf)) ?_
    refine go_q0 9 (.move (.tmp 12)) 168 (qv_move rfl) ?_
    refine go_q0 13 (.extract (.tmp 9) 0) 3 (qv_extract rfl rfl) ?_
    refine go_q0 14 (.extract (.tmp 9) 1) 3 (qv_extract rfl rfl) ?_
    refine go_q0 7 (.assign (.tmp 13)) 3 (qv_assign rfl) ?_
    refine go_q0 8 (.assign (.tmp 14)) 3 (qv_assign rfl) ?_
    refine go_nil ?_
    change G _ _ _ _
    refine p_weaken [0, 2, 4, 6, 7] rfl ?_
    refine p_seq0 ?_
    refine p_block 0 (by kernel_rfl) ?_
    refine p_seq0 ?_
    refine p_plain0 (0 :: 1 :: 2 :: []) ?_
    refine go_q0 16 (.move (.tmp 0)) 78 (qv_move rfl) ?_
    refine go_q0 17 (.binOp .eql 78 (.tmp 16) (.const (.pointer none)) 78) 4 (qv_eqlP un78 rfl) ?_
    refine go_q0 15 (.assign (.tmp 17)) 4 (qv_assign rfl) ?_
    refine go_nil ?_
    change G _ _ _ _
    refine p_weaken [0, 2, 4, 6, 7, 15] rfl ?_
    refine p_condF (.tmp 15) (by kernel_rfl) rfl ?_
    refine p_seq0 ?_
    refine p_plain0 (0 :: 1 :: 2 :: 3 :: []) ?_
    refine go_q0 19 (.load 29 (.tmp 4)) 29 (qv_load rfl .auto (ldv_agg agg29 (extw_Key _) (Nat.le_of_ble_eq_true rfl))) ?_
    refine go_s0 (some 20) (.call { callee := .value (.func 20), args := #[.tmp 19], argTypes := #[29] }) 4 ?_
    refine os_callP rfl en20 rfl (pu_KeyRight k) ?_
    refine go_q0 21 (.unOp .not 4 (.tmp 20)) 4 (qv_not rfl) ?_
    refine go_q0 18 (.assign (.tmp 21)) 4 (qv_assign rfl) ?_
    refine go_nil ?_
    change G _ _ _ _
    refine p_weaken [0, 2, 4, 6, 7, 18] rfl ?_
    refine p_cond (.tmp 18) (by kernel_rfl) rfl (fun h18 => ?_) (fun h18 => ?_)
    · replace h18 := kn h18
      refine p_seq0 ?_
      refine p_plain0 (0 :: []) ?_
      refine go_q0 6 (.assign (.const (.int .i64 2))) 44 (qv_assign rfl) ?_
      refine go_nil ?_
      change G _ _ _ _
      refine p_weaken [0, 2, 4, 6, 7] rfl ?_
      refine p_ret0 ?_
      try dsimp only [thenQ, inBlockQ]
      try rw [if_pos rfl]
      refine ret_left ([tabO bt bs L.length many, slotO bs L]) (.inr rfl) (.cons (res_tmp rfl) .nil) .auto ?_
      exact ⟨by simp [putR, hf, h18, E.valOf], by simp [putR, hf, h18]⟩
    replace h18 := kn h18
    refine p_seq0 ?_
    refine p_plain0 (0 :: 1 :: 2 :: []) ?_
    refine go_q0 23 (.move (.tmp 7)) 3 (qv_move rfl) ?_
    refine go_q0 24 (.binOp .lss 3 (.tmp 23) (.const (.int .i64 0)) 3) 4 (qv_lss (b := true) rfl rfl (decide_eq_true (by omega))) ?_
    refine go_q0 22 (.assign (.tmp 24)) 4 (qv_assign rfl) ?_
    refine go_nil ?_
    change G _ _ _ _
    refine p_weaken [0, 2, 4, 6, 7, 22] rfl ?_
    refine p_condT (.tmp 22) (by kernel_rfl) rfl ?_
    refine p_seq0 ?_
    refine p_plain0 (0 :: []) ?_
    refine go_q0 6 (.assign (.const (.int .i64 230))) 44 (qv_assign rfl) ?_
    refine go_nil ?_
    change G _ _ _ _
    refine p_weaken [0, 2, 4, 6, 7] rfl ?_
    refine p_ret0 ?_
    try dsimp only [thenQ, inBlockQ]
    try rw [if_pos rfl]
    refine ret_left ([tabO bt bs L.length many, slotO bs L]) (.inr rfl) (.cons (res_tmp rfl) .nil) .auto ?_
    exact ⟨by simp [putR, hf, h18, E.valOf], by simp [putR, hf, h18]⟩
  | some i =>
    have hpl := place_lt (n := L.length) (by omega) k i
    obtain ⟨s, hs⟩ : ∃ s, L[place L.length k i]? = some s := ⟨_, List.getElem?_eq_getElem hpl⟩
    refine ct_body (rv := [.tmp 6]) [(0, _), (1, _), (2, _)] Tryz.func82 (by kernel_rfl) Tryz.ntmps82 Tryz.results82 rfl rfl (fun w0 => ?_)
    refine p_seq0 ?_
    refine p_plain0 (0 :: 1 :: []) ?_
    refine go_s0 (some 4) (.box 29 (.tmp 1)) 0 ?_
    refine os_boxA rfl rfl (fun b4 => ?_)
    refine go_q0 6 (.assign (.const (.int .i64 0))) 44 (qv_assign rfl) ?_
    refine go_nil ?_
    change G _ _ _ _
    refine p_weaken [0, 2, 4, 6] rfl ?_
    refine p_seq0 ?_
    refine p_plain0 (0 :: 1 :: 2 :: 3 :: 4 :: 5 :: 6 :: 7 :: []) ?_
    refine go_q0 10 (.move (.tmp 0)) 78 (qv_move rfl) ?_
    refine go_q0 11 (.load 29 (.tmp 4)) 29 (qv_load rfl .auto (ldv_agg agg29 (extw_Key _) (Nat.le_of_ble_eq_true rfl))) ?_
    refine go_s0 (some 12) (.call { callee := .value (.func 105), args := #[.tmp 10, .tmp 11], argTypes := #[78, 29] }) 168 ?_
    refine os_pv rfl (pv_callR en105 rfl .auto (ct_findS hk h1 h2 hf)) ?_
    refine go_q0 9 (.move (.tmp 12)) 168 (qv_move rfl) ?_
    refine go_q0 13 (.extract (.tmp 9) 0) 3 (qv_extract rfl rfl) ?_
    refine go_q0 14 (.extract (.tmp 9) 1) 3 (qv_extract rfl rfl) ?_
    refine go_q0 7 (.assign (.tmp 13)) 3 (qv_assign rfl) ?_
    refine go_q0 8 (.assign (.tmp 14)) 3 (qv_assign rfl) ?_
    refine go_nil ?_
    change G _ _ _ _
    refine p_weaken [0, 2, 4, 6, 7] rfl ?_
    refine p_seq0 ?_
    refine p_block 0 (by kernel_rfl) ?_
    refine p_seq0 ?_
    refine p_plain0 (0 :: 1 :: 2 :: []) ?_
    refine go_q0 16 (.move (.tmp 0)) 78 (qv_move rfl) ?_
    refine go_q0 17 (.binOp .eql 78 (.tmp 16) (.const (.pointer none)) 78) 4 (qv_eqlP un78 rfl) ?_
    refine go_q0 15 (.assign (.tmp 17)) 4 (qv_assign rfl) ?_
    refine go_nil ?_
    change G _ _ _ _
    refine p_weaken [0, 2, 4, 6, 7, 15] rfl ?_
    refine p_condF (.tmp 15) (by kernel_rfl) rfl ?_
    refine p_seq0 ?_
    refine p_plain0 (0 :: 1 :: 2 :: 3 :: []) ?_
    refine go_q0 19 (.load 29 (.tmp 4)) 29 (qv_load rfl .auto (ldv_agg agg29 (extw_Key _) (Nat.le_of_ble_eq_true rfl))) ?_
    refine go_s0 (some 20) (.call { callee := .value (.func 20), args := #[.tmp 19], argTypes := #[29] }) 4 ?_
    refine os_callP rfl en20 rfl (pu_KeyRight k) ?_
    refine go_q0 21 (.unOp .not 4 (.tmp 20)) 4 (qv_not rfl) ?_
    refine go_q0 18 (.assign (.tmp 21)) 4 (qv_assign rfl) ?_
    refine go_nil ?_
    change G _ _ _ _
    refine p_weaken [0, 2, 4, 6, 7, 18] rfl ?_
    refine p_cond (.tmp 18) (by kernel_rfl) rfl (fun h18 => ?_) (fun h18 => ?_)
    · replace h18 := kn h18
      refine p_seq0 ?_
      refine p_plain0 (0 :: []) ?_
      refine go_q0 6 (.assign (.const (.int .i64 2))) 44 (qv_assign rfl) ?_
      refine go_nil ?_
      change G _ _ _ _
      refine p_weaken [0, 2, 4, 6, 7] rfl ?_
      refine p_ret0 ?_
      try dsimp only [thenQ, inBlockQ]
      try rw [if_pos rfl]
      refine ret_left ([tabO bt bs L.length many, slotO bs L]) (.inr rfl) (.cons (res_tmp rfl) .nil) .auto ?_
      exact ⟨by simp [putR, hf, h18, E.valOf], by simp [putR, hf, h18]⟩
    replace h18 := kn h18
    refine p_seq0 ?_
    refine p_plain0 (0 :: 1 :: 2 :: []) ?_
    refine go_q0 23 (.move (.tmp 7)) 3 (qv_move rfl) ?_
    refine go_q0 24 (.binOp .lss 3 (.tmp 23) (.const (.int .i64 0)) 3) 4 (qv_lss (b := false) rfl rfl (decide_eq_false (by omega))) ?_
    refine go_q0 22 (.assign (.tmp 24)) 4 (qv_assign rfl) ?_
    refine go_nil ?_
    change G _ _ _ _
    refine p_weaken [0, 2, 4, 6, 7, 22] rfl ?_
    refine p_condF (.tmp 22) (by kernel_rfl) rfl ?_
    refine p_seq0 ?_
    refine p_plain0 (0 :: 1 :: 2 :: 3 :: 4 :: 5 :: 6 :: 7 :: 8 :: 9 :: []) ?_
    refine go_q0 26 (.move (.tmp 0)) 78 (qv_move rfl) ?_
    refine go_q0 27 (.nilCheck (.tmp 26)) 0 (qv_nilCheck rfl) ?_
    refine go_q0 28 (.fieldAddr 126 (.tmp 27) 0) 0 (qv_field rfl fd126_0) ?_
    refine go_q0 29 (.load 124 (.tmp 28)) 124 (qv_load rfl .auto (ldv_sca sc124 (get_Tab_0 _))) ?_
    refine go_q0 30 (.move (.tmp 7)) 3 (qv_move rfl) ?_
    refine go_q0 31 (.indexAddr 124 (.tmp 29) (.tmp 30)) 0 (qv_index un124 sz146 rfl rfl rfl hpl) ?_
    refine go_q0 32 (.fieldAddr 146 (.tmp 31) 0) 0 (qv_field rfl fd146_0) ?_
    refine go_q0 33 (.load 4 (.tmp 32)) 4 (qv_load rfl .auto (ldv_el (slot_holds L) hs sc4 (get_Slot_0 s) rfl)) ?_
    refine go_q0 34 (.unOp .not 4 (.tmp 33)) 4 (qv_not rfl) ?_
    refine go_q0 25 (.assign (.tmp 34)) 4 (qv_assign rfl) ?_
    refine go_nil ?_
    change G _ _ _ _
    refine p_weaken [0, 2, 4, 6, 7, 25] rfl ?_
    refine p_cond (.tmp 25) (by kernel_rfl) rfl (fun h25 => ?_) (fun h25 => ?_)
    rotate_left
    · replace h25 := kn h25
      refine p_skip0 ?_
      change G _ _ _ _
      refine p_weaken [0, 2, 4, 6, 7] rfl ?_
      refine p_seq0 ?_
      refine p_draw (by kernel_rfl) mixed 9 10 _ (fun _ h => h) (by kernel_rfl) ?_
      refine gd_all (0 :: 1 :: 2 :: 3 :: 4 :: 5 :: 6 :: 7 :: 8 :: []) _ rfl (by kernel_rfl) (by decide) (fun _ h => h) rfl ?_
      refine sq_q0 42 (.move (.tmp 0)) 78 (qv_move rfl) ?_
      refine sq_q0 43 (.nilCheck (.tmp 42)) 0 (qv_nilCheck rfl) ?_
      refine sq_q0 44 (.fieldAddr 126 (.tmp 43) 0) 0 (qv_field rfl fd126_0) ?_
      refine sq_q0 45 (.load 124 (.tmp 44)) 124 (qv_load rfl .auto (ldv_sca sc124 (get_Tab_0 _))) ?_
      refine sq_q0 46 (.move (.tmp 7)) 3 (qv_move rfl) ?_
      refine sq_q0 47 (.load 29 (.tmp 4)) 29 (qv_load rfl .auto (ldv_agg agg29 (extw_Key _) (Nat.le_of_ble_eq_true rfl))) ?_
      refine sq_q0 48 (.move (.tmp 2)) 23 (qv_move rfl) ?_
      refine sq_q0 49 (.build 146 #[(0, .const (.bool true)), (1, .tmp 47), (2, .tmp 48)]) 146 (qv_build rfl (bld146_0_1_2 _ _ _)) ?_
      refine sq_q0 50 (.indexAddr 124 (.tmp 45) (.tmp 46)) 0 (qv_index un124 sz146 rfl rfl rfl hpl) ?_
      refine SeqK.nil (fun β => ?_)
      refine gd_tail [9] rfl (by kernel_rfl) (by kernel_rfl) ?_
      refine go_s0 none (.store 146 (.tmp 50) (.tmp 49)) 0 ?_
      refine os_store rfl rfl sz146 rfl (one_Slot _) (by repeat first | exact .here | apply Up.next | apply Up.app) (flat_fit eSlot hpl) (splice_flat eSlot ⟨true, k, n⟩ hpl) ?_
      refine go_nil ?_
      change G _ _ _ _
      refine p_weaken [6] rfl ?_
      refine p_seq0 ?_
      refine p_plain0 (0 :: []) ?_
      refine go_q0 6 (.assign (.const (.int .i64 0))) 44 (qv_assign rfl) ?_
      refine go_nil ?_
      change G _ _ _ _
      refine p_ret0 ?_
      try dsimp only [thenQ, inBlockQ]
      try rw [if_pos rfl]
      refine ret_leftP ([tabO bt bs L.length many, slotO bs (L.set (place L.length k i) ⟨true, k, n⟩)]) (.inr rfl) (.cons (res_tmp rfl) .nil) (⟨[_], List.perm_append_comm (l₁ := [_]) (l₂ := [_, _])⟩) ?_
      exact ⟨by simp [putR, hf, h18, E.valOf], by simp [putR, hf, hs, h18, h25]⟩
    replace h25 := kn h25
    refine p_plain0 (0 :: 1 :: 2 :: 3 :: 4 :: 5 :: 6 :: 7 :: []) ?_
    refine go_q0 35 (.move (.tmp 0)) 78 (qv_move rfl) ?_
    refine go_q0 36 (.nilCheck (.tmp 35)) 0 (qv_nilCheck rfl) ?_
    refine go_q0 37 (.fieldAddr 126 (.tmp 36) 1) 0 (qv_field rfl fd126_1) ?_
    refine go_q0 38 (.load 3 (.tmp 37)) 3 (qv_load rfl .auto (ldv_sca sc3 (get_Tab_1 _))) ?_
    refine go_q0 39 (.binOp .add 3 (.tmp 38) (.const (.int .i64 1)) 3) 3 (qv_add rfl rfl (by first | exact IntWalk.i64_in _ (by omega) | exact IntWalk.i64_in _ (by dsimp only; omega) | rfl)) ?_
    refine go_q0 40 (.nilCheck (.tmp 35)) 0 (qv_nilCheck rfl) ?_
    refine go_q0 41 (.fieldAddr 126 (.tmp 40) 1) 0 (qv_field rfl fd126_1) ?_
    refine go_s0 none (.store 3 (.tmp 41) (.tmp 39)) 0 ?_
    refine os_store1 rfl rfl sz3 rfl rfl .auto (Nat.le_of_ble_eq_true rfl) (set_Tab_1 _ _) ?_
    refine go_nil ?_
    change G _ _ _ _
    refine p_weaken [0, 2, 4, 6, 7] rfl ?_
    refine p_seq0 ?_
    refine p_draw (by kernel_rfl) mixed 9 10 _ (fun _ h => h) (by kernel_rfl) ?_
    refine gd_all (0 :: 1 :: 2 :: 3 :: 4 :: 5 :: 6 :: 7 :: 8 :: []) _ rfl (by kernel_rfl) (by decide) (fun _ h => h) rfl ?_
    refine sq_q0 42 (.move (.tmp 0)) 78 (qv_move rfl) ?_
    refine sq_q0 43 (.nilCheck (.tmp 42)) 0 (qv_nilCheck rfl) ?_
    refine sq_q0 44 (.fieldAddr 126 (.tmp 43) 0) 0 (qv_field rfl fd126_0) ?_
    refine sq_q0 45 (.load 124 (.tmp 44)) 124 (qv_load rfl .auto (ldv_sca sc124 (get_Tab_0 _))) ?_
    refine sq_q0 46 (.move (.tmp 7)) 3 (qv_move rfl) ?_
    refine sq_q0 47 (.load 29 (.tmp 4)) 29 (qv_load rfl .auto (ldv_agg agg29 (extw_Key _) (Nat.le_of_ble_eq_true rfl))) ?_
    refine sq_q0 48 (.move (.tmp 2)) 23 (qv_move rfl) ?_
    refine sq_q0 49 (.build 146 #[(0, .const (.bool true)), (1, .tmp 47), (2, .tmp 48)]) 146 (qv_build rfl (bld146_0_1_2 _ _ _)) ?_
    refine sq_q0 50 (.indexAddr 124 (.tmp 45) (.tmp 46)) 0 (qv_index un124 sz146 rfl rfl rfl hpl) ?_
    refine SeqK.nil (fun β => ?_)
    refine gd_tail [9] rfl (by kernel_rfl) (by kernel_rfl) ?_
    refine go_s0 none (.store 146 (.tmp 50) (.tmp 49)) 0 ?_
    refine os_store rfl rfl sz146 rfl (one_Slot _) (by repeat first | exact .here | apply Up.next | apply Up.app) (flat_fit eSlot hpl) (splice_flat eSlot ⟨true, k, n⟩ hpl) ?_
    refine go_nil ?_
    change G _ _ _ _
    refine p_weaken [6] rfl ?_
    refine p_seq0 ?_
    refine p_plain0 (0 :: []) ?_
    refine go_q0 6 (.assign (.const (.int .i64 0))) 44 (qv_assign rfl) ?_
    refine go_nil ?_
    change G _ _ _ _
    refine p_ret0 ?_
    try dsimp only [thenQ, inBlockQ]
    try rw [if_pos rfl]
    refine ret_leftP ([tabO bt bs L.length (many + 1), slotO bs (L.set (place L.length k i) ⟨true, k, n⟩)]) (.inr rfl) (.cons (res_tmp rfl) .nil) (⟨[_], List.perm_append_comm (l₁ := [_]) (l₂ := [_, _])⟩) ?_
    exact ⟨by simp [putR, hf, h18, E.valOf], by simp [putR, hf, hs, h18, h25]⟩

end Go.Proofs.YtobmcpoejhhemaaGreat
