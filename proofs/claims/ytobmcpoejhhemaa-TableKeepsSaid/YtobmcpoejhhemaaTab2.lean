/- Contracts: the table: has, Probes, Get, Put, Slots, New, Clear. -/
import Derived.Test.YtobmcpoejhhemaaTab
namespace Go.Proofs.Ytobmcpoejhhemaa
open Go.E

theorem ct_findN {bt bs : Nat} {many : Int} {L : List Slot} {k : Key} (hk : k.Wf) (h1 : 1 ≤ L.length) (h2 : L.length ≤ 65536) (hf : findI L k = none) :
    Ct Try.prog 93 [.pointer (some ⟨bt, 0, none⟩), .agg k.c].toArray [tabO bt bs L.length many, slotO bs L] (fun v M' => v = .tuple #[.int .i64 (-1), .int .i64 L.length] ∧ M' = [tabO bt bs L.length many, slotO bs L]) :=
  (ct_find hk h1 h2).mono fun v M' ⟨h, hm⟩ => ⟨by rw [h]; unfold findV; rw [hf], hm⟩
theorem ct_findS {bt bs : Nat} {many : Int} {L : List Slot} {k : Key} (hk : k.Wf) (h1 : 1 ≤ L.length) (h2 : L.length ≤ 65536) {i : Nat} (hf : findI L k = some i) :
    Ct Try.prog 93 [.pointer (some ⟨bt, 0, none⟩), .agg k.c].toArray [tabO bt bs L.length many, slotO bs L] (fun v M' => v = .tuple #[.int .i64 (place L.length k i), .int .i64 ((i + 1 : Nat) : Int)] ∧ M' = [tabO bt bs L.length many, slotO bs L]) :=
  (ct_find hk h1 h2).mono fun v M' ⟨h, hm⟩ => ⟨by rw [h]; unfold findV; rw [hf], hm⟩

/-- The key's place. -/
def hasI (L : List Slot) (k : Key) : Option Nat := match findI L k with
  | some i => match L[place L.length k i]? with
    | some s => if s.used then some (place L.length k i) else none
    | none => none
  | none => none
def hasV (o : Option Nat) : Int := match o with
  | some j => j
  | none => -1
theorem ct_has {bt bs : Nat} {many : Int} {L : List Slot} {k : Key} (hk : k.Wf) (h1 : 1 ≤ L.length) (h2 : L.length ≤ 65536) :
    Ct Try.prog 97 [.pointer (some ⟨bt, 0, none⟩), .agg k.c].toArray [tabO bt bs L.length many, slotO bs L] (fun v M' => v = .int .i64 (hasV (hasI L k)) ∧ M' = [tabO bt bs L.length many, slotO bs L]) := by
  cases hf : findI L k with
  | none =>
    refine ct_body (rv := [.tmp 4]) [(0, _), (1, _)] Try.func97 (by kernel_rfl) Try.ntmps97 Try.results97 rfl rfl (fun w0 => ?_)
    refine p_seq (by kernel_rfl) ?_
    refine p_plain (by kernel_rfl) (0 :: 1 :: []) (by kernel_rfl) ?_
    refine go_s (d := some 3) (op := .box 27 (.tmp 1)) (ty := 0) (g := none) (by kernel_rfl) trivial ?_
    refine os_boxA rfl rfl (fun b3 => ?_)
    refine go_q (d := 4) (op := .assign (.const (.int .i64 0))) (ty := 3) (g := none) (by kernel_rfl) trivial rfl (qv_assign rfl) ?_
    refine go_nil ?_
    change G _ _ _ _
    refine p_weaken [0, 3, 4] rfl ?_
    refine p_seq (by kernel_rfl) ?_
    refine p_plain (by kernel_rfl) (0 :: 1 :: 2 :: 3 :: 4 :: 5 :: 6 :: 7 :: []) (by kernel_rfl) ?_
    refine go_q (d := 8) (op := .move (.tmp 0)) (ty := 83) (g := none) (by kernel_rfl) trivial rfl (qv_move rfl) ?_
    refine go_q (d := 9) (op := .load 27 (.tmp 3)) (ty := 27) (g := none) (by kernel_rfl) trivial rfl (qv_load rfl (by repeat first | exact .here | apply At.next | apply At.app) (ldv_agg agg27 (extw_Key _) (Nat.le_of_ble_eq_true rfl))) ?_
    refine go_s (d := some 10) (op := .call { callee := .value (.func 93), args := #[.tmp 8, .tmp 9], argTypes := #[83, 27] }) (ty := 119) (g := none) (by kernel_rfl) trivial ?_
    refine os_pv rfl (pv_callR en93 rfl (by first | ((repeat constructor); done) | (repeat first | exact Sel.nil | exact Sel.all | exact Sel.app | (apply Sel.cons; focus (repeat first | exact Tk.here | apply Tk.next | apply Tk.app)) | apply Sel.skip | apply Sel.skipA)) (ct_findN hk h1 h2 hf)) ?_
    refine go_q (d := 7) (op := .move (.tmp 10)) (ty := 119) (g := none) (by kernel_rfl) trivial rfl (qv_move rfl) ?_
    refine go_q (d := 11) (op := .extract (.tmp 7) 0) (ty := 3) (g := none) (by kernel_rfl) trivial rfl (qv_extract rfl rfl) ?_
    refine go_q (d := 12) (op := .extract (.tmp 7) 1) (ty := 3) (g := none) (by kernel_rfl) trivial rfl (qv_extract rfl rfl) ?_
    refine go_q (d := 5) (op := .assign (.tmp 11)) (ty := 3) (g := none) (by kernel_rfl) trivial rfl (qv_assign rfl) ?_
    refine go_q (d := 6) (op := .assign (.tmp 12)) (ty := 3) (g := none) (by kernel_rfl) trivial rfl (qv_assign rfl) ?_
    refine go_nil ?_
    change G _ _ _ _
    refine p_weaken [0, 4, 5] rfl ?_
    refine p_seq (by kernel_rfl) ?_
    refine p_seq (by kernel_rfl) ?_
    refine p_plain (by kernel_rfl) (0 :: 1 :: 2 :: 3 :: 4 :: 5 :: 6 :: 7 :: 8 :: 9 :: 10 :: 11 :: 12 :: []) (by kernel_rfl) ?_
    refine go_q (d := 13) (op := .move (.tmp 5)) (ty := 3) (g := none) (by kernel_rfl) trivial rfl (qv_move rfl) ?_
    refine go_q (d := 14) (op := .binOp .geq 3 (.tmp 13) (.const (.int .i64 0)) 3) (ty := 4) (g := none) (by kernel_rfl) trivial rfl (qv_geq (b := false) rfl rfl (decide_eq_false (by omega))) ?_
    refine go_q (d := 15) (op := .move (.tmp 14)) (ty := 4) (g := none) (by kernel_rfl) trivial rfl (qv_move rfl) ?_
    refine go_n (d := 16) (op := .move (.tmp 0)) (ty := 83) (g := some (2, true)) (by kernel_rfl) ⟨15, _, by kernel_rfl, rfl, rfl⟩ rfl ?_
    refine go_n (d := 17) (op := .nilCheck (.tmp 16)) (ty := 0) (g := some (2, true)) (by kernel_rfl) ⟨15, _, by kernel_rfl, rfl, rfl⟩ rfl ?_
    refine go_n (d := 18) (op := .fieldAddr 172 (.tmp 17) 0) (ty := 0) (g := some (2, true)) (by kernel_rfl) ⟨15, _, by kernel_rfl, rfl, rfl⟩ rfl ?_
    refine go_n (d := 19) (op := .load 124 (.tmp 18)) (ty := 124) (g := some (2, true)) (by kernel_rfl) ⟨15, _, by kernel_rfl, rfl, rfl⟩ rfl ?_
    refine go_n (d := 20) (op := .move (.tmp 5)) (ty := 3) (g := some (2, true)) (by kernel_rfl) ⟨15, _, by kernel_rfl, rfl, rfl⟩ rfl ?_
    refine go_n (d := 21) (op := .indexAddr 124 (.tmp 19) (.tmp 20)) (ty := 0) (g := some (2, true)) (by kernel_rfl) ⟨15, _, by kernel_rfl, rfl, rfl⟩ rfl ?_
    refine go_n (d := 22) (op := .fieldAddr 175 (.tmp 21) 0) (ty := 0) (g := some (2, true)) (by kernel_rfl) ⟨15, _, by kernel_rfl, rfl, rfl⟩ rfl ?_
    refine go_n (d := 23) (op := .load 4 (.tmp 22)) (ty := 4) (g := some (2, true)) (by kernel_rfl) ⟨15, _, by kernel_rfl, rfl, rfl⟩ rfl ?_
    refine go_n (d := 24) (op := .unOp .not 4 (.tmp 23)) (ty := 4) (g := some (2, true)) (by kernel_rfl) ⟨15, _, by kernel_rfl, rfl, rfl⟩ rfl ?_
    refine go_q (d := 25) (op := .pick (.tmp 15) (.tmp 24) (.const (.bool false))) (ty := 4) (g := none) (by kernel_rfl) trivial rfl (qv_pick_f rfl rfl) ?_
    refine go_nil ?_
    change G _ _ _ _
    refine p_weaken [4, 5, 25] rfl ?_
    refine p_condF (.tmp 25) (by kernel_rfl) rfl ?_
    refine p_skip (by kernel_rfl) ?_
    change G _ _ _ _
    refine p_weaken [4, 5] rfl ?_
    refine p_seq (by kernel_rfl) ?_
    refine p_plain (by kernel_rfl) (0 :: 1 :: []) (by kernel_rfl) ?_
    refine go_q (d := 26) (op := .move (.tmp 5)) (ty := 3) (g := none) (by kernel_rfl) trivial rfl (qv_move rfl) ?_
    refine go_q (d := 4) (op := .assign (.tmp 26)) (ty := 3) (g := none) (by kernel_rfl) trivial rfl (qv_assign rfl) ?_
    refine go_nil ?_
    change G _ _ _ _
    refine p_weaken [4] rfl ?_
    refine p_ret (by kernel_rfl) ?_
    try dsimp only [thenQ, inBlockQ]
    try rw [if_pos rfl]
    refine ret_left ([tabO bt bs L.length many, slotO bs L]) (.inr rfl) (.cons (res_tmp rfl) .nil) (by first | ((repeat first | exact .refl | exact Sb.app | apply Sb.keep | apply Sb.app_keep | apply Sb.skip | apply Sb.app_skip); done) | exact Sb.of_cnt fun x => by (simp only [List.count_append, List.count_cons, List.count_nil]; omega)) ?_
    exact ⟨by simp only [hasI, hf]; rfl, rfl⟩
  | some i =>
    have hpl := place_lt (n := L.length) (by omega) k i
    obtain ⟨s, hs⟩ : ∃ s, L[place L.length k i]? = some s := ⟨_, List.getElem?_eq_getElem hpl⟩
    refine ct_body (rv := [.tmp 4]) [(0, _), (1, _)] Try.func97 (by kernel_rfl) Try.ntmps97 Try.results97 rfl rfl (fun w0 => ?_)
    refine p_seq (by kernel_rfl) ?_
    refine p_plain (by kernel_rfl) (0 :: 1 :: []) (by kernel_rfl) ?_
    refine go_s (d := some 3) (op := .box 27 (.tmp 1)) (ty := 0) (g := none) (by kernel_rfl) trivial ?_
    refine os_boxA rfl rfl (fun b3 => ?_)
    refine go_q (d := 4) (op := .assign (.const (.int .i64 0))) (ty := 3) (g := none) (by kernel_rfl) trivial rfl (qv_assign rfl) ?_
    refine go_nil ?_
    change G _ _ _ _
    refine p_weaken [0, 3, 4] rfl ?_
    refine p_seq (by kernel_rfl) ?_
    refine p_plain (by kernel_rfl) (0 :: 1 :: 2 :: 3 :: 4 :: 5 :: 6 :: 7 :: []) (by kernel_rfl) ?_
    refine go_q (d := 8) (op := .move (.tmp 0)) (ty := 83) (g := none) (by kernel_rfl) trivial rfl (qv_move rfl) ?_
    refine go_q (d := 9) (op := .load 27 (.tmp 3)) (ty := 27) (g := none) (by kernel_rfl) trivial rfl (qv_load rfl (by repeat first | exact .here | apply At.next | apply At.app) (ldv_agg agg27 (extw_Key _) (Nat.le_of_ble_eq_true rfl))) ?_
    refine go_s (d := some 10) (op := .call { callee := .value (.func 93), args := #[.tmp 8, .tmp 9], argTypes := #[83, 27] }) (ty := 119) (g := none) (by kernel_rfl) trivial ?_
    refine os_pv rfl (pv_callR en93 rfl (by first | ((repeat constructor); done) | (repeat first | exact Sel.nil | exact Sel.all | exact Sel.app | (apply Sel.cons; focus (repeat first | exact Tk.here | apply Tk.next | apply Tk.app)) | apply Sel.skip | apply Sel.skipA)) (ct_findS hk h1 h2 hf)) ?_
    refine go_q (d := 7) (op := .move (.tmp 10)) (ty := 119) (g := none) (by kernel_rfl) trivial rfl (qv_move rfl) ?_
    refine go_q (d := 11) (op := .extract (.tmp 7) 0) (ty := 3) (g := none) (by kernel_rfl) trivial rfl (qv_extract rfl rfl) ?_
    refine go_q (d := 12) (op := .extract (.tmp 7) 1) (ty := 3) (g := none) (by kernel_rfl) trivial rfl (qv_extract rfl rfl) ?_
    refine go_q (d := 5) (op := .assign (.tmp 11)) (ty := 3) (g := none) (by kernel_rfl) trivial rfl (qv_assign rfl) ?_
    refine go_q (d := 6) (op := .assign (.tmp 12)) (ty := 3) (g := none) (by kernel_rfl) trivial rfl (qv_assign rfl) ?_
    refine go_nil ?_
    change G _ _ _ _
    refine p_weaken [0, 4, 5] rfl ?_
    refine p_seq (by kernel_rfl) ?_
    refine p_seq (by kernel_rfl) ?_
    refine p_plain (by kernel_rfl) (0 :: 1 :: 2 :: 3 :: 4 :: 5 :: 6 :: 7 :: 8 :: 9 :: 10 :: 11 :: 12 :: []) (by kernel_rfl) ?_
    refine go_q (d := 13) (op := .move (.tmp 5)) (ty := 3) (g := none) (by kernel_rfl) trivial rfl (qv_move rfl) ?_
    refine go_q (d := 14) (op := .binOp .geq 3 (.tmp 13) (.const (.int .i64 0)) 3) (ty := 4) (g := none) (by kernel_rfl) trivial rfl (qv_geq (b := true) rfl rfl (decide_eq_true (by omega))) ?_
    refine go_q (d := 15) (op := .move (.tmp 14)) (ty := 4) (g := none) (by kernel_rfl) trivial rfl (qv_move rfl) ?_
    refine go_q (d := 16) (op := .move (.tmp 0)) (ty := 83) (g := some (2, true)) (by kernel_rfl) ⟨15, by kernel_rfl, rfl⟩ rfl (qv_move rfl) ?_
    refine go_q (d := 17) (op := .nilCheck (.tmp 16)) (ty := 0) (g := some (2, true)) (by kernel_rfl) ⟨15, by kernel_rfl, rfl⟩ rfl (qv_nilCheck rfl) ?_
    refine go_q (d := 18) (op := .fieldAddr 172 (.tmp 17) 0) (ty := 0) (g := some (2, true)) (by kernel_rfl) ⟨15, by kernel_rfl, rfl⟩ rfl (qv_field rfl fd172_0) ?_
    refine go_q (d := 19) (op := .load 124 (.tmp 18)) (ty := 124) (g := some (2, true)) (by kernel_rfl) ⟨15, by kernel_rfl, rfl⟩ rfl (qv_load rfl (by repeat first | exact .here | apply At.next | apply At.app) (ldv_sca sc124 (get_Tab_0 _))) ?_
    refine go_q (d := 20) (op := .move (.tmp 5)) (ty := 3) (g := some (2, true)) (by kernel_rfl) ⟨15, by kernel_rfl, rfl⟩ rfl (qv_move rfl) ?_
    refine go_q (d := 21) (op := .indexAddr 124 (.tmp 19) (.tmp 20)) (ty := 0) (g := some (2, true)) (by kernel_rfl) ⟨15, by kernel_rfl, rfl⟩ rfl (qv_index un124 sz175 rfl rfl rfl hpl) ?_
    refine go_q (d := 22) (op := .fieldAddr 175 (.tmp 21) 0) (ty := 0) (g := some (2, true)) (by kernel_rfl) ⟨15, by kernel_rfl, rfl⟩ rfl (qv_field rfl fd175_0) ?_
    refine go_q (d := 23) (op := .load 4 (.tmp 22)) (ty := 4) (g := some (2, true)) (by kernel_rfl) ⟨15, by kernel_rfl, rfl⟩ rfl (qv_load rfl (by repeat first | exact .here | apply At.next | apply At.app) (ldv_el (slot_holds L) hs sc4 (get_Slot_0 s) rfl)) ?_
    refine go_q (d := 24) (op := .unOp .not 4 (.tmp 23)) (ty := 4) (g := some (2, true)) (by kernel_rfl) ⟨15, by kernel_rfl, rfl⟩ rfl (qv_not rfl) ?_
    refine go_q (d := 25) (op := .pick (.tmp 15) (.tmp 24) (.const (.bool false))) (ty := 4) (g := none) (by kernel_rfl) trivial rfl (qv_pick_t rfl rfl) ?_
    refine go_nil ?_
    change G _ _ _ _
    refine p_weaken [4, 5, 25] rfl ?_
    refine p_cond (.tmp 25) (by kernel_rfl) rfl (fun h25 => ?_) (fun h25 => ?_)
    · try first | replace h25 := t_nd h25 | replace h25 := f_nd h25 | replace h25 := t_nbb h25 | replace h25 := f_nbb h25 | replace h25 := t_not h25 | replace h25 := f_not h25 | replace h25 := t_eq h25 | replace h25 := f_eq h25 | replace h25 := t_ne h25 | replace h25 := f_ne h25 | replace h25 := t_bb h25 | replace h25 := f_bb h25 | replace h25 := of_decide_eq_true h25 | replace h25 := of_decide_eq_false h25
      refine p_seq (by kernel_rfl) ?_
      refine p_plain (by kernel_rfl) (0 :: []) (by kernel_rfl) ?_
      refine go_q (d := 4) (op := .assign (.const (.int .i64 (-1)))) (ty := 3) (g := none) (by kernel_rfl) trivial rfl (qv_assign rfl) ?_
      refine go_nil ?_
      change G _ _ _ _
      refine p_weaken [4, 5] rfl ?_
      refine p_ret (by kernel_rfl) ?_
      try dsimp only [thenQ, inBlockQ]
      try rw [if_pos rfl]
      refine ret_left ([tabO bt bs L.length many, slotO bs L]) (.inr rfl) (.cons (res_tmp rfl) .nil) (by first | ((repeat first | exact .refl | exact Sb.app | apply Sb.keep | apply Sb.app_keep | apply Sb.skip | apply Sb.app_skip); done) | exact Sb.of_cnt fun x => by (simp only [List.count_append, List.count_cons, List.count_nil]; omega)) ?_
      exact ⟨by simp [hasI, hf, hs, h25, hasV, E.valOf], rfl⟩
    · try first | replace h25 := t_nd h25 | replace h25 := f_nd h25 | replace h25 := t_nbb h25 | replace h25 := f_nbb h25 | replace h25 := t_not h25 | replace h25 := f_not h25 | replace h25 := t_eq h25 | replace h25 := f_eq h25 | replace h25 := t_ne h25 | replace h25 := f_ne h25 | replace h25 := t_bb h25 | replace h25 := f_bb h25 | replace h25 := of_decide_eq_true h25 | replace h25 := of_decide_eq_false h25
      refine p_skip (by kernel_rfl) ?_
      change G _ _ _ _
      refine p_weaken [4, 5] rfl ?_
      refine p_seq (by kernel_rfl) ?_
      refine p_plain (by kernel_rfl) (0 :: 1 :: []) (by kernel_rfl) ?_
      refine go_q (d := 26) (op := .move (.tmp 5)) (ty := 3) (g := none) (by kernel_rfl) trivial rfl (qv_move rfl) ?_
      refine go_q (d := 4) (op := .assign (.tmp 26)) (ty := 3) (g := none) (by kernel_rfl) trivial rfl (qv_assign rfl) ?_
      refine go_nil ?_
      change G _ _ _ _
      refine p_weaken [4] rfl ?_
      refine p_ret (by kernel_rfl) ?_
      try dsimp only [thenQ, inBlockQ]
      try rw [if_pos rfl]
      refine ret_left ([tabO bt bs L.length many, slotO bs L]) (.inr rfl) (.cons (res_tmp rfl) .nil) (by first | ((repeat first | exact .refl | exact Sb.app | apply Sb.keep | apply Sb.app_keep | apply Sb.skip | apply Sb.app_skip); done) | exact Sb.of_cnt fun x => by (simp only [List.count_append, List.count_cons, List.count_nil]; omega)) ?_
      exact ⟨by simp [hasI, hf, hs, h25, hasV, E.valOf], rfl⟩
theorem ct_Probes {bt bs : Nat} {many : Int} {L : List Slot} {k : Key} (hk : k.Wf) (h1 : 1 ≤ L.length) (h2 : L.length ≤ 65536) :
    Ct Try.prog 40 [.pointer (some ⟨bt, 0, none⟩), .agg k.c].toArray [tabO bt bs L.length many, slotO bs L] (fun v M' => v = .int .i64 (match findI L k with | some i => ((i + 1 : Nat) : Int) | none => L.length) ∧ M' = [tabO bt bs L.length many, slotO bs L]) := by
  cases hf : findI L k with
  | none =>
    refine ct_body (rv := [.tmp 4]) [(0, _), (1, _)] Try.func40 (by kernel_rfl) Try.ntmps40 Try.results40 rfl rfl (fun w0 => ?_)
    refine p_seq (by kernel_rfl) ?_
    refine p_plain (by kernel_rfl) (0 :: 1 :: []) (by kernel_rfl) ?_
    refine go_s (d := some 3) (op := .box 27 (.tmp 1)) (ty := 0) (g := none) (by kernel_rfl) trivial ?_
    refine os_boxA rfl rfl (fun b3 => ?_)
    refine go_q (d := 4) (op := .assign (.const (.int .i64 0))) (ty := 3) (g := none) (by kernel_rfl) trivial rfl (qv_assign rfl) ?_
    refine go_nil ?_
    change G _ _ _ _
    refine p_weaken [0, 3, 4] rfl ?_
    refine p_seq (by kernel_rfl) ?_
    refine p_plain (by kernel_rfl) (0 :: 1 :: 2 :: 3 :: 4 :: 5 :: 6 :: 7 :: []) (by kernel_rfl) ?_
    refine go_q (d := 8) (op := .move (.tmp 0)) (ty := 83) (g := none) (by kernel_rfl) trivial rfl (qv_move rfl) ?_
    refine go_q (d := 9) (op := .load 27 (.tmp 3)) (ty := 27) (g := none) (by kernel_rfl) trivial rfl (qv_load rfl (by repeat first | exact .here | apply At.next | apply At.app) (ldv_agg agg27 (extw_Key _) (Nat.le_of_ble_eq_true rfl))) ?_
    refine go_s (d := some 10) (op := .call { callee := .value (.func 93), args := #[.tmp 8, .tmp 9], argTypes := #[83, 27] }) (ty := 119) (g := none) (by kernel_rfl) trivial ?_
    refine os_pv rfl (pv_callR en93 rfl (by first | ((repeat constructor); done) | (repeat first | exact Sel.nil | exact Sel.all | exact Sel.app | (apply Sel.cons; focus (repeat first | exact Tk.here | apply Tk.next | apply Tk.app)) | apply Sel.skip | apply Sel.skipA)) (ct_findN hk h1 h2 hf)) ?_
    refine go_q (d := 7) (op := .move (.tmp 10)) (ty := 119) (g := none) (by kernel_rfl) trivial rfl (qv_move rfl) ?_
    refine go_q (d := 11) (op := .extract (.tmp 7) 0) (ty := 3) (g := none) (by kernel_rfl) trivial rfl (qv_extract rfl rfl) ?_
    refine go_q (d := 12) (op := .extract (.tmp 7) 1) (ty := 3) (g := none) (by kernel_rfl) trivial rfl (qv_extract rfl rfl) ?_
    refine go_q (d := 5) (op := .assign (.tmp 11)) (ty := 3) (g := none) (by kernel_rfl) trivial rfl (qv_assign rfl) ?_
    refine go_q (d := 6) (op := .assign (.tmp 12)) (ty := 3) (g := none) (by kernel_rfl) trivial rfl (qv_assign rfl) ?_
    refine go_nil ?_
    change G _ _ _ _
    refine p_weaken [4, 6] rfl ?_
    refine p_seq (by kernel_rfl) ?_
    refine p_plain (by kernel_rfl) (0 :: 1 :: []) (by kernel_rfl) ?_
    refine go_q (d := 13) (op := .move (.tmp 6)) (ty := 3) (g := none) (by kernel_rfl) trivial rfl (qv_move rfl) ?_
    refine go_q (d := 4) (op := .assign (.tmp 13)) (ty := 3) (g := none) (by kernel_rfl) trivial rfl (qv_assign rfl) ?_
    refine go_nil ?_
    change G _ _ _ _
    refine p_weaken [4] rfl ?_
    refine p_ret (by kernel_rfl) ?_
    try dsimp only [thenQ, inBlockQ]
    try rw [if_pos rfl]
    refine ret_left ([tabO bt bs L.length many, slotO bs L]) (.inr rfl) (.cons (res_tmp rfl) .nil) (by first | ((repeat first | exact .refl | exact Sb.app | apply Sb.keep | apply Sb.app_keep | apply Sb.skip | apply Sb.app_skip); done) | exact Sb.of_cnt fun x => by (simp only [List.count_append, List.count_cons, List.count_nil]; omega)) ?_
    exact ⟨rfl, rfl⟩
  | some i =>
    refine ct_body (rv := [.tmp 4]) [(0, _), (1, _)] Try.func40 (by kernel_rfl) Try.ntmps40 Try.results40 rfl rfl (fun w0 => ?_)
    refine p_seq (by kernel_rfl) ?_
    refine p_plain (by kernel_rfl) (0 :: 1 :: []) (by kernel_rfl) ?_
    refine go_s (d := some 3) (op := .box 27 (.tmp 1)) (ty := 0) (g := none) (by kernel_rfl) trivial ?_
    refine os_boxA rfl rfl (fun b3 => ?_)
    refine go_q (d := 4) (op := .assign (.const (.int .i64 0))) (ty := 3) (g := none) (by kernel_rfl) trivial rfl (qv_assign rfl) ?_
    refine go_nil ?_
    change G _ _ _ _
    refine p_weaken [0, 3, 4] rfl ?_
    refine p_seq (by kernel_rfl) ?_
    refine p_plain (by kernel_rfl) (0 :: 1 :: 2 :: 3 :: 4 :: 5 :: 6 :: 7 :: []) (by kernel_rfl) ?_
    refine go_q (d := 8) (op := .move (.tmp 0)) (ty := 83) (g := none) (by kernel_rfl) trivial rfl (qv_move rfl) ?_
    refine go_q (d := 9) (op := .load 27 (.tmp 3)) (ty := 27) (g := none) (by kernel_rfl) trivial rfl (qv_load rfl (by repeat first | exact .here | apply At.next | apply At.app) (ldv_agg agg27 (extw_Key _) (Nat.le_of_ble_eq_true rfl))) ?_
    refine go_s (d := some 10) (op := .call { callee := .value (.func 93), args := #[.tmp 8, .tmp 9], argTypes := #[83, 27] }) (ty := 119) (g := none) (by kernel_rfl) trivial ?_
    refine os_pv rfl (pv_callR en93 rfl (by first | ((repeat constructor); done) | (repeat first | exact Sel.nil | exact Sel.all | exact Sel.app | (apply Sel.cons; focus (repeat first | exact Tk.here | apply Tk.next | apply Tk.app)) | apply Sel.skip | apply Sel.skipA)) (ct_findS hk h1 h2 hf)) ?_
    refine go_q (d := 7) (op := .move (.tmp 10)) (ty := 119) (g := none) (by kernel_rfl) trivial rfl (qv_move rfl) ?_
    refine go_q (d := 11) (op := .extract (.tmp 7) 0) (ty := 3) (g := none) (by kernel_rfl) trivial rfl (qv_extract rfl rfl) ?_
    refine go_q (d := 12) (op := .extract (.tmp 7) 1) (ty := 3) (g := none) (by kernel_rfl) trivial rfl (qv_extract rfl rfl) ?_
    refine go_q (d := 5) (op := .assign (.tmp 11)) (ty := 3) (g := none) (by kernel_rfl) trivial rfl (qv_assign rfl) ?_
    refine go_q (d := 6) (op := .assign (.tmp 12)) (ty := 3) (g := none) (by kernel_rfl) trivial rfl (qv_assign rfl) ?_
    refine go_nil ?_
    change G _ _ _ _
    refine p_weaken [4, 6] rfl ?_
    refine p_seq (by kernel_rfl) ?_
    refine p_plain (by kernel_rfl) (0 :: 1 :: []) (by kernel_rfl) ?_
    refine go_q (d := 13) (op := .move (.tmp 6)) (ty := 3) (g := none) (by kernel_rfl) trivial rfl (qv_move rfl) ?_
    refine go_q (d := 4) (op := .assign (.tmp 13)) (ty := 3) (g := none) (by kernel_rfl) trivial rfl (qv_assign rfl) ?_
    refine go_nil ?_
    change G _ _ _ _
    refine p_weaken [4] rfl ?_
    refine p_ret (by kernel_rfl) ?_
    try dsimp only [thenQ, inBlockQ]
    try rw [if_pos rfl]
    refine ret_left ([tabO bt bs L.length many, slotO bs L]) (.inr rfl) (.cons (res_tmp rfl) .nil) (by first | ((repeat first | exact .refl | exact Sb.app | apply Sb.keep | apply Sb.app_keep | apply Sb.skip | apply Sb.app_skip); done) | exact Sb.of_cnt fun x => by (simp only [List.count_append, List.count_cons, List.count_nil]; omega)) ?_
    exact ⟨rfl, rfl⟩
/-- What Get answers. -/
def getV (L : List Slot) (k : Key) : Value := match hasI L k with
  | some j => match L[j]? with
    | some s => .tuple #[.int .u64 s.n, .bool true]
    | none => .tuple #[.int .u64 0, .bool false]
  | none => .tuple #[.int .u64 0, .bool false]
theorem hasI_lt {L : List Slot} {k : Key} {j : Nat} (h : hasI L k = some j) : j < L.length := by
  unfold hasI at h
  split at h
  · split at h
    · rename_i i _ s hs
      split at h
      · cases h; exact (List.getElem?_eq_some_iff.1 hs).1
      · cases h
    · cases h
  · cases h
theorem ct_Get {bt bs : Nat} {many : Int} {L : List Slot} {k : Key} (hk : k.Wf) (h1 : 1 ≤ L.length) (h2 : L.length ≤ 65536) :
    Ct Try.prog 46 [.pointer (some ⟨bt, 0, none⟩), .agg k.c].toArray [tabO bt bs L.length many, slotO bs L] (fun v M' => v = getV L k ∧ M' = [tabO bt bs L.length many, slotO bs L]) := by
  have hh := ct_has (bt := bt) (bs := bs) (many := many) hk h1 h2
  cases hf : hasI L k with
  | none =>
    rw [hf] at hh
    refine ct_body (rv := [.tmp 4, .tmp 5]) [(0, _), (1, _)] Try.func46 (by kernel_rfl) Try.ntmps46 Try.results46 rfl rfl (fun w0 => ?_)
    refine p_seq (by kernel_rfl) ?_
    refine p_plain (by kernel_rfl) (0 :: 1 :: 2 :: []) (by kernel_rfl) ?_
    refine go_s (d := some 3) (op := .box 27 (.tmp 1)) (ty := 0) (g := none) (by kernel_rfl) trivial ?_
    refine os_boxA rfl rfl (fun b3 => ?_)
    refine go_q (d := 4) (op := .assign (.const (.int .u64 0))) (ty := 30) (g := none) (by kernel_rfl) trivial rfl (qv_assign rfl) ?_
    refine go_q (d := 5) (op := .assign (.const (.bool false))) (ty := 4) (g := none) (by kernel_rfl) trivial rfl (qv_assign rfl) ?_
    refine go_nil ?_
    change G _ _ _ _
    refine p_weaken [0, 3, 4, 5] rfl ?_
    refine p_seq (by kernel_rfl) ?_
    refine p_plain (by kernel_rfl) (0 :: 1 :: 2 :: 3 :: []) (by kernel_rfl) ?_
    refine go_q (d := 7) (op := .move (.tmp 0)) (ty := 83) (g := none) (by kernel_rfl) trivial rfl (qv_move rfl) ?_
    refine go_q (d := 8) (op := .load 27 (.tmp 3)) (ty := 27) (g := none) (by kernel_rfl) trivial rfl (qv_load rfl (by repeat first | exact .here | apply At.next | apply At.app) (ldv_agg agg27 (extw_Key _) (Nat.le_of_ble_eq_true rfl))) ?_
    refine go_s (d := some 9) (op := .call { callee := .value (.func 97), args := #[.tmp 7, .tmp 8], argTypes := #[83, 27] }) (ty := 3) (g := none) (by kernel_rfl) trivial ?_
    refine os_pv rfl (pv_callR en97 rfl (by first | ((repeat constructor); done) | (repeat first | exact Sel.nil | exact Sel.all | exact Sel.app | (apply Sel.cons; focus (repeat first | exact Tk.here | apply Tk.next | apply Tk.app)) | apply Sel.skip | apply Sel.skipA)) (hh)) ?_
    refine go_q (d := 6) (op := .assign (.tmp 9)) (ty := 3) (g := none) (by kernel_rfl) trivial rfl (qv_assign rfl) ?_
    refine go_nil ?_
    change G _ _ _ _
    refine p_weaken [0, 4, 5, 6] rfl ?_
    refine p_seq (by kernel_rfl) ?_
    refine p_seq (by kernel_rfl) ?_
    refine p_plain (by kernel_rfl) (0 :: 1 :: []) (by kernel_rfl) ?_
    refine go_q (d := 10) (op := .move (.tmp 6)) (ty := 3) (g := none) (by kernel_rfl) trivial rfl (qv_move rfl) ?_
    refine go_q (d := 11) (op := .binOp .lss 3 (.tmp 10) (.const (.int .i64 0)) 3) (ty := 4) (g := none) (by kernel_rfl) trivial rfl (qv_lss (b := true) rfl rfl (by decide)) ?_
    refine go_nil ?_
    change G _ _ _ _
    refine p_weaken [0, 4, 5, 6, 11] rfl ?_
    refine p_condT (.tmp 11) (by kernel_rfl) rfl ?_
    refine p_seq (by kernel_rfl) ?_
    refine p_plain (by kernel_rfl) (0 :: 1 :: []) (by kernel_rfl) ?_
    refine go_q (d := 4) (op := .assign (.const (.int .u64 0))) (ty := 30) (g := none) (by kernel_rfl) trivial rfl (qv_assign rfl) ?_
    refine go_q (d := 5) (op := .assign (.const (.bool false))) (ty := 4) (g := none) (by kernel_rfl) trivial rfl (qv_assign rfl) ?_
    refine go_nil ?_
    change G _ _ _ _
    refine p_weaken [0, 4, 5, 6] rfl ?_
    refine p_ret (by kernel_rfl) ?_
    try dsimp only [thenQ, inBlockQ]
    try rw [if_pos rfl]
    refine ret_left ([tabO bt bs L.length many, slotO bs L]) (.inr rfl) (.cons (res_tmp rfl) (.cons (res_tmp rfl) .nil)) (by first | ((repeat first | exact .refl | exact Sb.app | apply Sb.keep | apply Sb.app_keep | apply Sb.skip | apply Sb.app_skip); done) | exact Sb.of_cnt fun x => by (simp only [List.count_append, List.count_cons, List.count_nil]; omega)) ?_
    exact ⟨by simp only [getV, hf]; rfl, rfl⟩
  | some j =>
    rw [hf] at hh
    have hj := hasI_lt hf
    obtain ⟨s, hs⟩ : ∃ s, L[j]? = some s := ⟨_, List.getElem?_eq_getElem hj⟩
    refine ct_body (rv := [.tmp 4, .tmp 5]) [(0, _), (1, _)] Try.func46 (by kernel_rfl) Try.ntmps46 Try.results46 rfl rfl (fun w0 => ?_)
    refine p_seq (by kernel_rfl) ?_
    refine p_plain (by kernel_rfl) (0 :: 1 :: 2 :: []) (by kernel_rfl) ?_
    refine go_s (d := some 3) (op := .box 27 (.tmp 1)) (ty := 0) (g := none) (by kernel_rfl) trivial ?_
    refine os_boxA rfl rfl (fun b3 => ?_)
    refine go_q (d := 4) (op := .assign (.const (.int .u64 0))) (ty := 30) (g := none) (by kernel_rfl) trivial rfl (qv_assign rfl) ?_
    refine go_q (d := 5) (op := .assign (.const (.bool false))) (ty := 4) (g := none) (by kernel_rfl) trivial rfl (qv_assign rfl) ?_
    refine go_nil ?_
    change G _ _ _ _
    refine p_weaken [0, 3, 4, 5] rfl ?_
    refine p_seq (by kernel_rfl) ?_
    refine p_plain (by kernel_rfl) (0 :: 1 :: 2 :: 3 :: []) (by kernel_rfl) ?_
    refine go_q (d := 7) (op := .move (.tmp 0)) (ty := 83) (g := none) (by kernel_rfl) trivial rfl (qv_move rfl) ?_
    refine go_q (d := 8) (op := .load 27 (.tmp 3)) (ty := 27) (g := none) (by kernel_rfl) trivial rfl (qv_load rfl (by repeat first | exact .here | apply At.next | apply At.app) (ldv_agg agg27 (extw_Key _) (Nat.le_of_ble_eq_true rfl))) ?_
    refine go_s (d := some 9) (op := .call { callee := .value (.func 97), args := #[.tmp 7, .tmp 8], argTypes := #[83, 27] }) (ty := 3) (g := none) (by kernel_rfl) trivial ?_
    refine os_pv rfl (pv_callR en97 rfl (by first | ((repeat constructor); done) | (repeat first | exact Sel.nil | exact Sel.all | exact Sel.app | (apply Sel.cons; focus (repeat first | exact Tk.here | apply Tk.next | apply Tk.app)) | apply Sel.skip | apply Sel.skipA)) (hh)) ?_
    refine go_q (d := 6) (op := .assign (.tmp 9)) (ty := 3) (g := none) (by kernel_rfl) trivial rfl (qv_assign rfl) ?_
    refine go_nil ?_
    change G _ _ _ _
    refine p_weaken [0, 4, 5, 6] rfl ?_
    refine p_seq (by kernel_rfl) ?_
    refine p_seq (by kernel_rfl) ?_
    refine p_plain (by kernel_rfl) (0 :: 1 :: []) (by kernel_rfl) ?_
    refine go_q (d := 10) (op := .move (.tmp 6)) (ty := 3) (g := none) (by kernel_rfl) trivial rfl (qv_move rfl) ?_
    refine go_q (d := 11) (op := .binOp .lss 3 (.tmp 10) (.const (.int .i64 0)) 3) (ty := 4) (g := none) (by kernel_rfl) trivial rfl (qv_lss (b := false) rfl rfl (decide_eq_false (by unfold hasV; dsimp only; omega))) ?_
    refine go_nil ?_
    change G _ _ _ _
    refine p_weaken [0, 4, 5, 6, 11] rfl ?_
    refine p_condF (.tmp 11) (by kernel_rfl) rfl ?_
    refine p_skip (by kernel_rfl) ?_
    change G _ _ _ _
    refine p_weaken [0, 4, 5, 6] rfl ?_
    refine p_seq (by kernel_rfl) ?_
    refine p_plain (by kernel_rfl) (0 :: 1 :: 2 :: 3 :: 4 :: 5 :: 6 :: 7 :: 8 :: 9 :: []) (by kernel_rfl) ?_
    refine go_q (d := 12) (op := .move (.tmp 0)) (ty := 83) (g := none) (by kernel_rfl) trivial rfl (qv_move rfl) ?_
    refine go_q (d := 13) (op := .nilCheck (.tmp 12)) (ty := 0) (g := none) (by kernel_rfl) trivial rfl (qv_nilCheck rfl) ?_
    refine go_q (d := 14) (op := .fieldAddr 172 (.tmp 13) 0) (ty := 0) (g := none) (by kernel_rfl) trivial rfl (qv_field rfl fd172_0) ?_
    refine go_q (d := 15) (op := .load 124 (.tmp 14)) (ty := 124) (g := none) (by kernel_rfl) trivial rfl (qv_load rfl (by repeat first | exact .here | apply At.next | apply At.app) (ldv_sca sc124 (get_Tab_0 _))) ?_
    refine go_q (d := 16) (op := .move (.tmp 6)) (ty := 3) (g := none) (by kernel_rfl) trivial rfl (qv_move rfl) ?_
    refine go_q (d := 17) (op := .indexAddr 124 (.tmp 15) (.tmp 16)) (ty := 0) (g := none) (by kernel_rfl) trivial rfl (qv_index un124 sz175 rfl rfl (by unfold hasV; rfl) hj) ?_
    refine go_q (d := 18) (op := .fieldAddr 175 (.tmp 17) 2) (ty := 0) (g := none) (by kernel_rfl) trivial rfl (qv_field rfl fd175_2) ?_
    refine go_q (d := 19) (op := .load 30 (.tmp 18)) (ty := 30) (g := none) (by kernel_rfl) trivial rfl (qv_load rfl (by repeat first | exact .here | apply At.next | apply At.app) (ldv_el (slot_holds L) hs sc30 (get_Slot_38 s) rfl)) ?_
    refine go_q (d := 4) (op := .assign (.tmp 19)) (ty := 30) (g := none) (by kernel_rfl) trivial rfl (qv_assign rfl) ?_
    refine go_q (d := 5) (op := .assign (.const (.bool true))) (ty := 4) (g := none) (by kernel_rfl) trivial rfl (qv_assign rfl) ?_
    refine go_nil ?_
    change G _ _ _ _
    refine p_weaken [4, 5] rfl ?_
    refine p_ret (by kernel_rfl) ?_
    try dsimp only [thenQ, inBlockQ]
    try rw [if_pos rfl]
    refine ret_left ([tabO bt bs L.length many, slotO bs L]) (.inr rfl) (.cons (res_tmp rfl) (.cons (res_tmp rfl) .nil)) (by first | ((repeat first | exact .refl | exact Sb.app | apply Sb.keep | apply Sb.app_keep | apply Sb.skip | apply Sb.app_skip); done) | exact Sb.of_cnt fun x => by (simp only [List.count_append, List.count_cons, List.count_nil]; omega)) ?_
    exact ⟨by simp only [getV, hf, hs]; rfl, rfl⟩

/-- What Put does: its answer, the places, how many are used. -/
def putR (L : List Slot) (k : Key) (n many : Int) : Int × List Slot × Int :=
  if k.right then match findI L k with
    | none => (230, L, many)
    | some i => (0, L.set (place L.length k i) ⟨true, k, n⟩, match L[place L.length k i]? with
      | some s => if s.used then many else many + 1
      | none => many)
  else (2, L, many)
theorem ct_Put {bt bs : Nat} {many n : Int} {L : List Slot} {k : Key} (hk : k.Wf) (h1 : 1 ≤ L.length) (h2 : L.length ≤ 65536) (hm0 : 0 ≤ many) (hm1 : many ≤ 1000000) :
    Ct Try.prog 42 [.pointer (some ⟨bt, 0, none⟩), .agg k.c, .int .u64 n].toArray [tabO bt bs L.length many, slotO bs L] (fun v M' => v = .int .i64 (putR L k n many).1 ∧ M' = [tabO bt bs L.length (putR L k n many).2.2, slotO bs (putR L k n many).2.1]) := by
  cases hf : findI L k with
  | none =>
    refine ct_body (rv := [.tmp 6]) [(0, _), (1, _), (2, _)] Try.func42 (by kernel_rfl) Try.ntmps42 Try.results42 rfl rfl (fun w0 => ?_)
    refine p_seq (by kernel_rfl) ?_
    refine p_plain (by kernel_rfl) (0 :: 1 :: []) (by kernel_rfl) ?_
    refine go_s (d := some 4) (op := .box 27 (.tmp 1)) (ty := 0) (g := none) (by kernel_rfl) trivial ?_
    refine os_boxA rfl rfl (fun b4 => ?_)
    refine go_q (d := 6) (op := .assign (.const (.int .i64 0))) (ty := 61) (g := none) (by kernel_rfl) trivial rfl (qv_assign rfl) ?_
    refine go_nil ?_
    change G _ _ _ _
    refine p_weaken [0, 2, 4, 6] rfl ?_
    refine p_seq (by kernel_rfl) ?_
    refine p_plain (by kernel_rfl) (0 :: 1 :: 2 :: 3 :: 4 :: 5 :: 6 :: 7 :: []) (by kernel_rfl) ?_
    refine go_q (d := 10) (op := .move (.tmp 0)) (ty := 83) (g := none) (by kernel_rfl) trivial rfl (qv_move rfl) ?_
    refine go_q (d := 11) (op := .load 27 (.tmp 4)) (ty := 27) (g := none) (by kernel_rfl) trivial rfl (qv_load rfl (by repeat first | exact .here | apply At.next | apply At.app) (ldv_agg agg27 (extw_Key _) (Nat.le_of_ble_eq_true rfl))) ?_
    refine go_s (d := some 12) (op := .call { callee := .value (.func 93), args := #[.tmp 10, .tmp 11], argTypes := #[83, 27] }) (ty := 119) (g := none) (by kernel_rfl) trivial ?_
    refine os_pv rfl (pv_callR en93 rfl (by first | ((repeat constructor); done) | (repeat first | exact Sel.nil | exact Sel.all | exact Sel.app | (apply Sel.cons; focus (repeat first | exact Tk.here | apply Tk.next | apply Tk.app)) | apply Sel.skip | apply Sel.skipA)) (ct_findN hk h1 h2 hf)) ?_
    refine go_q (d := 9) (op := .move (.tmp 12)) (ty := 119) (g := none) (by kernel_rfl) trivial rfl (qv_move rfl) ?_
    refine go_q (d := 13) (op := .extract (.tmp 9) 0) (ty := 3) (g := none) (by kernel_rfl) trivial rfl (qv_extract rfl rfl) ?_
    refine go_q (d := 14) (op := .extract (.tmp 9) 1) (ty := 3) (g := none) (by kernel_rfl) trivial rfl (qv_extract rfl rfl) ?_
    refine go_q (d := 7) (op := .assign (.tmp 13)) (ty := 3) (g := none) (by kernel_rfl) trivial rfl (qv_assign rfl) ?_
    refine go_q (d := 8) (op := .assign (.tmp 14)) (ty := 3) (g := none) (by kernel_rfl) trivial rfl (qv_assign rfl) ?_
    refine go_nil ?_
    change G _ _ _ _
    refine p_weaken [0, 2, 4, 6, 7] rfl ?_
    refine p_seq (by kernel_rfl) ?_
    refine p_block 0 (by kernel_rfl) ?_
    refine p_seq (by kernel_rfl) ?_
    refine p_plain (by kernel_rfl) (0 :: 1 :: 2 :: []) (by kernel_rfl) ?_
    refine go_q (d := 16) (op := .move (.tmp 0)) (ty := 83) (g := none) (by kernel_rfl) trivial rfl (qv_move rfl) ?_
    refine go_q (d := 17) (op := .binOp .eql 83 (.tmp 16) (.const (.pointer none)) 83) (ty := 4) (g := none) (by kernel_rfl) trivial rfl (qv_eqlP un83 rfl) ?_
    refine go_q (d := 15) (op := .assign (.tmp 17)) (ty := 4) (g := none) (by kernel_rfl) trivial rfl (qv_assign rfl) ?_
    refine go_nil ?_
    change G _ _ _ _
    refine p_weaken [0, 2, 4, 6, 7, 15] rfl ?_
    refine p_condF (.tmp 15) (by kernel_rfl) rfl ?_
    refine p_seq (by kernel_rfl) ?_
    refine p_plain (by kernel_rfl) (0 :: 1 :: 2 :: 3 :: []) (by kernel_rfl) ?_
    refine go_q (d := 19) (op := .load 27 (.tmp 4)) (ty := 27) (g := none) (by kernel_rfl) trivial rfl (qv_load rfl (by repeat first | exact .here | apply At.next | apply At.app) (ldv_agg agg27 (extw_Key _) (Nat.le_of_ble_eq_true rfl))) ?_
    refine go_s (d := some 20) (op := .call { callee := .value (.func 43), args := #[.tmp 19], argTypes := #[27] }) (ty := 4) (g := none) (by kernel_rfl) trivial ?_
    refine os_callP rfl en43 rfl (pu_KeyRight k) ?_
    refine go_q (d := 21) (op := .unOp .not 4 (.tmp 20)) (ty := 4) (g := none) (by kernel_rfl) trivial rfl (qv_not rfl) ?_
    refine go_q (d := 18) (op := .assign (.tmp 21)) (ty := 4) (g := none) (by kernel_rfl) trivial rfl (qv_assign rfl) ?_
    refine go_nil ?_
    change G _ _ _ _
    refine p_weaken [0, 2, 4, 6, 7, 18] rfl ?_
    refine p_cond (.tmp 18) (by kernel_rfl) rfl (fun h18 => ?_) (fun h18 => ?_)
    · try first | replace h18 := t_nd h18 | replace h18 := f_nd h18 | replace h18 := t_nbb h18 | replace h18 := f_nbb h18 | replace h18 := t_not h18 | replace h18 := f_not h18 | replace h18 := t_eq h18 | replace h18 := f_eq h18 | replace h18 := t_ne h18 | replace h18 := f_ne h18 | replace h18 := t_bb h18 | replace h18 := f_bb h18 | replace h18 := of_decide_eq_true h18 | replace h18 := of_decide_eq_false h18
      refine p_seq (by kernel_rfl) ?_
      refine p_plain (by kernel_rfl) (0 :: []) (by kernel_rfl) ?_
      refine go_q (d := 6) (op := .assign (.const (.int .i64 2))) (ty := 61) (g := none) (by kernel_rfl) trivial rfl (qv_assign rfl) ?_
      refine go_nil ?_
      change G _ _ _ _
      refine p_weaken [0, 2, 4, 6, 7] rfl ?_
      refine p_ret (by kernel_rfl) ?_
      try dsimp only [thenQ, inBlockQ]
      try rw [if_pos rfl]
      refine ret_left ([tabO bt bs L.length many, slotO bs L]) (.inr rfl) (.cons (res_tmp rfl) .nil) (by first | ((repeat first | exact .refl | exact Sb.app | apply Sb.keep | apply Sb.app_keep | apply Sb.skip | apply Sb.app_skip); done) | exact Sb.of_cnt fun x => by (simp only [List.count_append, List.count_cons, List.count_nil]; omega)) ?_
      exact ⟨by simp [putR, hf, h18, E.valOf], by simp [putR, hf, h18]⟩
    · try first | replace h18 := t_nd h18 | replace h18 := f_nd h18 | replace h18 := t_nbb h18 | replace h18 := f_nbb h18 | replace h18 := t_not h18 | replace h18 := f_not h18 | replace h18 := t_eq h18 | replace h18 := f_eq h18 | replace h18 := t_ne h18 | replace h18 := f_ne h18 | replace h18 := t_bb h18 | replace h18 := f_bb h18 | replace h18 := of_decide_eq_true h18 | replace h18 := of_decide_eq_false h18
      refine p_seq (by kernel_rfl) ?_
      refine p_plain (by kernel_rfl) (0 :: 1 :: 2 :: []) (by kernel_rfl) ?_
      refine go_q (d := 23) (op := .move (.tmp 7)) (ty := 3) (g := none) (by kernel_rfl) trivial rfl (qv_move rfl) ?_
      refine go_q (d := 24) (op := .binOp .lss 3 (.tmp 23) (.const (.int .i64 0)) 3) (ty := 4) (g := none) (by kernel_rfl) trivial rfl (qv_lss (b := true) rfl rfl (decide_eq_true (by omega))) ?_
      refine go_q (d := 22) (op := .assign (.tmp 24)) (ty := 4) (g := none) (by kernel_rfl) trivial rfl (qv_assign rfl) ?_
      refine go_nil ?_
      change G _ _ _ _
      refine p_weaken [0, 2, 4, 6, 7, 22] rfl ?_
      refine p_condT (.tmp 22) (by kernel_rfl) rfl ?_
      refine p_seq (by kernel_rfl) ?_
      refine p_plain (by kernel_rfl) (0 :: []) (by kernel_rfl) ?_
      refine go_q (d := 6) (op := .assign (.const (.int .i64 230))) (ty := 61) (g := none) (by kernel_rfl) trivial rfl (qv_assign rfl) ?_
      refine go_nil ?_
      change G _ _ _ _
      refine p_weaken [0, 2, 4, 6, 7] rfl ?_
      refine p_ret (by kernel_rfl) ?_
      try dsimp only [thenQ, inBlockQ]
      try rw [if_pos rfl]
      refine ret_left ([tabO bt bs L.length many, slotO bs L]) (.inr rfl) (.cons (res_tmp rfl) .nil) (by first | ((repeat first | exact .refl | exact Sb.app | apply Sb.keep | apply Sb.app_keep | apply Sb.skip | apply Sb.app_skip); done) | exact Sb.of_cnt fun x => by (simp only [List.count_append, List.count_cons, List.count_nil]; omega)) ?_
      exact ⟨by simp [putR, hf, h18, E.valOf], by simp [putR, hf, h18]⟩
  | some i =>
    have hpl := place_lt (n := L.length) (by omega) k i
    obtain ⟨s, hs⟩ : ∃ s, L[place L.length k i]? = some s := ⟨_, List.getElem?_eq_getElem hpl⟩
    refine ct_body (rv := [.tmp 6]) [(0, _), (1, _), (2, _)] Try.func42 (by kernel_rfl) Try.ntmps42 Try.results42 rfl rfl (fun w0 => ?_)
    refine p_seq (by kernel_rfl) ?_
    refine p_plain (by kernel_rfl) (0 :: 1 :: []) (by kernel_rfl) ?_
    refine go_s (d := some 4) (op := .box 27 (.tmp 1)) (ty := 0) (g := none) (by kernel_rfl) trivial ?_
    refine os_boxA rfl rfl (fun b4 => ?_)
    refine go_q (d := 6) (op := .assign (.const (.int .i64 0))) (ty := 61) (g := none) (by kernel_rfl) trivial rfl (qv_assign rfl) ?_
    refine go_nil ?_
    change G _ _ _ _
    refine p_weaken [0, 2, 4, 6] rfl ?_
    refine p_seq (by kernel_rfl) ?_
    refine p_plain (by kernel_rfl) (0 :: 1 :: 2 :: 3 :: 4 :: 5 :: 6 :: 7 :: []) (by kernel_rfl) ?_
    refine go_q (d := 10) (op := .move (.tmp 0)) (ty := 83) (g := none) (by kernel_rfl) trivial rfl (qv_move rfl) ?_
    refine go_q (d := 11) (op := .load 27 (.tmp 4)) (ty := 27) (g := none) (by kernel_rfl) trivial rfl (qv_load rfl (by repeat first | exact .here | apply At.next | apply At.app) (ldv_agg agg27 (extw_Key _) (Nat.le_of_ble_eq_true rfl))) ?_
    refine go_s (d := some 12) (op := .call { callee := .value (.func 93), args := #[.tmp 10, .tmp 11], argTypes := #[83, 27] }) (ty := 119) (g := none) (by kernel_rfl) trivial ?_
    refine os_pv rfl (pv_callR en93 rfl (by first | ((repeat constructor); done) | (repeat first | exact Sel.nil | exact Sel.all | exact Sel.app | (apply Sel.cons; focus (repeat first | exact Tk.here | apply Tk.next | apply Tk.app)) | apply Sel.skip | apply Sel.skipA)) (ct_findS hk h1 h2 hf)) ?_
    refine go_q (d := 9) (op := .move (.tmp 12)) (ty := 119) (g := none) (by kernel_rfl) trivial rfl (qv_move rfl) ?_
    refine go_q (d := 13) (op := .extract (.tmp 9) 0) (ty := 3) (g := none) (by kernel_rfl) trivial rfl (qv_extract rfl rfl) ?_
    refine go_q (d := 14) (op := .extract (.tmp 9) 1) (ty := 3) (g := none) (by kernel_rfl) trivial rfl (qv_extract rfl rfl) ?_
    refine go_q (d := 7) (op := .assign (.tmp 13)) (ty := 3) (g := none) (by kernel_rfl) trivial rfl (qv_assign rfl) ?_
    refine go_q (d := 8) (op := .assign (.tmp 14)) (ty := 3) (g := none) (by kernel_rfl) trivial rfl (qv_assign rfl) ?_
    refine go_nil ?_
    change G _ _ _ _
    refine p_weaken [0, 2, 4, 6, 7] rfl ?_
    refine p_seq (by kernel_rfl) ?_
    refine p_block 0 (by kernel_rfl) ?_
    refine p_seq (by kernel_rfl) ?_
    refine p_plain (by kernel_rfl) (0 :: 1 :: 2 :: []) (by kernel_rfl) ?_
    refine go_q (d := 16) (op := .move (.tmp 0)) (ty := 83) (g := none) (by kernel_rfl) trivial rfl (qv_move rfl) ?_
    refine go_q (d := 17) (op := .binOp .eql 83 (.tmp 16) (.const (.pointer none)) 83) (ty := 4) (g := none) (by kernel_rfl) trivial rfl (qv_eqlP un83 rfl) ?_
    refine go_q (d := 15) (op := .assign (.tmp 17)) (ty := 4) (g := none) (by kernel_rfl) trivial rfl (qv_assign rfl) ?_
    refine go_nil ?_
    change G _ _ _ _
    refine p_weaken [0, 2, 4, 6, 7, 15] rfl ?_
    refine p_condF (.tmp 15) (by kernel_rfl) rfl ?_
    refine p_seq (by kernel_rfl) ?_
    refine p_plain (by kernel_rfl) (0 :: 1 :: 2 :: 3 :: []) (by kernel_rfl) ?_
    refine go_q (d := 19) (op := .load 27 (.tmp 4)) (ty := 27) (g := none) (by kernel_rfl) trivial rfl (qv_load rfl (by repeat first | exact .here | apply At.next | apply At.app) (ldv_agg agg27 (extw_Key _) (Nat.le_of_ble_eq_true rfl))) ?_
    refine go_s (d := some 20) (op := .call { callee := .value (.func 43), args := #[.tmp 19], argTypes := #[27] }) (ty := 4) (g := none) (by kernel_rfl) trivial ?_
    refine os_callP rfl en43 rfl (pu_KeyRight k) ?_
    refine go_q (d := 21) (op := .unOp .not 4 (.tmp 20)) (ty := 4) (g := none) (by kernel_rfl) trivial rfl (qv_not rfl) ?_
    refine go_q (d := 18) (op := .assign (.tmp 21)) (ty := 4) (g := none) (by kernel_rfl) trivial rfl (qv_assign rfl) ?_
    refine go_nil ?_
    change G _ _ _ _
    refine p_weaken [0, 2, 4, 6, 7, 18] rfl ?_
    refine p_cond (.tmp 18) (by kernel_rfl) rfl (fun h18 => ?_) (fun h18 => ?_)
    · try first | replace h18 := t_nd h18 | replace h18 := f_nd h18 | replace h18 := t_nbb h18 | replace h18 := f_nbb h18 | replace h18 := t_not h18 | replace h18 := f_not h18 | replace h18 := t_eq h18 | replace h18 := f_eq h18 | replace h18 := t_ne h18 | replace h18 := f_ne h18 | replace h18 := t_bb h18 | replace h18 := f_bb h18 | replace h18 := of_decide_eq_true h18 | replace h18 := of_decide_eq_false h18
      refine p_seq (by kernel_rfl) ?_
      refine p_plain (by kernel_rfl) (0 :: []) (by kernel_rfl) ?_
      refine go_q (d := 6) (op := .assign (.const (.int .i64 2))) (ty := 61) (g := none) (by kernel_rfl) trivial rfl (qv_assign rfl) ?_
      refine go_nil ?_
      change G _ _ _ _
      refine p_weaken [0, 2, 4, 6, 7] rfl ?_
      refine p_ret (by kernel_rfl) ?_
      try dsimp only [thenQ, inBlockQ]
      try rw [if_pos rfl]
      refine ret_left ([tabO bt bs L.length many, slotO bs L]) (.inr rfl) (.cons (res_tmp rfl) .nil) (by first | ((repeat first | exact .refl | exact Sb.app | apply Sb.keep | apply Sb.app_keep | apply Sb.skip | apply Sb.app_skip); done) | exact Sb.of_cnt fun x => by (simp only [List.count_append, List.count_cons, List.count_nil]; omega)) ?_
      exact ⟨by simp [putR, hf, h18, E.valOf], by simp [putR, hf, h18]⟩
    · try first | replace h18 := t_nd h18 | replace h18 := f_nd h18 | replace h18 := t_nbb h18 | replace h18 := f_nbb h18 | replace h18 := t_not h18 | replace h18 := f_not h18 | replace h18 := t_eq h18 | replace h18 := f_eq h18 | replace h18 := t_ne h18 | replace h18 := f_ne h18 | replace h18 := t_bb h18 | replace h18 := f_bb h18 | replace h18 := of_decide_eq_true h18 | replace h18 := of_decide_eq_false h18
      refine p_seq (by kernel_rfl) ?_
      refine p_plain (by kernel_rfl) (0 :: 1 :: 2 :: []) (by kernel_rfl) ?_
      refine go_q (d := 23) (op := .move (.tmp 7)) (ty := 3) (g := none) (by kernel_rfl) trivial rfl (qv_move rfl) ?_
      refine go_q (d := 24) (op := .binOp .lss 3 (.tmp 23) (.const (.int .i64 0)) 3) (ty := 4) (g := none) (by kernel_rfl) trivial rfl (qv_lss (b := false) rfl rfl (decide_eq_false (by omega))) ?_
      refine go_q (d := 22) (op := .assign (.tmp 24)) (ty := 4) (g := none) (by kernel_rfl) trivial rfl (qv_assign rfl) ?_
      refine go_nil ?_
      change G _ _ _ _
      refine p_weaken [0, 2, 4, 6, 7, 22] rfl ?_
      refine p_condF (.tmp 22) (by kernel_rfl) rfl ?_
      refine p_seq (by kernel_rfl) ?_
      refine p_plain (by kernel_rfl) (0 :: 1 :: 2 :: 3 :: 4 :: 5 :: 6 :: 7 :: 8 :: 9 :: []) (by kernel_rfl) ?_
      refine go_q (d := 26) (op := .move (.tmp 0)) (ty := 83) (g := none) (by kernel_rfl) trivial rfl (qv_move rfl) ?_
      refine go_q (d := 27) (op := .nilCheck (.tmp 26)) (ty := 0) (g := none) (by kernel_rfl) trivial rfl (qv_nilCheck rfl) ?_
      refine go_q (d := 28) (op := .fieldAddr 172 (.tmp 27) 0) (ty := 0) (g := none) (by kernel_rfl) trivial rfl (qv_field rfl fd172_0) ?_
      refine go_q (d := 29) (op := .load 124 (.tmp 28)) (ty := 124) (g := none) (by kernel_rfl) trivial rfl (qv_load rfl (by repeat first | exact .here | apply At.next | apply At.app) (ldv_sca sc124 (get_Tab_0 _))) ?_
      refine go_q (d := 30) (op := .move (.tmp 7)) (ty := 3) (g := none) (by kernel_rfl) trivial rfl (qv_move rfl) ?_
      refine go_q (d := 31) (op := .indexAddr 124 (.tmp 29) (.tmp 30)) (ty := 0) (g := none) (by kernel_rfl) trivial rfl (qv_index un124 sz175 rfl rfl rfl hpl) ?_
      refine go_q (d := 32) (op := .fieldAddr 175 (.tmp 31) 0) (ty := 0) (g := none) (by kernel_rfl) trivial rfl (qv_field rfl fd175_0) ?_
      refine go_q (d := 33) (op := .load 4 (.tmp 32)) (ty := 4) (g := none) (by kernel_rfl) trivial rfl (qv_load rfl (by repeat first | exact .here | apply At.next | apply At.app) (ldv_el (slot_holds L) hs sc4 (get_Slot_0 s) rfl)) ?_
      refine go_q (d := 34) (op := .unOp .not 4 (.tmp 33)) (ty := 4) (g := none) (by kernel_rfl) trivial rfl (qv_not rfl) ?_
      refine go_q (d := 25) (op := .assign (.tmp 34)) (ty := 4) (g := none) (by kernel_rfl) trivial rfl (qv_assign rfl) ?_
      refine go_nil ?_
      change G _ _ _ _
      refine p_weaken [0, 2, 4, 6, 7, 25] rfl ?_
      refine p_cond (.tmp 25) (by kernel_rfl) rfl (fun h25 => ?_) (fun h25 => ?_)
      · try first | replace h25 := t_nd h25 | replace h25 := f_nd h25 | replace h25 := t_nbb h25 | replace h25 := f_nbb h25 | replace h25 := t_not h25 | replace h25 := f_not h25 | replace h25 := t_eq h25 | replace h25 := f_eq h25 | replace h25 := t_ne h25 | replace h25 := f_ne h25 | replace h25 := t_bb h25 | replace h25 := f_bb h25 | replace h25 := of_decide_eq_true h25 | replace h25 := of_decide_eq_false h25
        refine p_plain (by kernel_rfl) (0 :: 1 :: 2 :: 3 :: 4 :: 5 :: 6 :: 7 :: []) (by kernel_rfl) ?_
        refine go_q (d := 35) (op := .move (.tmp 0)) (ty := 83) (g := none) (by kernel_rfl) trivial rfl (qv_move rfl) ?_
        refine go_q (d := 36) (op := .nilCheck (.tmp 35)) (ty := 0) (g := none) (by kernel_rfl) trivial rfl (qv_nilCheck rfl) ?_
        refine go_q (d := 37) (op := .fieldAddr 172 (.tmp 36) 1) (ty := 0) (g := none) (by kernel_rfl) trivial rfl (qv_field rfl fd172_1) ?_
        refine go_q (d := 38) (op := .load 3 (.tmp 37)) (ty := 3) (g := none) (by kernel_rfl) trivial rfl (qv_load rfl (by repeat first | exact .here | apply At.next | apply At.app) (ldv_sca sc3 (get_Tab_1 _))) ?_
        refine go_q (d := 39) (op := .binOp .add 3 (.tmp 38) (.const (.int .i64 1)) 3) (ty := 3) (g := none) (by kernel_rfl) trivial rfl (qv_add rfl rfl (by first | exact IntWalk.i64_in _ (by omega) | exact IntWalk.i64_in _ (by dsimp only; omega) | rfl)) ?_
        refine go_q (d := 40) (op := .nilCheck (.tmp 35)) (ty := 0) (g := none) (by kernel_rfl) trivial rfl (qv_nilCheck rfl) ?_
        refine go_q (d := 41) (op := .fieldAddr 172 (.tmp 40) 1) (ty := 0) (g := none) (by kernel_rfl) trivial rfl (qv_field rfl fd172_1) ?_
        refine go_s (d := none) (op := .store 3 (.tmp 41) (.tmp 39)) (ty := 0) (g := none) (by kernel_rfl) trivial ?_
        refine os_store1 rfl rfl sz3 rfl rfl (by repeat first | exact .here | apply Up.next | apply Up.app) (Nat.le_of_ble_eq_true rfl) (set_Tab_1 _ _) ?_
        refine go_nil ?_
        change G _ _ _ _
        refine p_weaken [0, 2, 4, 6, 7] rfl ?_
        refine p_seq (by kernel_rfl) ?_
        refine p_draw (by kernel_rfl) mixed 9 10 _ (fun _ h => h) (by kernel_rfl) ?_
        refine gd_all (0 :: 1 :: 2 :: 3 :: 4 :: 5 :: 6 :: 7 :: 8 :: []) _ rfl (by kernel_rfl) (by decide) (fun _ h => h) rfl ?_
        refine sq_q (d := 42) (op := .move (.tmp 0)) (ty := 83) (g := none) (by kernel_rfl) trivial (fun _ h => nomatch h) (qv_move rfl) ?_
        refine sq_q (d := 43) (op := .nilCheck (.tmp 42)) (ty := 0) (g := none) (by kernel_rfl) trivial (fun _ h => nomatch h) (qv_nilCheck rfl) ?_
        refine sq_q (d := 44) (op := .fieldAddr 172 (.tmp 43) 0) (ty := 0) (g := none) (by kernel_rfl) trivial (fun _ h => nomatch h) (qv_field rfl fd172_0) ?_
        refine sq_q (d := 45) (op := .load 124 (.tmp 44)) (ty := 124) (g := none) (by kernel_rfl) trivial (fun _ h => nomatch h) (qv_load rfl (by repeat first | exact .here | apply At.next | apply At.app) (ldv_sca sc124 (get_Tab_0 _))) ?_
        refine sq_q (d := 46) (op := .move (.tmp 7)) (ty := 3) (g := none) (by kernel_rfl) trivial (fun _ h => nomatch h) (qv_move rfl) ?_
        refine sq_q (d := 47) (op := .load 27 (.tmp 4)) (ty := 27) (g := none) (by kernel_rfl) trivial (fun _ h => nomatch h) (qv_load rfl (by repeat first | exact .here | apply At.next | apply At.app) (ldv_agg agg27 (extw_Key _) (Nat.le_of_ble_eq_true rfl))) ?_
        refine sq_q (d := 48) (op := .move (.tmp 2)) (ty := 30) (g := none) (by kernel_rfl) trivial (fun _ h => nomatch h) (qv_move rfl) ?_
        refine sq_q (d := 49) (op := .build 175 #[(0, .const (.bool true)), (1, .tmp 47), (2, .tmp 48)]) (ty := 175) (g := none) (by kernel_rfl) trivial (fun _ h => nomatch h) (qv_build rfl (bld175_0_1_2 _ _ _)) ?_
        refine sq_q (d := 50) (op := .indexAddr 124 (.tmp 45) (.tmp 46)) (ty := 0) (g := none) (by kernel_rfl) trivial (fun _ h => nomatch h) (qv_index un124 sz175 rfl rfl rfl hpl) ?_
        refine SeqK.nil (fun β => ?_)
        refine gd_tail [9] rfl (by kernel_rfl) (by kernel_rfl) ?_
        refine go_s (d := none) (op := .store 175 (.tmp 50) (.tmp 49)) (ty := 0) (g := none) (by kernel_rfl) trivial ?_
        refine os_store rfl rfl sz175 rfl (one_Slot _) (by repeat first | exact .here | apply Up.next | apply Up.app) (flat_fit eSlot hpl) (splice_flat eSlot ⟨true, k, n⟩ hpl) ?_
        refine go_nil ?_
        change G _ _ _ _
        refine p_weaken [6] rfl ?_
        refine p_seq (by kernel_rfl) ?_
        refine p_plain (by kernel_rfl) (0 :: []) (by kernel_rfl) ?_
        refine go_q (d := 6) (op := .assign (.const (.int .i64 0))) (ty := 61) (g := none) (by kernel_rfl) trivial rfl (qv_assign rfl) ?_
        refine go_nil ?_
        change G _ _ _ _
        refine p_ret (by kernel_rfl) ?_
        try dsimp only [thenQ, inBlockQ]
        try rw [if_pos rfl]
        refine ret_leftP ([tabO bt bs L.length (many + 1), slotO bs (L.set (place L.length k i) ⟨true, k, n⟩)]) (.inr rfl) (.cons (res_tmp rfl) .nil) (⟨[_], List.perm_append_comm (l₁ := [_]) (l₂ := [_, _])⟩) ?_
        exact ⟨by simp [putR, hf, h18, E.valOf], by simp [putR, hf, hs, h18, h25]⟩
      · try first | replace h25 := t_nd h25 | replace h25 := f_nd h25 | replace h25 := t_nbb h25 | replace h25 := f_nbb h25 | replace h25 := t_not h25 | replace h25 := f_not h25 | replace h25 := t_eq h25 | replace h25 := f_eq h25 | replace h25 := t_ne h25 | replace h25 := f_ne h25 | replace h25 := t_bb h25 | replace h25 := f_bb h25 | replace h25 := of_decide_eq_true h25 | replace h25 := of_decide_eq_false h25
        refine p_skip (by kernel_rfl) ?_
        change G _ _ _ _
        refine p_weaken [0, 2, 4, 6, 7] rfl ?_
        refine p_seq (by kernel_rfl) ?_
        refine p_draw (by kernel_rfl) mixed 9 10 _ (fun _ h => h) (by kernel_rfl) ?_
        refine gd_all (0 :: 1 :: 2 :: 3 :: 4 :: 5 :: 6 :: 7 :: 8 :: []) _ rfl (by kernel_rfl) (by decide) (fun _ h => h) rfl ?_
        refine sq_q (d := 42) (op := .move (.tmp 0)) (ty := 83) (g := none) (by kernel_rfl) trivial (fun _ h => nomatch h) (qv_move rfl) ?_
        refine sq_q (d := 43) (op := .nilCheck (.tmp 42)) (ty := 0) (g := none) (by kernel_rfl) trivial (fun _ h => nomatch h) (qv_nilCheck rfl) ?_
        refine sq_q (d := 44) (op := .fieldAddr 172 (.tmp 43) 0) (ty := 0) (g := none) (by kernel_rfl) trivial (fun _ h => nomatch h) (qv_field rfl fd172_0) ?_
        refine sq_q (d := 45) (op := .load 124 (.tmp 44)) (ty := 124) (g := none) (by kernel_rfl) trivial (fun _ h => nomatch h) (qv_load rfl (by repeat first | exact .here | apply At.next | apply At.app) (ldv_sca sc124 (get_Tab_0 _))) ?_
        refine sq_q (d := 46) (op := .move (.tmp 7)) (ty := 3) (g := none) (by kernel_rfl) trivial (fun _ h => nomatch h) (qv_move rfl) ?_
        refine sq_q (d := 47) (op := .load 27 (.tmp 4)) (ty := 27) (g := none) (by kernel_rfl) trivial (fun _ h => nomatch h) (qv_load rfl (by repeat first | exact .here | apply At.next | apply At.app) (ldv_agg agg27 (extw_Key _) (Nat.le_of_ble_eq_true rfl))) ?_
        refine sq_q (d := 48) (op := .move (.tmp 2)) (ty := 30) (g := none) (by kernel_rfl) trivial (fun _ h => nomatch h) (qv_move rfl) ?_
        refine sq_q (d := 49) (op := .build 175 #[(0, .const (.bool true)), (1, .tmp 47), (2, .tmp 48)]) (ty := 175) (g := none) (by kernel_rfl) trivial (fun _ h => nomatch h) (qv_build rfl (bld175_0_1_2 _ _ _)) ?_
        refine sq_q (d := 50) (op := .indexAddr 124 (.tmp 45) (.tmp 46)) (ty := 0) (g := none) (by kernel_rfl) trivial (fun _ h => nomatch h) (qv_index un124 sz175 rfl rfl rfl hpl) ?_
        refine SeqK.nil (fun β => ?_)
        refine gd_tail [9] rfl (by kernel_rfl) (by kernel_rfl) ?_
        refine go_s (d := none) (op := .store 175 (.tmp 50) (.tmp 49)) (ty := 0) (g := none) (by kernel_rfl) trivial ?_
        refine os_store rfl rfl sz175 rfl (one_Slot _) (by repeat first | exact .here | apply Up.next | apply Up.app) (flat_fit eSlot hpl) (splice_flat eSlot ⟨true, k, n⟩ hpl) ?_
        refine go_nil ?_
        change G _ _ _ _
        refine p_weaken [6] rfl ?_
        refine p_seq (by kernel_rfl) ?_
        refine p_plain (by kernel_rfl) (0 :: []) (by kernel_rfl) ?_
        refine go_q (d := 6) (op := .assign (.const (.int .i64 0))) (ty := 61) (g := none) (by kernel_rfl) trivial rfl (qv_assign rfl) ?_
        refine go_nil ?_
        change G _ _ _ _
        refine p_ret (by kernel_rfl) ?_
        try dsimp only [thenQ, inBlockQ]
        try rw [if_pos rfl]
        refine ret_leftP ([tabO bt bs L.length many, slotO bs (L.set (place L.length k i) ⟨true, k, n⟩)]) (.inr rfl) (.cons (res_tmp rfl) .nil) (⟨[_], List.perm_append_comm (l₁ := [_]) (l₂ := [_, _])⟩) ?_
        exact ⟨by simp [putR, hf, h18, E.valOf], by simp [putR, hf, hs, h18, h25]⟩

/-- A slice of places of the call's own. -/
def OwnS (v : Value) (l : List Slot) (A : Mem) : Prop := ∃ p cap, v = .slice p l.length cap ∧ OwnL eSlot 175 p cap l A
theorem ct_cloneS {b off cap : Nat} {cur : Array Value} {e : TypeId} {fz : Nat × Nat} {l : List Slot} (hl : Holds eSlot cur off l) (hm : l.length ≤ 1000000) :
    Ct Try.prog 119 [.slice (some ⟨b, off, none⟩) l.length cap].toArray [(b, .cells cur e fz)] (fun v M' => ∃ A, OwnS v l A ∧ M' = A ++ [(b, .cells cur e fz)]) := by
  refine ct_body (rv := [.tmp 2]) [(0, _)] Try.func119 (by kernel_rfl) Try.ntmps119 Try.results119 rfl rfl (fun w0 => ?_)
  refine p_seq (by kernel_rfl) ?_
  refine p_plain (by kernel_rfl) (0 :: []) (by kernel_rfl) ?_
  refine go_q (d := 2) (op := .assign (.const (.slice none 0 0))) (ty := 124) (g := none) (by kernel_rfl) trivial rfl (qv_assign rfl) ?_
  refine go_nil ?_
  change G _ _ _ _
  refine p_seq (by kernel_rfl) ?_
  refine p_seq (by kernel_rfl) ?_
  refine p_plain (by kernel_rfl) (0 :: 1 :: []) (by kernel_rfl) ?_
  refine go_q (d := 3) (op := .move (.tmp 0)) (ty := 124) (g := none) (by kernel_rfl) trivial rfl (qv_move rfl) ?_
  refine go_q (d := 4) (op := .binOp .eql 124 (.tmp 3) (.const (.slice none 0 0)) 124) (ty := 4) (g := none) (by kernel_rfl) trivial rfl (qv_eqlS un124 rfl) ?_
  refine go_nil ?_
  change G _ _ _ _
  refine p_weaken [0, 2, 4] rfl ?_
  refine p_condF (.tmp 4) (by kernel_rfl) rfl ?_
  refine p_skip (by kernel_rfl) ?_
  change G _ _ _ _
  refine p_weaken [0, 2] rfl ?_
  refine p_seq (by kernel_rfl) ?_
  refine p_plain (by kernel_rfl) (0 :: 1 :: 2 :: 3 :: []) (by kernel_rfl) ?_
  refine go_s (d := some 5) (op := .buildSlice 124 0 #[]) (ty := 124) (g := none) (by kernel_rfl) trivial ?_
  refine os_buildSlice (Nat.le_of_ble_eq_true rfl) rfl (bls124_0) (fun b5 => ?_)
  refine go_q (d := 6) (op := .move (.tmp 0)) (ty := 124) (g := none) (by kernel_rfl) trivial rfl (qv_move rfl) ?_
  refine go_s (d := some 7) (op := .call { callee := .builtin .append, args := #[.tmp 5, .tmp 6], argTypes := #[124, 124] }) (ty := 124) (g := none) (by kernel_rfl) trivial ?_
  refine os_appendL (E := eSlot) (l := []) (l2 := l) rfl el124 rfl rfl rfl rfl (OwnL.of_build rfl rfl (by decide)) (by repeat constructor) (by repeat constructor) hl one_Slot (by simp [maxLen]; omega) (by simp; omega) (fun p7 c7 A7 h7 => ?_)
  refine go_q (d := 2) (op := .assign (.tmp 7)) (ty := 124) (g := none) (by kernel_rfl) trivial rfl (qv_assign rfl) ?_
  refine go_nil ?_
  change G _ _ _ _
  refine p_weaken [2] rfl ?_
  refine p_ret (by kernel_rfl) ?_
  try dsimp only [thenQ, inBlockQ]
  try rw [if_pos rfl]
  refine ret_left (A7 ++ [(b, .cells cur e fz)]) (.inr rfl) (.cons (res_tmp rfl) .nil) (by first | ((repeat first | exact .refl | exact Sb.app | apply Sb.keep | apply Sb.app_keep | apply Sb.skip | apply Sb.app_skip); done) | exact Sb.of_cnt fun x => by (simp only [List.count_append, List.count_cons, List.count_nil]; omega)) ?_
  exact ⟨A7, ⟨p7, c7, by simp [E.valOf], by simpa using h7⟩, rfl⟩
theorem ct_Slots {bt bs : Nat} {many : Int} {L : List Slot} (h1 : 1 ≤ L.length) (h2 : L.length ≤ 65536) :
    Ct Try.prog 67 [.pointer (some ⟨bt, 0, none⟩)].toArray [tabO bt bs L.length many, slotO bs L] (fun v M' => ∃ A, OwnS v L A ∧ M' = A ++ [slotO bs L, tabO bt bs L.length many]) := by
  refine ct_body (rv := [.tmp 2]) [(0, _)] Try.func67 (by kernel_rfl) Try.ntmps67 Try.results67 rfl rfl (fun w0 => ?_)
  refine p_seq (by kernel_rfl) ?_
  refine p_plain (by kernel_rfl) (0 :: []) (by kernel_rfl) ?_
  refine go_q (d := 2) (op := .assign (.const (.slice none 0 0))) (ty := 124) (g := none) (by kernel_rfl) trivial rfl (qv_assign rfl) ?_
  refine go_nil ?_
  change G _ _ _ _
  refine p_seq (by kernel_rfl) ?_
  refine p_seq (by kernel_rfl) ?_
  refine p_plain (by kernel_rfl) (0 :: 1 :: []) (by kernel_rfl) ?_
  refine go_q (d := 3) (op := .move (.tmp 0)) (ty := 83) (g := none) (by kernel_rfl) trivial rfl (qv_move rfl) ?_
  refine go_q (d := 4) (op := .binOp .eql 83 (.tmp 3) (.const (.pointer none)) 83) (ty := 4) (g := none) (by kernel_rfl) trivial rfl (qv_eqlP un83 rfl) ?_
  refine go_nil ?_
  change G _ _ _ _
  refine p_weaken [0, 2, 4] rfl ?_
  refine p_condF (.tmp 4) (by kernel_rfl) rfl ?_
  refine p_skip (by kernel_rfl) ?_
  change G _ _ _ _
  refine p_weaken [0, 2] rfl ?_
  refine p_seq (by kernel_rfl) ?_
  refine p_plain (by kernel_rfl) (0 :: 1 :: 2 :: 3 :: 4 :: 5 :: []) (by kernel_rfl) ?_
  refine go_q (d := 5) (op := .move (.tmp 0)) (ty := 83) (g := none) (by kernel_rfl) trivial rfl (qv_move rfl) ?_
  refine go_q (d := 6) (op := .nilCheck (.tmp 5)) (ty := 0) (g := none) (by kernel_rfl) trivial rfl (qv_nilCheck rfl) ?_
  refine go_q (d := 7) (op := .fieldAddr 172 (.tmp 6) 0) (ty := 0) (g := none) (by kernel_rfl) trivial rfl (qv_field rfl fd172_0) ?_
  refine go_q (d := 8) (op := .load 124 (.tmp 7)) (ty := 124) (g := none) (by kernel_rfl) trivial rfl (qv_load rfl (by repeat first | exact .here | apply At.next | apply At.app) (ldv_sca sc124 (get_Tab_0 _))) ?_
  refine go_s (d := some 9) (op := .call { callee := .value (.func 119), args := #[.tmp 8], argTypes := #[124] }) (ty := 124) (g := none) (by kernel_rfl) trivial ?_
  refine os_call (Nat.le_of_ble_eq_true rfl) en119 rfl (by first | ((repeat constructor); done) | (repeat first | exact Sel.nil | exact Sel.all | exact Sel.app | (apply Sel.cons; focus (repeat first | exact Tk.here | apply Tk.next | apply Tk.app)) | apply Sel.skip | apply Sel.skipA)) (ct_cloneS (slot_holds L) (by omega)) ?_
  rintro v9 A9 ⟨A, hA, rfl⟩
  try dsimp only [List.nil_append, List.cons_append]
  refine go_q (d := 2) (op := .assign (.tmp 9)) (ty := 124) (g := none) (by kernel_rfl) trivial rfl (qv_assign rfl) ?_
  refine go_nil ?_
  change G _ _ _ _
  refine p_weaken [2] rfl ?_
  refine p_ret (by kernel_rfl) ?_
  try dsimp only [thenQ, inBlockQ]
  try rw [if_pos rfl]
  refine ret_leftP (A ++ [slotO bs L, tabO bt bs L.length many]) (.inr rfl) (.cons (res_tmp rfl) .nil) (⟨[], by rw [List.append_nil, List.append_assoc]; exact List.Perm.refl _⟩) ?_
  exact ⟨A, hA, rfl⟩
end Go.Proofs.Ytobmcpoejhhemaa
