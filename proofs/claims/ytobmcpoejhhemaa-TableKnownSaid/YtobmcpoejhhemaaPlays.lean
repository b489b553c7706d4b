/- The law TablePlays: the walk. -/
import Derived.Test.YtobmcpoejhhemaaIs
namespace Go.Proofs.Ytobmcpoejhhemaa
open Go.E

section
variable {n : Nat} {L : List Slot} {ks : List Key} {ns : List Int} {k : Key}
theorem mem_swapOut {α : Type} {l : List α} {i : Nat} (hi : i < l.length) {x : α} (h : x ∈ swapOut l i) : x ∈ l := by
  obtain ⟨q, hq, rfl⟩ := List.getElem_of_mem h
  obtain ⟨_, _, _, h1, _⟩ := swapOut_of hi q _ (List.getElem?_eq_getElem hq)
  exact List.mem_of_getElem? h1
/-- Deleting, in both tables. -/
theorem Kp.delAny (hn : Pow n) (h : Kp n L ks ns) (hr : ∀ k ∈ ks, k.right = true) (hk : k.Wf) :
    ∃ (ok : Bool) (L' : List Slot) (ks' : List Key) (ns' : List Int), Kp n L' ks' ns' ∧ (∀ k ∈ ks', k.right = true) ∧
      (∀ (M : Mem) (p : Option Addr) (c : Nat), Lst eSlot p L M → Ct Try.prog 58 [.slice p n c, .agg k.c].toArray M (fun v M' => ∃ p' c' B, v = .tuple #[.slice p' n c', .bool ok] ∧ Lst eSlot p' L' (B ++ M) ∧ M' = B ++ M)) ∧
      (∀ bt bs, Ct Try.prog 44 [.pointer (some ⟨bt, 0, none⟩), .agg k.c].toArray [tabO bt bs n ks.length, slotO bs L] (fun v M' => v = .bool ok ∧ M' = [tabO bt bs n ks'.length, slotO bs L'])) := by
  have hl := h.L_len
  have hp := hn.pos
  have hq := hn.le
  have hle := h.le
  by_cases hm : k ∈ ks
  · obtain ⟨i, hi, he⟩ := List.getElem_of_mem hm
    have hi' : ks[i]? = some k := by rw [List.getElem?_eq_getElem hi, he]
    obtain ⟨j, L', h1, h2, h3, _⟩ := h.del hn hi'
    refine ⟨true, L', _, _, h3, fun k' hk' => hr k' (mem_swapOut hi hk'), fun M p c hL => ?_, fun bt bs => ?_⟩
    · have hc := ct_refDelete (c := c) (by rw [hl]; exact hn) hL hk h.wf h1 h2
      rw [hl, h3.L_len] at hc
      exact hc.mono fun v M' ⟨p', c', B, hv, hB, hM⟩ => ⟨p', c', B, hv, hB.left, hM⟩
    · have hc := ct_Delete (bt := bt) (bs := bs) (many := ks.length) (L := L) (k := k) hk h.wf (by omega) (by omega) (by omega) (by omega) h1 h2
      rw [hl] at hc
      exact hc.mono fun v M' ⟨hv, hM⟩ => ⟨hv, by rw [hM, swapOut_len hi, show ((ks.length - 1 : Nat) : Int) = (ks.length : Int) - 1 by omega]⟩
  · have hh := h.hasNone hn hm
    refine ⟨false, L, ks, ns, h, hr, fun M p c hL => ?_, fun bt bs => ?_⟩
    · have hc := ct_refDeleteN (c := c) (by rw [hl]; exact hn) hL hk hh
      rw [hl] at hc
      exact hc.mono fun v M' ⟨hv, hM⟩ => ⟨p, c, [], hv, hL, hM⟩
    · have hc := ct_DeleteN (bt := bt) (bs := bs) (many := ks.length) (L := L) (k := k) hk (by omega) (by omega) hh
      rw [hl] at hc
      exact hc
/-- Putting, in both tables. -/
theorem Kp.putAny (hn : Pow n) (h : Kp n L ks ns) (hr : ∀ k ∈ ks, k.right = true) (hk : k.Wf) (v : Int) :
    ∃ (e : Int) (L' : List Slot) (ks' : List Key) (ns' : List Int), Kp n L' ks' ns' ∧ (∀ k ∈ ks', k.right = true) ∧
      (∀ (M : Mem) (p : Option Addr) (c : Nat), Lst eSlot p L M → Ct Try.prog 60 [.slice p n c, .agg k.c, .int .u64 v].toArray M (fun u M' => ∃ p' c' B, u = .tuple #[.slice p' n c', .int .i64 e] ∧ Lst eSlot p' L' (B ++ M) ∧ M' = B ++ M)) ∧
      (∀ bt bs, Ct Try.prog 42 [.pointer (some ⟨bt, 0, none⟩), .agg k.c, .int .u64 v].toArray [tabO bt bs n ks.length, slotO bs L] (fun u M' => u = .int .i64 e ∧ M' = [tabO bt bs n ks'.length, slotO bs L'])) := by
  have hl := h.L_len
  have hp := hn.pos
  have hq := hn.le
  have hle := h.le
  have fin : ∀ (e : Int) (L' : List Slot) (ks' : List Key) (ns' : List Int), putR L k v ks.length = (e, L', (ks'.length : Int)) → Kp n L' ks' ns' → (∀ k ∈ ks', k.right = true) → _ := fun e L' ks' ns' he h3 hr' => (⟨e, L', ks', ns', h3, hr', fun M p c hL => by
      have hc := ct_refPut (c := c) (n := v) (many := ks.length) (by rw [hl]; exact hn) hL hk
      rw [hl, he] at hc
      exact hc, fun bt bs => by
      have hc := ct_Put (bt := bt) (bs := bs) (many := ks.length) (n := v) (L := L) (k := k) hk (by omega) (by omega) (by omega) (by omega)
      rw [hl, he] at hc
      exact hc⟩ : ∃ (e : Int) (L' : List Slot) (ks' : List Key) (ns' : List Int), Kp n L' ks' ns' ∧ (∀ k ∈ ks', k.right = true) ∧
      (∀ (M : Mem) (p : Option Addr) (c : Nat), Lst eSlot p L M → Ct Try.prog 60 [.slice p n c, .agg k.c, .int .u64 v].toArray M (fun u M' => ∃ p' c' B, u = .tuple #[.slice p' n c', .int .i64 e] ∧ Lst eSlot p' L' (B ++ M) ∧ M' = B ++ M)) ∧
      (∀ bt bs, Ct Try.prog 42 [.pointer (some ⟨bt, 0, none⟩), .agg k.c, .int .u64 v].toArray [tabO bt bs n ks.length, slotO bs L] (fun u M' => u = .int .i64 e ∧ M' = [tabO bt bs n ks'.length, slotO bs L'])))
  cases hrk : k.right with
  | false => exact fin 2 L ks ns (by rw [putR_bad hrk]) h hr
  | true =>
    by_cases hm : k ∈ ks
    · obtain ⟨i, hi, he⟩ := List.getElem_of_mem hm
      have hi' : ks[i]? = some k := by rw [List.getElem?_eq_getElem hi, he]
      obtain ⟨L', h1, h2⟩ := h.putOld hn hi' hrk v ks.length
      exact fin 0 L' ks _ h1 h2 hr
    · by_cases hf : ks.length < n
      · obtain ⟨L', h1, h2⟩ := h.putNew hn hk hm hf hrk v ks.length
        exact fin 0 L' (ks ++ [k]) _ (by rw [h1]; simp) h2 fun k' hk' => by
          rcases List.mem_append.1 hk' with h3 | h3
          · exact hr k' h3
          · rw [List.mem_singleton.1 h3]; exact hrk
      · exact fin 230 L ks ns (by rw [putR_full hn h hm hf hrk]) h hr
end
theorem getV_form (L : List Slot) (k : Key) : ∃ (a : Int) (b : Bool), getV L k = .tuple #[.int .u64 a, .bool b] := by
  unfold getV
  split
  · split
    · exact ⟨_, _, rfl⟩
    · exact ⟨_, _, rfl⟩
  · exact ⟨_, _, rfl⟩
theorem findV_form (L : List Slot) (k : Key) : ∃ a : Int, findV L k = .tuple #[.int .i64 a, .int .i64 (probesV L k)] := by
  unfold findV probesV
  cases findI L k with
  | none => exact ⟨_, rfl⟩
  | some i => exact ⟨_, rfl⟩

theorem ct_TablePlaysBad (z : Int) (acts : List Act23) (R : Mem) (pl : Option Addr) (cl : Nat) (hb : okSize z = false) :
    Ct Try.prog 8 [.int .i64 z, .slice pl acts.length cl].toArray R (fun v M' => v = .bool true ∧ M' = R) := by
  refine ct_body (rv := [.tmp 4]) [(0, _), (1, _)] Try.func8 (by kernel_rfl) Try.ntmps8 Try.results8 rfl rfl (fun w0 => ?_)
  refine p_seq0 ?_
  refine p_plain0 (0 :: []) ?_
  refine go_q0 4 (.assign (.const (.bool false))) 4 (qv_assign rfl) ?_
  refine go_nil ?_
  change G _ _ _ _
  refine p_seq0 ?_
  refine p_seq0 ?_
  refine p_plain0 (0 :: 1 :: 2 :: 3 :: 4 :: 5 :: 6 :: 7 :: 8 :: 9 :: 10 :: []) ?_
  refine go_q0 22 (.move (.tmp 0)) 3 (qv_move rfl) ?_
  refine go_q0 23 (.binOp .gtr 3 (.tmp 22) (.const (.int .i64 64)) 3) 4 (qv_gtr rfl rfl rfl) ?_
  refine go_q0 24 (.move (.tmp 23)) 4 (qv_move rfl) ?_
  refine go_case (d := 24) rfl (fun g24 => ?_) (fun g24 => ?_)
  rotate_left
  · replace g24 := kn g24
    refine go_n (d := 25) (op := .move (.tmp 0)) (ty := 3) (g := some (2, true)) (by kernel_rfl) ⟨24, _, by kernel_rfl, rfl, rfl⟩ rfl ?_
    refine go_n (d := 26) (op := .binOp .leq 3 (.tmp 25) (.const (.int .i64 65536)) 3) (ty := 4) (g := some (2, true)) (by kernel_rfl) ⟨24, _, by kernel_rfl, rfl, rfl⟩ rfl ?_
    refine go_q0 27 (.pick (.tmp 24) (.tmp 26) (.const (.bool false))) 4 (qv_pick_f rfl rfl) ?_
    refine go_q0 28 (.move (.tmp 27)) 4 (qv_move rfl) ?_
    refine go_q (d := 29) (op := .move (.tmp 1)) (ty := 82) (g := some (6, false)) (by kernel_rfl) ⟨28, by kernel_rfl, rfl⟩ rfl (qv_move rfl) ?_
    refine go_q (d := 30) (op := .call { callee := .builtin .len, args := #[.tmp 29], argTypes := #[82] }) (ty := 3) (g := some (6, false)) (by kernel_rfl) ⟨28, by kernel_rfl, rfl⟩ rfl (qv_lenS un82 rfl) ?_
    refine go_q (d := 31) (op := .binOp .gtr 3 (.tmp 30) (.const (.int .i64 60)) 3) (ty := 4) (g := some (6, false)) (by kernel_rfl) ⟨28, by kernel_rfl, rfl⟩ rfl (qv_gtr rfl rfl rfl) ?_
    refine go_q0 32 (.pick (.tmp 28) (.const (.bool true)) (.tmp 31)) 4 (qv_pick_f rfl rfl) ?_
    refine go_nil ?_
    change G _ _ _ _
    refine p_weaken [0, 1, 4, 32] rfl ?_
    refine p_cond (.tmp 32) (by kernel_rfl) rfl (fun h32 => ?_) (fun h32 => ?_)
    · replace h32 := kn h32
      refine p_seq0 ?_
      refine p_plain0 (0 :: 1 :: []) ?_
      refine go_s0 (some 33) (.call { callee := .value (.func 38), args := #[], argTypes := #[] }) 4 ?_
      refine os_callP rfl en38 rfl (pu_works23) ?_
      refine go_q0 4 (.assign (.tmp 33)) 4 (qv_assign rfl) ?_
      refine go_nil ?_
      change G _ _ _ _
      refine p_weaken [0, 1, 4] rfl ?_
      refine p_ret0 ?_
      try dsimp only [thenQ, inBlockQ]
      try rw [if_pos rfl]
      refine ret_left (R) (.inr rfl) (.cons (res_tmp rfl) .nil) .auto ?_
      exact ⟨rfl, rfl⟩
    replace h32 := kn h32
    refine p_skip0 ?_
    change G _ _ _ _
    refine p_weaken [0, 1, 4] rfl ?_
    refine p_seq0 ?_
    refine p_plain0 (0 :: 1 :: 2 :: 3 :: 4 :: 5 :: 6 :: []) ?_
    refine go_q0 35 (.move (.tmp 0)) 3 (qv_move rfl) ?_
    refine go_s0 (some 36) (.call { callee := .value (.func 39), args := #[.tmp 35], argTypes := #[3] }) 84 ?_
    refine os_callP rfl en39 rfl (pu_NewBad z hb) ?_
    refine go_q0 34 (.move (.tmp 36)) 84 (qv_move rfl) ?_
    refine go_q0 37 (.extract (.tmp 34) 0) 83 (qv_extract rfl rfl) ?_
    refine go_q0 38 (.extract (.tmp 34) 1) 61 (qv_extract rfl rfl) ?_
    refine go_q0 5 (.assign (.tmp 37)) 83 (qv_assign rfl) ?_
    refine go_q0 6 (.assign (.tmp 38)) 61 (qv_assign rfl) ?_
    refine go_nil ?_
    change G _ _ _ _
    refine p_weaken [0, 1, 4, 5, 6] rfl ?_
    refine p_seq0 ?_
    refine p_plain0 (0 :: 1 :: 2 :: 3 :: 4 :: 5 :: 6 :: []) ?_
    refine go_q0 40 (.move (.tmp 0)) 3 (qv_move rfl) ?_
    refine go_s0 (some 41) (.call { callee := .value (.func 57), args := #[.tmp 40], argTypes := #[3] }) 113 ?_
    refine os_callP rfl en57 rfl (pu_refNewBad z hb) ?_
    refine go_q0 39 (.move (.tmp 41)) 113 (qv_move rfl) ?_
    refine go_q0 42 (.extract (.tmp 39) 0) 112 (qv_extract rfl rfl) ?_
    refine go_q0 43 (.extract (.tmp 39) 1) 61 (qv_extract rfl rfl) ?_
    refine go_q0 7 (.assign (.tmp 42)) 112 (qv_assign rfl) ?_
    refine go_q0 8 (.assign (.tmp 43)) 61 (qv_assign rfl) ?_
    refine go_nil ?_
    change G _ _ _ _
    refine p_weaken [0, 1, 4, 5, 6, 7, 8] rfl ?_
    refine p_seq0 ?_
    refine p_seq0 ?_
    refine p_plain0 (0 :: 1 :: 2 :: 3 :: 4 :: 5 :: 6 :: 7 :: 8 :: 9 :: []) ?_
    refine go_q0 44 (.move (.tmp 6)) 61 (qv_move rfl) ?_
    refine go_q0 45 (.move (.tmp 8)) 61 (qv_move rfl) ?_
    refine go_q0 46 (.binOp .neq 61 (.tmp 44) (.tmp 45) 61) 4 (qv_neq (b := false) rfl rfl (by decide)) ?_
    refine go_q0 47 (.move (.tmp 46)) 4 (qv_move rfl) ?_
    refine go_q (d := 48) (op := .move (.tmp 5)) (ty := 83) (g := some (3, false)) (by kernel_rfl) ⟨47, by kernel_rfl, rfl⟩ rfl (qv_move rfl) ?_
    refine go_q (d := 49) (op := .binOp .eql 83 (.tmp 48) (.const (.pointer none)) 83) (ty := 4) (g := some (3, false)) (by kernel_rfl) ⟨47, by kernel_rfl, rfl⟩ rfl (qv_eqlP un83 rfl) ?_
    refine go_q (d := 50) (op := .move (.tmp 6)) (ty := 61) (g := some (3, false)) (by kernel_rfl) ⟨47, by kernel_rfl, rfl⟩ rfl (qv_move rfl) ?_
    refine go_q (d := 51) (op := .binOp .neq 61 (.tmp 50) (.const (.int .i64 0)) 61) (ty := 4) (g := some (3, false)) (by kernel_rfl) ⟨47, by kernel_rfl, rfl⟩ rfl (qv_neq (b := true) rfl rfl (by decide)) ?_
    refine go_q (d := 52) (op := .binOp .neq 4 (.tmp 49) (.tmp 51) 4) (ty := 4) (g := some (3, false)) (by kernel_rfl) ⟨47, by kernel_rfl, rfl⟩ rfl (qv_neqBb (b := false) un4 rfl rfl (by decide)) ?_
    refine go_q0 53 (.pick (.tmp 47) (.const (.bool true)) (.tmp 52)) 4 (qv_pick_f rfl rfl) ?_
    refine go_nil ?_
    change G _ _ _ _
    refine p_weaken [0, 1, 4, 5, 6, 7, 53] rfl ?_
    refine p_condF (.tmp 53) (by kernel_rfl) rfl ?_
    refine p_skip0 ?_
    change G _ _ _ _
    refine p_weaken [0, 1, 4, 5, 6, 7] rfl ?_
    refine p_seq0 ?_
    refine p_seq0 ?_
    refine p_plain0 (0 :: 1 :: []) ?_
    refine go_q0 54 (.move (.tmp 6)) 61 (qv_move rfl) ?_
    refine go_q0 55 (.binOp .neq 61 (.tmp 54) (.const (.int .i64 0)) 61) 4 (qv_neq (b := true) rfl rfl (by decide)) ?_
    refine go_nil ?_
    change G _ _ _ _
    refine p_weaken [0, 1, 4, 5, 7, 55] rfl ?_
    refine p_condT (.tmp 55) (by kernel_rfl) rfl ?_
    refine p_seq0 ?_
    refine p_plain0 (0 :: 1 :: []) ?_
    refine go_s0 (some 56) (.call { callee := .value (.func 38), args := #[], argTypes := #[] }) 4 ?_
    refine os_callP rfl en38 rfl (pu_works23) ?_
    refine go_q0 4 (.assign (.tmp 56)) 4 (qv_assign rfl) ?_
    refine go_nil ?_
    change G _ _ _ _
    refine p_weaken [0, 1, 4, 5, 7] rfl ?_
    refine p_ret0 ?_
    try dsimp only [thenQ, inBlockQ]
    try rw [if_pos rfl]
    refine ret_left (R) (.inr rfl) (.cons (res_tmp rfl) .nil) .auto ?_
    exact ⟨rfl, rfl⟩
  replace g24 := kn g24
  refine go_q (d := 25) (op := .move (.tmp 0)) (ty := 3) (g := some (2, true)) (by kernel_rfl) ⟨24, by kernel_rfl, rfl⟩ rfl (qv_move rfl) ?_
  refine go_q (d := 26) (op := .binOp .leq 3 (.tmp 25) (.const (.int .i64 65536)) 3) (ty := 4) (g := some (2, true)) (by kernel_rfl) ⟨24, by kernel_rfl, rfl⟩ rfl (qv_leq rfl rfl rfl) ?_
  refine go_q0 27 (.pick (.tmp 24) (.tmp 26) (.const (.bool false))) 4 (qv_pick_t rfl rfl) ?_
  refine go_q0 28 (.move (.tmp 27)) 4 (qv_move rfl) ?_
  refine go_case (d := 28) rfl (fun g28 => ?_) (fun g28 => ?_)
  · replace g28 := kn g28
    refine go_n (d := 29) (op := .move (.tmp 1)) (ty := 82) (g := some (6, false)) (by kernel_rfl) ⟨28, _, by kernel_rfl, rfl, rfl⟩ rfl ?_
    refine go_n (d := 30) (op := .call { callee := .builtin .len, args := #[.tmp 29], argTypes := #[82] }) (ty := 3) (g := some (6, false)) (by kernel_rfl) ⟨28, _, by kernel_rfl, rfl, rfl⟩ rfl ?_
    refine go_n (d := 31) (op := .binOp .gtr 3 (.tmp 30) (.const (.int .i64 60)) 3) (ty := 4) (g := some (6, false)) (by kernel_rfl) ⟨28, _, by kernel_rfl, rfl, rfl⟩ rfl ?_
    refine go_q0 32 (.pick (.tmp 28) (.const (.bool true)) (.tmp 31)) 4 (qv_pick_t rfl rfl) ?_
    refine go_nil ?_
    change G _ _ _ _
    refine p_weaken [0, 1, 4, 32] rfl ?_
    refine p_condT (.tmp 32) (by kernel_rfl) rfl ?_
    refine p_seq0 ?_
    refine p_plain0 (0 :: 1 :: []) ?_
    refine go_s0 (some 33) (.call { callee := .value (.func 38), args := #[], argTypes := #[] }) 4 ?_
    refine os_callP rfl en38 rfl (pu_works23) ?_
    refine go_q0 4 (.assign (.tmp 33)) 4 (qv_assign rfl) ?_
    refine go_nil ?_
    change G _ _ _ _
    refine p_weaken [0, 1, 4] rfl ?_
    refine p_ret0 ?_
    try dsimp only [thenQ, inBlockQ]
    try rw [if_pos rfl]
    refine ret_left (R) (.inr rfl) (.cons (res_tmp rfl) .nil) .auto ?_
    exact ⟨rfl, rfl⟩
  replace g28 := kn g28
  refine go_q (d := 29) (op := .move (.tmp 1)) (ty := 82) (g := some (6, false)) (by kernel_rfl) ⟨28, by kernel_rfl, rfl⟩ rfl (qv_move rfl) ?_
  refine go_q (d := 30) (op := .call { callee := .builtin .len, args := #[.tmp 29], argTypes := #[82] }) (ty := 3) (g := some (6, false)) (by kernel_rfl) ⟨28, by kernel_rfl, rfl⟩ rfl (qv_lenS un82 rfl) ?_
  refine go_q (d := 31) (op := .binOp .gtr 3 (.tmp 30) (.const (.int .i64 60)) 3) (ty := 4) (g := some (6, false)) (by kernel_rfl) ⟨28, by kernel_rfl, rfl⟩ rfl (qv_gtr rfl rfl rfl) ?_
  refine go_q0 32 (.pick (.tmp 28) (.const (.bool true)) (.tmp 31)) 4 (qv_pick_f rfl rfl) ?_
  refine go_nil ?_
  change G _ _ _ _
  refine p_weaken [0, 1, 4, 32] rfl ?_
  refine p_cond (.tmp 32) (by kernel_rfl) rfl (fun h32 => ?_) (fun h32 => ?_)
  · replace h32 := kn h32
    refine p_seq0 ?_
    refine p_plain0 (0 :: 1 :: []) ?_
    refine go_s0 (some 33) (.call { callee := .value (.func 38), args := #[], argTypes := #[] }) 4 ?_
    refine os_callP rfl en38 rfl (pu_works23) ?_
    refine go_q0 4 (.assign (.tmp 33)) 4 (qv_assign rfl) ?_
    refine go_nil ?_
    change G _ _ _ _
    refine p_weaken [0, 1, 4] rfl ?_
    refine p_ret0 ?_
    try dsimp only [thenQ, inBlockQ]
    try rw [if_pos rfl]
    refine ret_left (R) (.inr rfl) (.cons (res_tmp rfl) .nil) .auto ?_
    exact ⟨rfl, rfl⟩
  replace h32 := kn h32
  refine p_skip0 ?_
  change G _ _ _ _
  refine p_weaken [0, 1, 4] rfl ?_
  refine p_seq0 ?_
  refine p_plain0 (0 :: 1 :: 2 :: 3 :: 4 :: 5 :: 6 :: []) ?_
  refine go_q0 35 (.move (.tmp 0)) 3 (qv_move rfl) ?_
  refine go_s0 (some 36) (.call { callee := .value (.func 39), args := #[.tmp 35], argTypes := #[3] }) 84 ?_
  refine os_callP rfl en39 rfl (pu_NewBad z hb) ?_
  refine go_q0 34 (.move (.tmp 36)) 84 (qv_move rfl) ?_
  refine go_q0 37 (.extract (.tmp 34) 0) 83 (qv_extract rfl rfl) ?_
  refine go_q0 38 (.extract (.tmp 34) 1) 61 (qv_extract rfl rfl) ?_
  refine go_q0 5 (.assign (.tmp 37)) 83 (qv_assign rfl) ?_
  refine go_q0 6 (.assign (.tmp 38)) 61 (qv_assign rfl) ?_
  refine go_nil ?_
  change G _ _ _ _
  refine p_weaken [0, 1, 4, 5, 6] rfl ?_
  refine p_seq0 ?_
  refine p_plain0 (0 :: 1 :: 2 :: 3 :: 4 :: 5 :: 6 :: []) ?_
  refine go_q0 40 (.move (.tmp 0)) 3 (qv_move rfl) ?_
  refine go_s0 (some 41) (.call { callee := .value (.func 57), args := #[.tmp 40], argTypes := #[3] }) 113 ?_
  refine os_callP rfl en57 rfl (pu_refNewBad z hb) ?_
  refine go_q0 39 (.move (.tmp 41)) 113 (qv_move rfl) ?_
  refine go_q0 42 (.extract (.tmp 39) 0) 112 (qv_extract rfl rfl) ?_
  refine go_q0 43 (.extract (.tmp 39) 1) 61 (qv_extract rfl rfl) ?_
  refine go_q0 7 (.assign (.tmp 42)) 112 (qv_assign rfl) ?_
  refine go_q0 8 (.assign (.tmp 43)) 61 (qv_assign rfl) ?_
  refine go_nil ?_
  change G _ _ _ _
  refine p_weaken [0, 1, 4, 5, 6, 7, 8] rfl ?_
  refine p_seq0 ?_
  refine p_seq0 ?_
  refine p_plain0 (0 :: 1 :: 2 :: 3 :: 4 :: 5 :: 6 :: 7 :: 8 :: 9 :: []) ?_
  refine go_q0 44 (.move (.tmp 6)) 61 (qv_move rfl) ?_
  refine go_q0 45 (.move (.tmp 8)) 61 (qv_move rfl) ?_
  refine go_q0 46 (.binOp .neq 61 (.tmp 44) (.tmp 45) 61) 4 (qv_neq (b := false) rfl rfl (by decide)) ?_
  refine go_q0 47 (.move (.tmp 46)) 4 (qv_move rfl) ?_
  refine go_q (d := 48) (op := .move (.tmp 5)) (ty := 83) (g := some (3, false)) (by kernel_rfl) ⟨47, by kernel_rfl, rfl⟩ rfl (qv_move rfl) ?_
  refine go_q (d := 49) (op := .binOp .eql 83 (.tmp 48) (.const (.pointer none)) 83) (ty := 4) (g := some (3, false)) (by kernel_rfl) ⟨47, by kernel_rfl, rfl⟩ rfl (qv_eqlP un83 rfl) ?_
  refine go_q (d := 50) (op := .move (.tmp 6)) (ty := 61) (g := some (3, false)) (by kernel_rfl) ⟨47, by kernel_rfl, rfl⟩ rfl (qv_move rfl) ?_
  refine go_q (d := 51) (op := .binOp .neq 61 (.tmp 50) (.const (.int .i64 0)) 61) (ty := 4) (g := some (3, false)) (by kernel_rfl) ⟨47, by kernel_rfl, rfl⟩ rfl (qv_neq (b := true) rfl rfl (by decide)) ?_
  refine go_q (d := 52) (op := .binOp .neq 4 (.tmp 49) (.tmp 51) 4) (ty := 4) (g := some (3, false)) (by kernel_rfl) ⟨47, by kernel_rfl, rfl⟩ rfl (qv_neqBb (b := false) un4 rfl rfl (by decide)) ?_
  refine go_q0 53 (.pick (.tmp 47) (.const (.bool true)) (.tmp 52)) 4 (qv_pick_f rfl rfl) ?_
  refine go_nil ?_
  change G _ _ _ _
  refine p_weaken [0, 1, 4, 5, 6, 7, 53] rfl ?_
  refine p_condF (.tmp 53) (by kernel_rfl) rfl ?_
  refine p_skip0 ?_
  change G _ _ _ _
  refine p_weaken [0, 1, 4, 5, 6, 7] rfl ?_
  refine p_seq0 ?_
  refine p_seq0 ?_
  refine p_plain0 (0 :: 1 :: []) ?_
  refine go_q0 54 (.move (.tmp 6)) 61 (qv_move rfl) ?_
  refine go_q0 55 (.binOp .neq 61 (.tmp 54) (.const (.int .i64 0)) 61) 4 (qv_neq (b := true) rfl rfl (by decide)) ?_
  refine go_nil ?_
  change G _ _ _ _
  refine p_weaken [0, 1, 4, 5, 7, 55] rfl ?_
  refine p_condT (.tmp 55) (by kernel_rfl) rfl ?_
  refine p_seq0 ?_
  refine p_plain0 (0 :: 1 :: []) ?_
  refine go_s0 (some 56) (.call { callee := .value (.func 38), args := #[], argTypes := #[] }) 4 ?_
  refine os_callP rfl en38 rfl (pu_works23) ?_
  refine go_q0 4 (.assign (.tmp 56)) 4 (qv_assign rfl) ?_
  refine go_nil ?_
  change G _ _ _ _
  refine p_weaken [0, 1, 4, 5, 7] rfl ?_
  refine p_ret0 ?_
  try dsimp only [thenQ, inBlockQ]
  try rw [if_pos rfl]
  refine ret_left (R) (.inr rfl) (.cons (res_tmp rfl) .nil) .auto ?_
  exact ⟨rfl, rfl⟩
theorem ct_TablePlays (n : Nat) (acts : List Act23) (R : Mem) (pl : Option Addr) (cl : Nat) (hok : okSize n = true) (hl : Lst eAct23 pl acts R) (hwf : ∀ a ∈ acts, a.k.Wf) :
    Ct Try.prog 8 [.int .i64 n, .slice pl acts.length cl].toArray R (fun v M' => v = .bool true ∧ M' = R) := by
  obtain ⟨hn1, hn2, hn3⟩ := okSize_pos hok
  refine ct_body (rv := [.tmp 4]) [(0, _), (1, _)] Try.func8 (by kernel_rfl) Try.ntmps8 Try.results8 rfl rfl (fun w0 => ?_)
  refine p_seq0 ?_
  refine p_plain0 (0 :: []) ?_
  refine go_q0 4 (.assign (.const (.bool false))) 4 (qv_assign rfl) ?_
  refine go_nil ?_
  change G _ _ _ _
  refine p_seq0 ?_
  refine p_seq0 ?_
  refine p_plain0 (0 :: 1 :: 2 :: 3 :: 4 :: 5 :: 6 :: 7 :: 8 :: 9 :: 10 :: []) ?_
  refine go_q0 22 (.move (.tmp 0)) 3 (qv_move rfl) ?_
  refine go_q0 23 (.binOp .gtr 3 (.tmp 22) (.const (.int .i64 64)) 3) 4 (qv_gtr rfl rfl rfl) ?_
  refine go_q0 24 (.move (.tmp 23)) 4 (qv_move rfl) ?_
  refine go_case (d := 24) rfl (fun g24 => ?_) (fun g24 => ?_)
  · replace g24 := kn g24
    refine go_q (d := 25) (op := .move (.tmp 0)) (ty := 3) (g := some (2, true)) (by kernel_rfl) ⟨24, by kernel_rfl, rfl⟩ rfl (qv_move rfl) ?_
    refine go_q (d := 26) (op := .binOp .leq 3 (.tmp 25) (.const (.int .i64 65536)) 3) (ty := 4) (g := some (2, true)) (by kernel_rfl) ⟨24, by kernel_rfl, rfl⟩ rfl (qv_leq rfl rfl rfl) ?_
    refine go_q0 27 (.pick (.tmp 24) (.tmp 26) (.const (.bool false))) 4 (qv_pick_t rfl rfl) ?_
    refine go_q0 28 (.move (.tmp 27)) 4 (qv_move rfl) ?_
    refine go_case (d := 28) rfl (fun g28 => ?_) (fun g28 => ?_)
    rotate_left
    · replace g28 := kn g28
      exfalso
      omega
    replace g28 := kn g28
    refine go_n (d := 29) (op := .move (.tmp 1)) (ty := 82) (g := some (6, false)) (by kernel_rfl) ⟨28, _, by kernel_rfl, rfl, rfl⟩ rfl ?_
    refine go_n (d := 30) (op := .call { callee := .builtin .len, args := #[.tmp 29], argTypes := #[82] }) (ty := 3) (g := some (6, false)) (by kernel_rfl) ⟨28, _, by kernel_rfl, rfl, rfl⟩ rfl ?_
    refine go_n (d := 31) (op := .binOp .gtr 3 (.tmp 30) (.const (.int .i64 60)) 3) (ty := 4) (g := some (6, false)) (by kernel_rfl) ⟨28, _, by kernel_rfl, rfl, rfl⟩ rfl ?_
    refine go_q0 32 (.pick (.tmp 28) (.const (.bool true)) (.tmp 31)) 4 (qv_pick_t rfl rfl) ?_
    refine go_nil ?_
    change G _ _ _ _
    refine p_weaken [0, 1, 4, 32] rfl ?_
    refine p_condT (.tmp 32) (by kernel_rfl) rfl ?_
    refine p_seq0 ?_
    refine p_plain0 (0 :: 1 :: []) ?_
    refine go_s0 (some 33) (.call { callee := .value (.func 38), args := #[], argTypes := #[] }) 4 ?_
    refine os_callP rfl en38 rfl (pu_works23) ?_
    refine go_q0 4 (.assign (.tmp 33)) 4 (qv_assign rfl) ?_
    refine go_nil ?_
    change G _ _ _ _
    refine p_weaken [0, 1, 4] rfl ?_
    refine p_ret0 ?_
    try dsimp only [thenQ, inBlockQ]
    try rw [if_pos rfl]
    refine ret_left (R) (.inr rfl) (.cons (res_tmp rfl) .nil) .auto ?_
    exact ⟨rfl, rfl⟩
  replace g24 := kn g24
  refine go_n (d := 25) (op := .move (.tmp 0)) (ty := 3) (g := some (2, true)) (by kernel_rfl) ⟨24, _, by kernel_rfl, rfl, rfl⟩ rfl ?_
  refine go_n (d := 26) (op := .binOp .leq 3 (.tmp 25) (.const (.int .i64 65536)) 3) (ty := 4) (g := some (2, true)) (by kernel_rfl) ⟨24, _, by kernel_rfl, rfl, rfl⟩ rfl ?_
  refine go_q0 27 (.pick (.tmp 24) (.tmp 26) (.const (.bool false))) 4 (qv_pick_f rfl rfl) ?_
  refine go_q0 28 (.move (.tmp 27)) 4 (qv_move rfl) ?_
  refine go_q (d := 29) (op := .move (.tmp 1)) (ty := 82) (g := some (6, false)) (by kernel_rfl) ⟨28, by kernel_rfl, rfl⟩ rfl (qv_move rfl) ?_
  refine go_q (d := 30) (op := .call { callee := .builtin .len, args := #[.tmp 29], argTypes := #[82] }) (ty := 3) (g := some (6, false)) (by kernel_rfl) ⟨28, by kernel_rfl, rfl⟩ rfl (qv_lenS un82 rfl) ?_
  refine go_q (d := 31) (op := .binOp .gtr 3 (.tmp 30) (.const (.int .i64 60)) 3) (ty := 4) (g := some (6, false)) (by kernel_rfl) ⟨28, by kernel_rfl, rfl⟩ rfl (qv_gtr rfl rfl rfl) ?_
  refine go_q0 32 (.pick (.tmp 28) (.const (.bool true)) (.tmp 31)) 4 (qv_pick_f rfl rfl) ?_
  refine go_nil ?_
  change G _ _ _ _
  refine p_weaken [0, 1, 4, 32] rfl ?_
  refine p_cond (.tmp 32) (by kernel_rfl) rfl (fun h32 => ?_) (fun h32 => ?_)
  · replace h32 := kn h32
    refine p_seq0 ?_
    refine p_plain0 (0 :: 1 :: []) ?_
    refine go_s0 (some 33) (.call { callee := .value (.func 38), args := #[], argTypes := #[] }) 4 ?_
    refine os_callP rfl en38 rfl (pu_works23) ?_
    refine go_q0 4 (.assign (.tmp 33)) 4 (qv_assign rfl) ?_
    refine go_nil ?_
    change G _ _ _ _
    refine p_weaken [0, 1, 4] rfl ?_
    refine p_ret0 ?_
    try dsimp only [thenQ, inBlockQ]
    try rw [if_pos rfl]
    refine ret_left (R) (.inr rfl) (.cons (res_tmp rfl) .nil) .auto ?_
    exact ⟨rfl, rfl⟩
  replace h32 := kn h32
  refine p_skip0 ?_
  change G _ _ _ _
  refine p_weaken [0, 1, 4] rfl ?_
  refine p_seq0 ?_
  refine p_plain0 (0 :: 1 :: 2 :: 3 :: 4 :: 5 :: 6 :: []) ?_
  refine go_q0 35 (.move (.tmp 0)) 3 (qv_move rfl) ?_
  refine go_s0 (some 36) (.call { callee := .value (.func 39), args := #[.tmp 35], argTypes := #[3] }) 84 ?_
  refine os_call (Nat.le_of_ble_eq_true rfl) en39 rfl .auto (ct_New n (by omega) (by omega) hn3) ?_
  rintro v36 A36 ⟨bt, bs, rfl, rfl⟩
  try dsimp only [List.nil_append, List.cons_append]
  refine go_q0 34 (.move (.tmp 36)) 84 (qv_move rfl) ?_
  refine go_q0 37 (.extract (.tmp 34) 0) 83 (qv_extract rfl rfl) ?_
  refine go_q0 38 (.extract (.tmp 34) 1) 61 (qv_extract rfl rfl) ?_
  refine go_q0 5 (.assign (.tmp 37)) 83 (qv_assign rfl) ?_
  refine go_q0 6 (.assign (.tmp 38)) 61 (qv_assign rfl) ?_
  refine go_nil ?_
  change G _ _ _ _
  refine p_weaken [0, 1, 4, 5, 6] rfl ?_
  refine p_seq0 ?_
  refine p_plain0 (0 :: 1 :: 2 :: 3 :: 4 :: 5 :: 6 :: []) ?_
  refine go_q0 40 (.move (.tmp 0)) 3 (qv_move rfl) ?_
  refine go_s0 (some 41) (.call { callee := .value (.func 57), args := #[.tmp 40], argTypes := #[3] }) 113 ?_
  refine os_call (Nat.le_of_ble_eq_true rfl) en57 rfl .auto (ct_refNew n hok (by omega)) ?_
  rintro v41 A41 ⟨br, rfl, rfl⟩
  try dsimp only [List.nil_append, List.cons_append]
  refine go_q0 39 (.move (.tmp 41)) 113 (qv_move rfl) ?_
  refine go_q0 42 (.extract (.tmp 39) 0) 112 (qv_extract rfl rfl) ?_
  refine go_q0 43 (.extract (.tmp 39) 1) 61 (qv_extract rfl rfl) ?_
  refine go_q0 7 (.assign (.tmp 42)) 112 (qv_assign rfl) ?_
  refine go_q0 8 (.assign (.tmp 43)) 61 (qv_assign rfl) ?_
  refine go_nil ?_
  change G _ _ _ _
  refine p_weaken [0, 1, 4, 5, 6, 7, 8] rfl ?_
  refine p_seq0 ?_
  refine p_seq0 ?_
  refine p_plain0 (0 :: 1 :: 2 :: 3 :: 4 :: 5 :: 6 :: 7 :: 8 :: 9 :: []) ?_
  refine go_q0 44 (.move (.tmp 6)) 61 (qv_move rfl) ?_
  refine go_q0 45 (.move (.tmp 8)) 61 (qv_move rfl) ?_
  refine go_q0 46 (.binOp .neq 61 (.tmp 44) (.tmp 45) 61) 4 (qv_neq (b := false) rfl rfl (by decide)) ?_
  refine go_q0 47 (.move (.tmp 46)) 4 (qv_move rfl) ?_
  refine go_q (d := 48) (op := .move (.tmp 5)) (ty := 83) (g := some (3, false)) (by kernel_rfl) ⟨47, by kernel_rfl, rfl⟩ rfl (qv_move rfl) ?_
  refine go_q (d := 49) (op := .binOp .eql 83 (.tmp 48) (.const (.pointer none)) 83) (ty := 4) (g := some (3, false)) (by kernel_rfl) ⟨47, by kernel_rfl, rfl⟩ rfl (qv_eqlP un83 rfl) ?_
  refine go_q (d := 50) (op := .move (.tmp 6)) (ty := 61) (g := some (3, false)) (by kernel_rfl) ⟨47, by kernel_rfl, rfl⟩ rfl (qv_move rfl) ?_
  refine go_q (d := 51) (op := .binOp .neq 61 (.tmp 50) (.const (.int .i64 0)) 61) (ty := 4) (g := some (3, false)) (by kernel_rfl) ⟨47, by kernel_rfl, rfl⟩ rfl (qv_neq (b := false) rfl rfl (by decide)) ?_
  refine go_q (d := 52) (op := .binOp .neq 4 (.tmp 49) (.tmp 51) 4) (ty := 4) (g := some (3, false)) (by kernel_rfl) ⟨47, by kernel_rfl, rfl⟩ rfl (qv_neqBb (b := false) un4 rfl rfl (rfl)) ?_
  refine go_q0 53 (.pick (.tmp 47) (.const (.bool true)) (.tmp 52)) 4 (qv_pick_f rfl rfl) ?_
  refine go_nil ?_
  change G _ _ _ _
  refine p_weaken [0, 1, 4, 5, 6, 7, 53] rfl ?_
  refine p_condF (.tmp 53) (by kernel_rfl) rfl ?_
  refine p_skip0 ?_
  change G _ _ _ _
  refine p_weaken [0, 1, 4, 5, 6, 7] rfl ?_
  refine p_seq0 ?_
  refine p_seq0 ?_
  refine p_plain0 (0 :: 1 :: []) ?_
  refine go_q0 54 (.move (.tmp 6)) 61 (qv_move rfl) ?_
  refine go_q0 55 (.binOp .neq 61 (.tmp 54) (.const (.int .i64 0)) 61) 4 (qv_neq (b := false) rfl rfl (by decide)) ?_
  refine go_nil ?_
  change G _ _ _ _
  refine p_weaken [0, 1, 4, 5, 7, 55] rfl ?_
  refine p_condF (.tmp 55) (by kernel_rfl) rfl ?_
  refine p_skip0 ?_
  change G _ _ _ _
  refine p_weaken [0, 1, 4, 5, 7] rfl ?_
  refine p_seq0 ?_
  refine p_seq0 ?_
  have hn := Pow.of_ok hok (by omega)
  have e0 : tabO bt bs n 0 = tabO bt bs n (([] : List Key).length : Nat) := rfl
  rw [e0]
  refine p_plain0 (0 :: []) ?_
  refine go_q0 9 (.assign (.const (.int .i64 0))) 3 (qv_assign rfl) ?_
  refine go_nil ?_
  change G _ _ _ _
  refine p_block 0 (by kernel_rfl) ?_
  refine p_loopE (by kernel_rfl) (fun s m => ∃ (i : Nat) (L : List Slot) (ks : List Key) (ns : List Int) (pr : Option Addr) (cr : Nat) (GG : Mem), (i ≤ acts.length) ∧ (Kp n L ks ns) ∧ (∀ k ∈ ks, k.right = true) ∧ (Lst eSlot pr L GG) ∧ Ge s ⟨[], [(0, .int .i64 n), (1, .slice pl acts.length cl), (5, .pointer (some ⟨bt, 0, none⟩)), (7, .slice pr n cr), (9, .int .i64 i)], tabO bt bs n ks.length :: slotO bs L :: (GG ++ R)⟩ ∧ m = acts.length + 1 - i) ?_ ?_
  · exact ⟨_, ⟨0, List.replicate n zeroS, [], [], some ⟨br, 0, none⟩, n, [(br, .cells (eSlot.flat (List.replicate n zeroS)).toArray 195 (0, 0))], by omega, Kp.new n, fun k hk => absurd hk (by simp), .inr ⟨br, 0, _, _, _, rfl, List.mem_singleton.2 rfl, Holds.whole rfl⟩, ⟨rfl, ⟨[0, 1, 5, 7, 9], rfl⟩, .auto⟩, rfl⟩⟩
  rintro s m ⟨i, L, ks, ns, pr, cr, GG, hi, hK, hr, hG, hs, rfl⟩
  refine ge_ok hs ?_
  refine p_seq0 ?_
  refine p_seq0 ?_
  refine p_plain0 (0 :: 1 :: 2 :: 3 :: []) ?_
  refine go_q0 57 (.move (.tmp 9)) 3 (qv_move rfl) ?_
  refine go_q0 58 (.move (.tmp 1)) 82 (qv_move rfl) ?_
  refine go_q0 59 (.call { callee := .builtin .len, args := #[.tmp 58], argTypes := #[82] }) 3 (qv_lenS un82 rfl) ?_
  refine go_q0 60 (.binOp .lss 3 (.tmp 57) (.tmp 59) 3) 4 (qv_lss rfl rfl rfl) ?_
  refine go_nil ?_
  change G _ _ _ _
  refine p_weaken [0, 1, 5, 7, 9, 60] rfl ?_
  refine p_cond (.tmp 60) (by kernel_rfl) rfl (fun h60 => ?_) (fun h60 => ?_)
  rotate_left
  · replace h60 := kn h60
    refine p_exit 0 (by kernel_rfl) ?_
    change G _ _ _ _
    refine p_weaken [] rfl ?_
    refine p_seq0 ?_
    refine p_plain0 (0 :: 1 :: []) ?_
    refine go_s0 (some 170) (.call { callee := .value (.func 38), args := #[], argTypes := #[] }) 4 ?_
    refine os_callP rfl en38 rfl (pu_works23) ?_
    refine go_q0 4 (.assign (.tmp 170)) 4 (qv_assign rfl) ?_
    refine go_nil ?_
    change G _ _ _ _
    refine p_weaken [4] rfl ?_
    refine p_ret0 ?_
    try dsimp only [thenQ, inBlockQ]
    try rw [if_pos rfl]
    refine ret_left (R) (.inr rfl) (.cons (res_tmp rfl) .nil) .auto ?_
    exact ⟨rfl, rfl⟩
  replace h60 := kn h60
  refine p_skip0 ?_
  change G _ _ _ _
  refine p_weaken [0, 1, 5, 7, 9] rfl ?_
  refine p_seq0 ?_
  refine p_block 1 (by kernel_rfl) ?_
  refine p_seq0 ?_
  obtain ⟨ba, oa, ca, ea, fa, rfl, ma, Ha⟩ := hl.at_ (i := i) (by omega)
  obtain ⟨a, hx⟩ : ∃ a, acts[i]? = some a := ⟨_, List.getElem?_eq_getElem (by omega)⟩
  have hkw := hwf a (List.mem_of_getElem? hx)
  have hLl := hK.L_len
  refine p_plain0 (0 :: 1 :: 2 :: 3 :: 4 :: 5 :: []) ?_
  refine go_q0 63 (.move (.tmp 1)) 82 (qv_move rfl) ?_
  refine go_q0 64 (.move (.tmp 9)) 3 (qv_move rfl) ?_
  refine go_q0 65 (.indexAddr 82 (.tmp 63) (.tmp 64)) 0 (qv_index un82 sz88 rfl rfl rfl (by omega)) ?_
  refine go_q0 66 (.load 88 (.tmp 65)) 88 (qv_load rfl (At.of_mem (by repeat first | exact ma | exact List.mem_append_left _ ma | apply List.mem_cons_of_mem | apply List.mem_append_right)) (ldv_els Ha hx (by decide) agg88 rfl)) ?_
  refine go_s0 (some 10) (.alloc 88) 0 ?_
  refine os_allocA rfl ze88 (fun b10 => ?_)
  refine go_s0 none (.store 88 (.tmp 10) (.tmp 66)) 0 ?_
  refine os_store rfl rfl sz88 rfl (one_Act23 _) .auto (Nat.le_of_ble_eq_true rfl) (splw_Act23 _ _ (siz_Act23 _)) ?_
  refine go_nil ?_
  change G _ _ _ _
  refine p_weaken [0, 1, 5, 7, 9, 10] rfl ?_
  refine p_seq0 ?_
  refine p_plain0 (0 :: 1 :: 2 :: 3 :: 4 :: []) ?_
  refine go_q0 67 (.fieldAddr 88 (.tmp 10) 1) 0 (qv_field rfl fd88_1) ?_
  refine go_q0 68 (.load 27 (.tmp 67)) 27 (qv_load rfl .auto (ldv_agg agg27 (ext_Act23_1_37 _) (Nat.le_of_ble_eq_true rfl))) ?_
  refine go_s0 (some 69) (.call { callee := .value (.func 24), args := #[.tmp 68], argTypes := #[27] }) 45 ?_
  refine os_callP rfl en24 rfl (pu_docKey a.k) ?_
  refine go_s0 (some 11) (.alloc 45) 0 ?_
  refine os_allocA rfl ze45 (fun b11 => ?_)
  refine go_s0 none (.store 45 (.tmp 11) (.tmp 69)) 0 ?_
  refine os_store rfl rfl sz45 rfl (one_Key _) .auto (Nat.le_of_ble_eq_true rfl) (splw_Key _ _ (siz_Key _)) ?_
  refine go_nil ?_
  change G _ _ _ _
  refine p_weaken [0, 1, 5, 7, 9, 10, 11] rfl ?_
  refine p_seqJ (fun s => ∃ (L2 : List Slot) (ks2 : List Key) (ns2 : List Int) (q7 : Option Addr) (d7 : Nat) (G2 : Mem), (Kp n L2 ks2 ns2) ∧ (∀ k ∈ ks2, k.right = true) ∧ (Lst eSlot q7 L2 G2) ∧ Ge s ⟨[], [(0, .int .i64 n), (1, .slice (some ⟨ba, oa, none⟩) acts.length cl), (5, .pointer (some ⟨bt, 0, none⟩)), (7, .slice q7 n d7), (9, .int .i64 i), (10, .pointer (some ⟨b10, 0, none⟩)), (11, .pointer (some ⟨b11, 0, none⟩))], (b11, .cells a.k.c 45 (0, 0)) :: (b10, .cells a.c 88 (0, 0)) :: tabO bt bs n ks2.length :: slotO bs L2 :: (G2 ++ R)⟩) (by kernel_rfl) ?_ ?_
  rotate_left
  · rintro s ⟨L2, ks2, ns2, q7, d7, G2, hK2, hr2, hG2, hs⟩
    refine ge_ok hs ?_
    refine p_seq0 ?_
    have hL2 := hK2.L_len
    obtain ⟨g1, g2, hg⟩ := getV_form L2 a.k
    obtain ⟨f1, hf⟩ := findV_form L2 a.k
    have cg := ct_Get (bt := bt) (bs := bs) (many := ks2.length) (L := L2) (k := a.k) hkw (by omega) (by omega)
    have crg := ct_refGet (c := d7) (by rw [hL2]; exact hn) hG2 hkw
    have crf := ct_refFind (c := d7) (by rw [hL2]; exact hn) hG2 hkw
    rw [hL2, hg] at cg crg
    rw [hL2, hf] at crf
    refine p_plain0 (0 :: 1 :: 2 :: 3 :: 4 :: 5 :: 6 :: 7 :: 8 :: []) ?_
    refine go_q0 122 (.move (.tmp 5)) 83 (qv_move rfl) ?_
    refine go_q0 123 (.fieldAddr 88 (.tmp 10) 1) 0 (qv_field rfl fd88_1) ?_
    refine go_q0 124 (.load 27 (.tmp 123)) 27 (qv_load rfl .auto (ldv_agg agg27 (ext_Act23_1_37 _) (Nat.le_of_ble_eq_true rfl))) ?_
    refine go_s0 (some 125) (.call { callee := .value (.func 46), args := #[.tmp 122, .tmp 124], argTypes := #[83, 27] }) 95 ?_
    refine os_pv rfl (pv_callR en46 rfl .auto (cg)) ?_
    refine go_q0 121 (.move (.tmp 125)) 95 (qv_move rfl) ?_
    refine go_q0 126 (.extract (.tmp 121) 0) 30 (qv_extract rfl rfl) ?_
    refine go_q0 127 (.extract (.tmp 121) 1) 4 (qv_extract rfl rfl) ?_
    refine go_q0 16 (.assign (.tmp 126)) 30 (qv_assign rfl) ?_
    refine go_q0 17 (.assign (.tmp 127)) 4 (qv_assign rfl) ?_
    refine go_nil ?_
    change G _ _ _ _
    refine p_weaken [0, 1, 5, 7, 9, 10, 11, 16, 17] rfl ?_
    refine p_seq0 ?_
    refine p_plain0 (0 :: 1 :: 2 :: 3 :: 4 :: 5 :: 6 :: 7 :: []) ?_
    refine go_q0 129 (.move (.tmp 7)) 112 (qv_move rfl) ?_
    refine go_q0 130 (.load 45 (.tmp 11)) 45 (qv_load rfl .auto (ldv_agg agg45 (extw_Key _) (Nat.le_of_ble_eq_true rfl))) ?_
    refine go_s0 (some 131) (.call { callee := .value (.func 61), args := #[.tmp 129, .tmp 130], argTypes := #[112, 45] }) 95 ?_
    refine os_pv rfl (pv_callR en61 rfl (by exact Sel.skip (Sel.skip (Sel.skip (Sel.skip Sel.app)))) (crg)) ?_
    refine go_q0 128 (.move (.tmp 131)) 95 (qv_move rfl) ?_
    refine go_q0 132 (.extract (.tmp 128) 0) 30 (qv_extract rfl rfl) ?_
    refine go_q0 133 (.extract (.tmp 128) 1) 4 (qv_extract rfl rfl) ?_
    refine go_q0 18 (.assign (.tmp 132)) 30 (qv_assign rfl) ?_
    refine go_q0 19 (.assign (.tmp 133)) 4 (qv_assign rfl) ?_
    refine go_nil ?_
    change G _ _ _ _
    refine p_weaken [0, 1, 5, 7, 9, 10, 11, 16, 17, 18, 19] rfl ?_
    refine p_seq0 ?_
    refine p_plain0 (0 :: 1 :: 2 :: 3 :: 4 :: 5 :: 6 :: 7 :: []) ?_
    refine go_q0 135 (.move (.tmp 7)) 112 (qv_move rfl) ?_
    refine go_q0 136 (.load 45 (.tmp 11)) 45 (qv_load rfl .auto (ldv_agg agg45 (extw_Key _) (Nat.le_of_ble_eq_true rfl))) ?_
    refine go_s0 (some 137) (.call { callee := .value (.func 62), args := #[.tmp 135, .tmp 136], argTypes := #[112, 45] }) 119 ?_
    refine os_pv rfl (pv_callR en62 rfl (by exact Sel.skip (Sel.skip (Sel.skip (Sel.skip Sel.app)))) (crf)) ?_
    refine go_q0 134 (.move (.tmp 137)) 119 (qv_move rfl) ?_
    refine go_q0 138 (.extract (.tmp 134) 0) 3 (qv_extract rfl rfl) ?_
    refine go_q0 139 (.extract (.tmp 134) 1) 3 (qv_extract rfl rfl) ?_
    refine go_q0 20 (.assign (.tmp 138)) 3 (qv_assign rfl) ?_
    refine go_q0 21 (.assign (.tmp 139)) 3 (qv_assign rfl) ?_
    refine go_nil ?_
    change G _ _ _ _
    refine p_weaken [0, 1, 5, 7, 9, 10, 11, 16, 17, 18, 19, 21] rfl ?_
    refine p_seq0 ?_
    refine p_draw (by kernel_rfl) mixed 30 30 _ (fun _ h => h) (by kernel_rfl) ?_
    refine gd_all (0 :: 1 :: 2 :: 3 :: 4 :: 5 :: 6 :: 7 :: 8 :: 9 :: 10 :: 11 :: 12 :: 13 :: 14 :: 15 :: 16 :: 17 :: 18 :: 19 :: 20 :: 21 :: 22 :: 23 :: 24 :: 25 :: 26 :: 27 :: 28 :: 29 :: []) _ rfl (by kernel_rfl) (by decide) (fun _ h => h) rfl ?_
    refine sq_q0 140 (.move (.tmp 16)) 30 (qv_move rfl) ?_
    refine sq_q0 141 (.move (.tmp 18)) 30 (qv_move rfl) ?_
    refine sq_q0 142 (.binOp .neq 30 (.tmp 140) (.tmp 141) 30) 4 (qv_neq (b := false) rfl rfl (bne_eq_false_iff_eq.2 (by omega))) ?_
    refine sq_q0 143 (.move (.tmp 142)) 4 (qv_move rfl) ?_
    refine sq_q (d := 144) (op := .move (.tmp 17)) (ty := 4) (g := some (3, false)) (by kernel_rfl) ⟨143, by kernel_rfl, rfl⟩ (fun _ h => nomatch h) (qv_move rfl) ?_
    refine sq_q (d := 145) (op := .move (.tmp 19)) (ty := 4) (g := some (3, false)) (by kernel_rfl) ⟨143, by kernel_rfl, rfl⟩ (fun _ h => nomatch h) (qv_move rfl) ?_
    refine sq_q (d := 146) (op := .binOp .neq 4 (.tmp 144) (.tmp 145) 4) (ty := 4) (g := some (3, false)) (by kernel_rfl) ⟨143, by kernel_rfl, rfl⟩ (fun _ h => nomatch h) (qv_neqBb (b := false) un4 rfl rfl (by simp)) ?_
    refine sq_q0 147 (.pick (.tmp 143) (.const (.bool true)) (.tmp 146)) 4 (qv_pick_f rfl rfl) ?_
    refine sq_q0 148 (.move (.tmp 147)) 4 (qv_move rfl) ?_
    refine sq_q (d := 149) (op := .move (.tmp 5)) (ty := 83) (g := some (8, false)) (by kernel_rfl) ⟨148, by kernel_rfl, rfl⟩ (fun _ h => nomatch h) (qv_move rfl) ?_
    refine sq_q (d := 150) (op := .fieldAddr 88 (.tmp 10) 1) (ty := 0) (g := some (8, false)) (by kernel_rfl) ⟨148, by kernel_rfl, rfl⟩ (fun _ h => nomatch h) (qv_field rfl fd88_1) ?_
    refine sq_q (d := 151) (op := .load 27 (.tmp 150)) (ty := 27) (g := some (8, false)) (by kernel_rfl) ⟨148, by kernel_rfl, rfl⟩ (fun _ h => nomatch h) (qv_load rfl .auto (ldv_agg agg27 (ext_Act23_1_37 _) (Nat.le_of_ble_eq_true rfl))) ?_
    refine sq_p (d := 152) (op := .call { callee := .value (.func 40), args := #[.tmp 149, .tmp 151], argTypes := #[83, 27] }) (ty := 3) (g := some (8, false)) (by kernel_rfl) ⟨148, by kernel_rfl, rfl⟩ (pv_callR en40 rfl .auto (ct_ProbesV (many := ks2.length) (bs := bs) hL2 hkw (by omega) (by omega))) ?_
    refine sq_q (d := 153) (op := .move (.tmp 21)) (ty := 3) (g := some (8, false)) (by kernel_rfl) ⟨148, by kernel_rfl, rfl⟩ (fun _ h => nomatch h) (qv_move rfl) ?_
    refine sq_q (d := 154) (op := .binOp .neq 3 (.tmp 152) (.tmp 153) 3) (ty := 4) (g := some (8, false)) (by kernel_rfl) ⟨148, by kernel_rfl, rfl⟩ (fun _ h => nomatch h) (qv_neq (b := false) rfl rfl (bne_eq_false_iff_eq.2 (by omega))) ?_
    refine sq_q0 155 (.pick (.tmp 148) (.const (.bool true)) (.tmp 154)) 4 (qv_pick_f rfl rfl) ?_
    refine sq_q0 156 (.move (.tmp 155)) 4 (qv_move rfl) ?_
    refine sq_q (d := 157) (op := .fieldAddr 88 (.tmp 10) 1) (ty := 0) (g := some (16, false)) (by kernel_rfl) ⟨156, by kernel_rfl, rfl⟩ (fun _ h => nomatch h) (qv_field rfl fd88_1) ?_
    refine sq_q (d := 158) (op := .load 27 (.tmp 157)) (ty := 27) (g := some (16, false)) (by kernel_rfl) ⟨156, by kernel_rfl, rfl⟩ (fun _ h => nomatch h) (qv_load rfl .auto (ldv_agg agg27 (ext_Act23_1_37 _) (Nat.le_of_ble_eq_true rfl))) ?_
    refine sq_p (d := 159) (op := .call { callee := .value (.func 63), args := #[.tmp 158], argTypes := #[27] }) (ty := 30) (g := some (16, false)) (by kernel_rfl) ⟨156, by kernel_rfl, rfl⟩ (pv_call en63 rfl (pu_Hash a.k hkw)) ?_
    refine sq_q (d := 160) (op := .load 45 (.tmp 11)) (ty := 45) (g := some (16, false)) (by kernel_rfl) ⟨156, by kernel_rfl, rfl⟩ (fun _ h => nomatch h) (qv_load rfl .auto (ldv_agg agg45 (extw_Key _) (Nat.le_of_ble_eq_true rfl))) ?_
    refine sq_p (d := 161) (op := .call { callee := .value (.func 64), args := #[.tmp 160], argTypes := #[45] }) (ty := 30) (g := some (16, false)) (by kernel_rfl) ⟨156, by kernel_rfl, rfl⟩ (pv_call en64 rfl (pu_refHash a.k hkw)) ?_
    refine sq_q (d := 162) (op := .binOp .neq 30 (.tmp 159) (.tmp 161) 30) (ty := 4) (g := some (16, false)) (by kernel_rfl) ⟨156, by kernel_rfl, rfl⟩ (fun _ h => nomatch h) (qv_neq (b := false) rfl rfl (bne_eq_false_iff_eq.2 (by omega))) ?_
    refine sq_q0 163 (.pick (.tmp 156) (.const (.bool true)) (.tmp 162)) 4 (qv_pick_f rfl rfl) ?_
    refine sq_q0 164 (.move (.tmp 163)) 4 (qv_move rfl) ?_
    refine sq_q (d := 165) (op := .move (.tmp 5)) (ty := 83) (g := some (24, false)) (by kernel_rfl) ⟨164, by kernel_rfl, rfl⟩ (fun _ h => nomatch h) (qv_move rfl) ?_
    refine sq_q (d := 166) (op := .move (.tmp 7)) (ty := 112) (g := some (24, false)) (by kernel_rfl) ⟨164, by kernel_rfl, rfl⟩ (fun _ h => nomatch h) (qv_move rfl) ?_
    refine sq_p (d := 167) (op := .call { callee := .value (.func 65), args := #[.tmp 165, .tmp 166], argTypes := #[83, 112] }) (ty := 4) (g := some (24, false)) (by kernel_rfl) ⟨164, by kernel_rfl, rfl⟩ (pv_callR en65 rfl .auto (ct_is (bt := bt) (bs := bs) (c := d7) hn hK2 hr2 hG2)) ?_
    refine sq_q (d := 168) (op := .unOp .not 4 (.tmp 167)) (ty := 4) (g := some (24, false)) (by kernel_rfl) ⟨164, by kernel_rfl, rfl⟩ (fun _ h => nomatch h) (qv_not rfl) ?_
    refine sq_q0 169 (.pick (.tmp 164) (.const (.bool true)) (.tmp 168)) 4 (qv_pick_f rfl rfl) ?_
    refine SeqK.nil (fun β => ?_)
    refine gd_tail [] rfl (by kernel_rfl) (by kernel_rfl) ?_
    refine go_nil ?_
    change G _ _ _ _
    refine p_weaken [0, 1, 5, 7, 9, 169] rfl ?_
    refine p_condF (.tmp 169) (by kernel_rfl) rfl ?_
    refine p_skip0 ?_
    change G _ _ _ _
    refine p_weaken [0, 1, 5, 7, 9] rfl ?_
    refine p_plain0 (0 :: 1 :: 2 :: []) ?_
    refine go_q0 61 (.move (.tmp 9)) 3 (qv_move rfl) ?_
    refine go_q0 62 (.binOp .add 3 (.tmp 61) (.const (.int .i64 1)) 3) 3 (qv_add rfl rfl (by first | exact IntWalk.i64_in _ (by omega) | exact IntWalk.i64_in _ (by dsimp only; omega) | rfl)) ?_
    refine go_q0 9 (.assign (.tmp 62)) 3 (qv_assign rfl) ?_
    refine go_nil ?_
    exact ⟨_, ⟨i + 1, L2, ks2, ns2, q7, d7, G2, by omega, hK2, hr2, hG2, ⟨rfl, ⟨[0, 1, 5, 7, 9], rfl⟩, .auto⟩, rfl⟩, by omega⟩
  refine p_seq0 ?_
  refine p_plain0 (0 :: 1 :: 2 :: []) ?_
  refine go_q0 70 (.fieldAddr 88 (.tmp 10) 0) 0 (qv_field rfl fd88_0) ?_
  refine go_q0 71 (.load 3 (.tmp 70)) 3 (qv_load rfl .auto (ldv_sca sc3 (get_Act23_0 _))) ?_
  refine go_s0 (some 72) (.call { callee := .value (.func 41), args := #[.tmp 71, .const (.int .i64 8)], argTypes := #[3, 3] }) 3 ?_
  refine os_callP rfl en41 rfl (pu_Pick8 a.do_) ?_
  refine go_nil ?_
  change G _ _ _ _
  refine p_weaken [0, 1, 5, 7, 9, 10, 11, 72] rfl ?_
  refine p_block 2 (by kernel_rfl) ?_
  refine p_seqK [0, 1, 5, 7, 9, 10, 11, 72] rfl (fun frk Mk s => ∃ (x90 : Bool), Ge s ⟨[], (90, .bool x90) :: frk, Mk⟩) (by kernel_rfl) ?_ ?_
  · refine p_seq0 ?_
    refine p_plain0 (0 :: 1 :: []) ?_
    refine go_q0 91 (.binOp .eql 3 (.tmp 72) (.const (.int .i64 4)) 3) 4 (qv_eql rfl rfl rfl) ?_
    refine go_q0 90 (.assign (.tmp 91)) 4 (qv_assign rfl) ?_
    refine go_nil ?_
    change G _ _ _ _
    refine p_weaken [0, 1, 5, 7, 9, 10, 11, 72, 90] rfl ?_
    refine p_cond (.tmp 90) (by kernel_rfl) rfl (fun h90 => ?_) (fun h90 => ?_)
    · replace h90 := kn h90
      refine p_skip0 ?_
      exact ⟨_, ⟨rfl, ⟨[90, 0, 1, 5, 7, 9, 10, 11, 72], rfl⟩, .auto⟩⟩
    replace h90 := kn h90
    refine p_plain0 (0 :: 1 :: []) ?_
    refine go_q0 92 (.binOp .eql 3 (.tmp 72) (.const (.int .i64 5)) 3) 4 (qv_eql rfl rfl rfl) ?_
    refine go_q0 90 (.assign (.tmp 92)) 4 (qv_assign rfl) ?_
    refine go_nil ?_
    exact ⟨_, ⟨rfl, ⟨[90, 0, 1, 5, 7, 9, 10, 11, 72], rfl⟩, .auto⟩⟩
  rintro s ⟨x90, hs⟩
  refine ge_ok hs ?_
  refine p_cond (.tmp 90) (by kernel_rfl) rfl (fun h90 => ?_) (fun h90 => ?_)
  · replace h90 := kn h90
    refine p_seq0 ?_
    obtain ⟨ok, L', ks', ns', hKn, hrn, hcR, hcT⟩ := hK.delAny hn hr hkw
    refine p_plain0 (0 :: 1 :: 2 :: 3 :: 4 :: 5 :: 6 :: 7 :: []) ?_
    refine go_q0 94 (.move (.tmp 7)) 112 (qv_move rfl) ?_
    refine go_q0 95 (.load 45 (.tmp 11)) 45 (qv_load rfl .auto (ldv_agg agg45 (extw_Key _) (Nat.le_of_ble_eq_true rfl))) ?_
    refine go_s0 (some 96) (.call { callee := .value (.func 58), args := #[.tmp 94, .tmp 95], argTypes := #[112, 45] }) 115 ?_
    refine os_call (Nat.le_of_ble_eq_true rfl) en58 rfl (by exact Sel.skip (Sel.skip (Sel.skip (Sel.skip Sel.app)))) (hcR GG pr cr hG) ?_
    rintro v96 A96 ⟨q, d, B, rfl, hGn, rfl⟩
    try dsimp only [List.nil_append, List.cons_append]
    refine go_q0 93 (.move (.tmp 96)) 115 (qv_move rfl) ?_
    refine go_q0 97 (.extract (.tmp 93) 0) 112 (qv_extract rfl rfl) ?_
    refine go_q0 98 (.extract (.tmp 93) 1) 4 (qv_extract rfl rfl) ?_
    refine go_q0 12 (.assign (.tmp 97)) 112 (qv_assign rfl) ?_
    refine go_q0 13 (.assign (.tmp 98)) 4 (qv_assign rfl) ?_
    refine go_nil ?_
    change G _ _ _ _
    refine p_weaken [0, 1, 5, 7, 9, 10, 11, 12, 13] rfl ?_
    refine p_seq0 ?_
    refine p_seq0 ?_
    refine p_plain0 (0 :: 1 :: 2 :: 3 :: 4 :: 5 :: []) ?_
    refine go_q0 99 (.move (.tmp 5)) 83 (qv_move rfl) ?_
    refine go_q0 100 (.fieldAddr 88 (.tmp 10) 1) 0 (qv_field rfl fd88_1) ?_
    refine go_q0 101 (.load 27 (.tmp 100)) 27 (qv_load rfl .auto (ldv_agg agg27 (ext_Act23_1_37 _) (Nat.le_of_ble_eq_true rfl))) ?_
    refine go_s0 (some 102) (.call { callee := .value (.func 44), args := #[.tmp 99, .tmp 101], argTypes := #[83, 27] }) 4 ?_
    refine os_call (Nat.le_of_ble_eq_true rfl) en44 rfl .auto (hcT bt bs) ?_
    rintro v102 A102 ⟨rfl, rfl⟩
    try dsimp only [List.nil_append, List.cons_append]
    refine go_q0 103 (.move (.tmp 13)) 4 (qv_move rfl) ?_
    refine go_q0 104 (.binOp .neq 4 (.tmp 102) (.tmp 103) 4) 4 (qv_neqBb (b := false) un4 rfl rfl (by simp)) ?_
    refine go_nil ?_
    change G _ _ _ _
    refine p_weaken [0, 1, 5, 7, 9, 10, 11, 12, 104] rfl ?_
    refine p_condF (.tmp 104) (by kernel_rfl) rfl ?_
    refine p_skip0 ?_
    change G _ _ _ _
    refine p_weaken [0, 1, 5, 7, 9, 10, 11, 12] rfl ?_
    refine p_plain0 (0 :: 1 :: []) ?_
    refine go_q0 105 (.move (.tmp 12)) 112 (qv_move rfl) ?_
    refine go_q0 7 (.assign (.tmp 105)) 112 (qv_assign rfl) ?_
    refine go_nil ?_
    exact ⟨_, _, _, _, _, _, hKn, hrn, hGn, ⟨rfl, ⟨[0, 1, 5, 7, 9, 10, 11], rfl⟩, .auto⟩⟩
  replace h90 := kn h90
  refine p_seq0 ?_
  refine p_plain0 (0 :: 1 :: []) ?_
  refine go_q0 107 (.binOp .eql 3 (.tmp 72) (.const (.int .i64 6)) 3) 4 (qv_eql rfl rfl rfl) ?_
  refine go_q0 106 (.assign (.tmp 107)) 4 (qv_assign rfl) ?_
  refine go_nil ?_
  change G _ _ _ _
  refine p_weaken [0, 1, 5, 7, 9, 10, 11, 72, 106] rfl ?_
  refine p_cond (.tmp 106) (by kernel_rfl) rfl (fun h106 => ?_) (fun h106 => ?_)
  · replace h106 := kn h106
    have hKn := hK
    have hrn := hr
    have hGn := hG
    refine p_skip0 ?_
    exact ⟨_, _, _, _, _, _, hKn, hrn, hGn, ⟨rfl, ⟨[0, 1, 5, 7, 9, 10, 11], rfl⟩, .auto⟩⟩
  replace h106 := kn h106
  refine p_seq0 ?_
  refine p_plain0 (0 :: 1 :: []) ?_
  refine go_q0 109 (.binOp .eql 3 (.tmp 72) (.const (.int .i64 7)) 3) 4 (qv_eql rfl rfl rfl) ?_
  refine go_q0 108 (.assign (.tmp 109)) 4 (qv_assign rfl) ?_
  refine go_nil ?_
  change G _ _ _ _
  refine p_weaken [0, 1, 5, 7, 9, 10, 11, 108] rfl ?_
  refine p_cond (.tmp 108) (by kernel_rfl) rfl (fun h108 => ?_) (fun h108 => ?_)
  · replace h108 := kn h108
    refine p_seq0 ?_
    refine p_plain0 (0 :: 1 :: 2 :: 3 :: []) ?_
    refine go_q0 110 (.fieldAddr 88 (.tmp 10) 2) 0 (qv_field rfl fd88_2) ?_
    refine go_q0 111 (.load 30 (.tmp 110)) 30 (qv_load rfl .auto (ldv_sca sc30 (get_Act23_38 _))) ?_
    refine go_q0 112 (.binOp .rem 30 (.tmp 111) (.const (.int .u64 8)) 30) 30 (qv_rem rfl rfl (by omega) (rfl)) ?_
    refine go_q0 113 (.binOp .eql 30 (.tmp 112) (.const (.int .u64 0)) 30) 4 (qv_eql rfl rfl rfl) ?_
    refine go_nil ?_
    change G _ _ _ _
    refine p_weaken [0, 1, 5, 7, 9, 10, 11, 113] rfl ?_
    refine p_cond (.tmp 113) (by kernel_rfl) rfl (fun h113 => ?_) (fun h113 => ?_)
    rotate_left
    · replace h113 := kn h113
      have hKn := hK
      have hrn := hr
      have hGn := hG
      refine p_skip0 ?_
      exact ⟨_, _, _, _, _, _, hKn, hrn, hGn, ⟨rfl, ⟨[0, 1, 5, 7, 9, 10, 11], rfl⟩, .auto⟩⟩
    replace h113 := kn h113
    refine p_seq0 ?_
    have hKn := Kp.new n
    have hrn : ∀ k ∈ ([] : List Key), k.right = true := fun k hk => absurd hk (by simp)
    refine p_plain0 (0 :: 1 :: []) ?_
    refine go_q0 114 (.move (.tmp 5)) 83 (qv_move rfl) ?_
    refine go_s0 (some 115) (.call { callee := .value (.func 59), args := #[.tmp 114], argTypes := #[83] }) 0 ?_
    refine os_call (Nat.le_of_ble_eq_true rfl) en59 rfl .auto (ct_Clear hLl (by omega)) ?_
    rintro v115 A115 ⟨rfl, rfl⟩
    try dsimp only [List.nil_append, List.cons_append]
    rw [e0]
    refine go_nil ?_
    change G _ _ _ _
    refine p_weaken [0, 1, 5, 7, 9, 10, 11] rfl ?_
    refine p_plain0 (0 :: 1 :: 2 :: 3 :: 4 :: 5 :: []) ?_
    refine go_q0 117 (.move (.tmp 0)) 3 (qv_move rfl) ?_
    refine go_s0 (some 118) (.call { callee := .value (.func 57), args := #[.tmp 117], argTypes := #[3] }) 113 ?_
    refine os_call (Nat.le_of_ble_eq_true rfl) en57 rfl .auto (ct_refNew n hok (by omega)) ?_
    rintro v118 A118 ⟨b2, rfl, rfl⟩
    try dsimp only [List.nil_append, List.cons_append]
    have hGn : Lst eSlot (some ⟨b2, 0, none⟩) (List.replicate n zeroS) [(b2, .cells (eSlot.flat (List.replicate n zeroS)).toArray 195 (0, 0))] := .inr ⟨b2, 0, _, _, _, rfl, List.mem_singleton.2 rfl, Holds.whole rfl⟩
    refine go_q0 116 (.move (.tmp 118)) 113 (qv_move rfl) ?_
    refine go_q0 119 (.extract (.tmp 116) 0) 112 (qv_extract rfl rfl) ?_
    refine go_q0 120 (.extract (.tmp 116) 1) 61 (qv_extract rfl rfl) ?_
    refine go_q0 7 (.assign (.tmp 119)) 112 (qv_assign rfl) ?_
    refine go_nil ?_
    exact ⟨_, _, _, _, _, _, hKn, hrn, hGn, ⟨rfl, ⟨[0, 1, 5, 7, 9, 10, 11], rfl⟩, .auto⟩⟩
  replace h108 := kn h108
  refine p_seq0 ?_
  obtain ⟨e, L', ks', ns', hKn, hrn, hcR, hcT⟩ := hK.putAny hn hr hkw a.n
  refine p_plain0 (0 :: 1 :: 2 :: 3 :: 4 :: 5 :: 6 :: 7 :: 8 :: 9 :: []) ?_
  refine go_q0 74 (.move (.tmp 7)) 112 (qv_move rfl) ?_
  refine go_q0 75 (.load 45 (.tmp 11)) 45 (qv_load rfl .auto (ldv_agg agg45 (extw_Key _) (Nat.le_of_ble_eq_true rfl))) ?_
  refine go_q0 76 (.fieldAddr 88 (.tmp 10) 2) 0 (qv_field rfl fd88_2) ?_
  refine go_q0 77 (.load 30 (.tmp 76)) 30 (qv_load rfl .auto (ldv_sca sc30 (get_Act23_38 _))) ?_
  refine go_s0 (some 78) (.call { callee := .value (.func 60), args := #[.tmp 74, .tmp 75, .tmp 77], argTypes := #[112, 45, 30] }) 113 ?_
  refine os_call (Nat.le_of_ble_eq_true rfl) en60 rfl (by exact Sel.skip (Sel.skip (Sel.skip (Sel.skip Sel.app)))) (hcR GG pr cr hG) ?_
  rintro v78 A78 ⟨q, d, B, rfl, hGn, rfl⟩
  try dsimp only [List.nil_append, List.cons_append]
  refine go_q0 73 (.move (.tmp 78)) 113 (qv_move rfl) ?_
  refine go_q0 79 (.extract (.tmp 73) 0) 112 (qv_extract rfl rfl) ?_
  refine go_q0 80 (.extract (.tmp 73) 1) 61 (qv_extract rfl rfl) ?_
  refine go_q0 14 (.assign (.tmp 79)) 112 (qv_assign rfl) ?_
  refine go_q0 15 (.assign (.tmp 80)) 61 (qv_assign rfl) ?_
  refine go_nil ?_
  change G _ _ _ _
  refine p_weaken [0, 1, 5, 7, 9, 10, 11, 14, 15] rfl ?_
  refine p_seq0 ?_
  refine p_seq0 ?_
  refine p_plain0 (0 :: 1 :: 2 :: 3 :: 4 :: 5 :: 6 :: 7 :: []) ?_
  refine go_q0 81 (.move (.tmp 5)) 83 (qv_move rfl) ?_
  refine go_q0 82 (.fieldAddr 88 (.tmp 10) 1) 0 (qv_field rfl fd88_1) ?_
  refine go_q0 83 (.load 27 (.tmp 82)) 27 (qv_load rfl .auto (ldv_agg agg27 (ext_Act23_1_37 _) (Nat.le_of_ble_eq_true rfl))) ?_
  refine go_q0 84 (.fieldAddr 88 (.tmp 10) 2) 0 (qv_field rfl fd88_2) ?_
  refine go_q0 85 (.load 30 (.tmp 84)) 30 (qv_load rfl .auto (ldv_sca sc30 (get_Act23_38 _))) ?_
  refine go_s0 (some 86) (.call { callee := .value (.func 42), args := #[.tmp 81, .tmp 83, .tmp 85], argTypes := #[83, 27, 30] }) 61 ?_
  refine os_call (Nat.le_of_ble_eq_true rfl) en42 rfl .auto (hcT bt bs) ?_
  rintro v86 A86 ⟨rfl, rfl⟩
  try dsimp only [List.nil_append, List.cons_append]
  refine go_q0 87 (.move (.tmp 15)) 61 (qv_move rfl) ?_
  refine go_q0 88 (.binOp .neq 61 (.tmp 86) (.tmp 87) 61) 4 (qv_neq (b := false) rfl rfl (bne_eq_false_iff_eq.2 (by omega))) ?_
  refine go_nil ?_
  change G _ _ _ _
  refine p_weaken [0, 1, 5, 7, 9, 10, 11, 14, 88] rfl ?_
  refine p_condF (.tmp 88) (by kernel_rfl) rfl ?_
  refine p_skip0 ?_
  change G _ _ _ _
  refine p_weaken [0, 1, 5, 7, 9, 10, 11, 14] rfl ?_
  refine p_plain0 (0 :: 1 :: []) ?_
  refine go_q0 89 (.move (.tmp 14)) 112 (qv_move rfl) ?_
  refine go_q0 7 (.assign (.tmp 89)) 112 (qv_assign rfl) ?_
  refine go_nil ?_
  exact ⟨_, _, _, _, _, _, hKn, hrn, hGn, ⟨rfl, ⟨[0, 1, 5, 7, 9, 10, 11], rfl⟩, .auto⟩⟩
theorem ct_TablePlaysAll (z : Int) (acts : List Act23) (R : Mem) (pl : Option Addr) (cl : Nat) (hl : Lst eAct23 pl acts R) (hwf : ∀ a ∈ acts, a.Wf) :
    Ct Try.prog 8 [.int .i64 z, .slice pl acts.length cl].toArray R (fun v M' => v = .bool true ∧ M' = R) := by
  cases h : okSize z with
  | false => exact ct_TablePlaysBad z acts R pl cl h
  | true =>
    obtain ⟨n, rfl⟩ : ∃ n : Nat, z = n := ⟨z.toNat, by have := (okSize_pos h).1; omega⟩
    exact ct_TablePlays n acts R pl cl h hl fun a ha => (hwf a ha).k_
end Go.Proofs.Ytobmcpoejhhemaa
