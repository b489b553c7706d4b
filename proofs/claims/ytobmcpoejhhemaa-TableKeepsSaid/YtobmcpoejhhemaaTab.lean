/- Contracts: the table: its memory; find. -/
import Derived.Test.YtobmcpoejhhemaaBytes
import Derived.Test.YtobmcpoejhhemaaEngG
namespace Go.Proofs.Ytobmcpoejhhemaa
open Go.E

/-- The table at bt, its places at bs. -/
def tabO (bt bs n : Nat) (many : Int) : Nat × Obj := (bt, .cells (⟨.slice (some ⟨bs, 0, none⟩) n n, many⟩ : Tab).c 172 (0, 0))
def slotO (bs : Nat) (L : List Slot) : Nat × Obj := (bs, .cells (eSlot.flat L).toArray 175 (0, 0))
theorem slot_holds (L : List Slot) : Holds eSlot (eSlot.flat L).toArray 0 L := Holds.whole rfl

theorem ct_Size (bt bs n : Nat) (many : Int) : Ct Try.prog 66 [.pointer (some ⟨bt, 0, none⟩)].toArray [tabO bt bs n many] (fun v M' => v = .int .i64 n ∧ M' = [tabO bt bs n many]) := by
  unfold tabO
  refine ct_body (rv := [.tmp 2]) [(0, _)] Try.func66 (by kernel_rfl) Try.ntmps66 Try.results66 rfl rfl (fun w0 => ?_)
  refine p_seq (by kernel_rfl) ?_
  refine p_plain (by kernel_rfl) (0 :: []) (by kernel_rfl) ?_
  refine go_q (d := 2) (op := .assign (.const (.int .i64 0))) (ty := 3) (g := none) (by kernel_rfl) trivial rfl (qv_assign rfl) ?_
  refine go_nil ?_
  change G _ _ _ _
  refine p_seq (by kernel_rfl) ?_
  refine p_seq (by kernel_rfl) ?_
  refine p_plain (by kernel_rfl) (0 :: 1 :: []) (by kernel_rfl) ?_
  refine go_q (d := 3) (op := .move (.tmp 0)) (ty := 83) (g := none) (by kernel_rfl) trivial rfl (qv_move rfl) ?_
  refine go_q (d := 4) (op := .binOp .eql 83 (.tmp 3) (.const (.pointer none)) 83) (ty := 4) (g := none) (by kernel_rfl) trivial rfl (qv_eqlP un83 rfl) ?_
  refine go_nil ?_
  change G _ _ _ _
  refine p_weaken [0, 2, 4] rfl ?_
  refine p_condF (.tmp 4) (by kernel_rfl) rfl ?_
  refine p_skip (by kernel_rfl) ?_
  change G _ _ _ _
  refine p_weaken [0, 2] rfl ?_
  refine p_seq (by kernel_rfl) ?_
  refine p_plain (by kernel_rfl) (0 :: 1 :: 2 :: 3 :: 4 :: 5 :: []) (by kernel_rfl) ?_
  refine go_q (d := 5) (op := .move (.tmp 0)) (ty := 83) (g := none) (by kernel_rfl) trivial rfl (qv_move rfl) ?_
  refine go_q (d := 6) (op := .nilCheck (.tmp 5)) (ty := 0) (g := none) (by kernel_rfl) trivial rfl (qv_nilCheck rfl) ?_
  refine go_q (d := 7) (op := .fieldAddr 172 (.tmp 6) 0) (ty := 0) (g := none) (by kernel_rfl) trivial rfl (qv_field rfl fd172_0) ?_
  refine go_q (d := 8) (op := .load 124 (.tmp 7)) (ty := 124) (g := none) (by kernel_rfl) trivial rfl (qv_load rfl (by repeat first | exact .here | apply At.next | apply At.app) (ldv_sca sc124 (get_Tab_0 _))) ?_
  refine go_q (d := 9) (op := .call { callee := .builtin .len, args := #[.tmp 8], argTypes := #[124] }) (ty := 3) (g := none) (by kernel_rfl) trivial rfl (qv_lenS un124 rfl) ?_
  refine go_q (d := 2) (op := .assign (.tmp 9)) (ty := 3) (g := none) (by kernel_rfl) trivial rfl (qv_assign rfl) ?_
  refine go_nil ?_
  change G _ _ _ _
  refine p_weaken [2] rfl ?_
  refine p_ret (by kernel_rfl) ?_
  try dsimp only [thenQ, inBlockQ]
  try rw [if_pos rfl]
  refine ret_left ([tabO bt bs n many]) (.inr rfl) (.cons (res_tmp rfl) .nil) (by first | ((repeat first | exact .refl | exact Sb.app | apply Sb.keep | apply Sb.app_keep | apply Sb.skip | apply Sb.app_skip); done) | exact Sb.of_cnt fun x => by (simp only [List.count_append, List.count_cons, List.count_nil]; omega)) ?_
  exact ⟨rfl, rfl⟩
theorem ct_Len (bt bs n : Nat) (many : Int) : Ct Try.prog 45 [.pointer (some ⟨bt, 0, none⟩)].toArray [tabO bt bs n many] (fun v M' => v = .int .i64 many ∧ M' = [tabO bt bs n many]) := by
  unfold tabO
  refine ct_body (rv := [.tmp 2]) [(0, _)] Try.func45 (by kernel_rfl) Try.ntmps45 Try.results45 rfl rfl (fun w0 => ?_)
  refine p_seq (by kernel_rfl) ?_
  refine p_plain (by kernel_rfl) (0 :: []) (by kernel_rfl) ?_
  refine go_q (d := 2) (op := .assign (.const (.int .i64 0))) (ty := 3) (g := none) (by kernel_rfl) trivial rfl (qv_assign rfl) ?_
  refine go_nil ?_
  change G _ _ _ _
  refine p_seq (by kernel_rfl) ?_
  refine p_seq (by kernel_rfl) ?_
  refine p_plain (by kernel_rfl) (0 :: 1 :: []) (by kernel_rfl) ?_
  refine go_q (d := 3) (op := .move (.tmp 0)) (ty := 83) (g := none) (by kernel_rfl) trivial rfl (qv_move rfl) ?_
  refine go_q (d := 4) (op := .binOp .eql 83 (.tmp 3) (.const (.pointer none)) 83) (ty := 4) (g := none) (by kernel_rfl) trivial rfl (qv_eqlP un83 rfl) ?_
  refine go_nil ?_
  change G _ _ _ _
  refine p_weaken [0, 2, 4] rfl ?_
  refine p_condF (.tmp 4) (by kernel_rfl) rfl ?_
  refine p_skip (by kernel_rfl) ?_
  change G _ _ _ _
  refine p_weaken [0, 2] rfl ?_
  refine p_seq (by kernel_rfl) ?_
  refine p_plain (by kernel_rfl) (0 :: 1 :: 2 :: 3 :: 4 :: []) (by kernel_rfl) ?_
  refine go_q (d := 5) (op := .move (.tmp 0)) (ty := 83) (g := none) (by kernel_rfl) trivial rfl (qv_move rfl) ?_
  refine go_q (d := 6) (op := .nilCheck (.tmp 5)) (ty := 0) (g := none) (by kernel_rfl) trivial rfl (qv_nilCheck rfl) ?_
  refine go_q (d := 7) (op := .fieldAddr 172 (.tmp 6) 1) (ty := 0) (g := none) (by kernel_rfl) trivial rfl (qv_field rfl fd172_1) ?_
  refine go_q (d := 8) (op := .load 3 (.tmp 7)) (ty := 3) (g := none) (by kernel_rfl) trivial rfl (qv_load rfl (by repeat first | exact .here | apply At.next | apply At.app) (ldv_sca sc3 (get_Tab_1 _))) ?_
  refine go_q (d := 2) (op := .assign (.tmp 8)) (ty := 3) (g := none) (by kernel_rfl) trivial rfl (qv_assign rfl) ?_
  refine go_nil ?_
  change G _ _ _ _
  refine p_weaken [2] rfl ?_
  refine p_ret (by kernel_rfl) ?_
  try dsimp only [thenQ, inBlockQ]
  try rw [if_pos rfl]
  refine ret_left ([tabO bt bs n many]) (.inr rfl) (.cons (res_tmp rfl) .nil) (by first | ((repeat first | exact .refl | exact Sb.app | apply Sb.keep | apply Sb.app_keep | apply Sb.skip | apply Sb.app_skip); done) | exact Sb.of_cnt fun x => by (simp only [List.count_append, List.count_cons, List.count_nil]; omega)) ?_
  exact ⟨rfl, rfl⟩
theorem ct_from (bt : Nat) (k : Key) : Ct Try.prog 148 [.pointer (some ⟨bt, 0, none⟩), .agg k.c].toArray [] (fun v A => ∃ b2 b3, v = .func (.func 177) #[] #[.pointer (some ⟨b2, 0, none⟩), .pointer (some ⟨b3, 0, none⟩)] ∧
    A = [(b2, .cells #[.pointer (some ⟨bt, 0, none⟩)] 83 (0, 0)), (b3, .cells k.c 27 (0, 0))]) := by
  refine ct_body (rv := [.tmp 4]) [(0, _), (1, _)] Try.func148 (by kernel_rfl) Try.ntmps148 Try.results148 rfl rfl (fun w0 => ?_)
  refine p_seq (by kernel_rfl) ?_
  refine p_plain (by kernel_rfl) (0 :: 1 :: 2 :: []) (by kernel_rfl) ?_
  refine go_s (d := some 2) (op := .box 83 (.tmp 0)) (ty := 0) (g := none) (by kernel_rfl) trivial ?_
  refine os_box1 rfl rfl rfl (fun b2 => ?_)
  refine go_s (d := some 3) (op := .box 27 (.tmp 1)) (ty := 0) (g := none) (by kernel_rfl) trivial ?_
  refine os_boxA rfl rfl (fun b3 => ?_)
  refine go_q (d := 4) (op := .assign (.const .nilFunc)) (ty := 228) (g := none) (by kernel_rfl) trivial rfl (qv_assign rfl) ?_
  refine go_nil ?_
  change G _ _ _ _
  refine p_weaken [2, 3, 4] rfl ?_
  refine p_seq (by kernel_rfl) ?_
  refine p_plain (by kernel_rfl) (0 :: 1 :: []) (by kernel_rfl) ?_
  refine go_q (d := 5) (op := .makeFunc (.func 177) #[] #[.tmp 2, .tmp 3]) (ty := 227) (g := none) (by kernel_rfl) trivial rfl (qv_makeFunc rfl) ?_
  refine go_q (d := 4) (op := .assign (.tmp 5)) (ty := 228) (g := none) (by kernel_rfl) trivial rfl (qv_assign rfl) ?_
  refine go_nil ?_
  change G _ _ _ _
  refine p_weaken [4] rfl ?_
  refine p_ret (by kernel_rfl) ?_
  try dsimp only [thenQ, inBlockQ]
  try rw [if_pos rfl]
  refine ret_leftP ([(b2, .cells #[.pointer (some ⟨bt, 0, none⟩)] 83 (0, 0)), (b3, .cells k.c 27 (0, 0))]) (.inr rfl) (.cons (res_tmp rfl) .nil) (⟨[], by simpa using List.Perm.swap _ _ _⟩) ?_
  exact ⟨b2, b3, rfl, rfl⟩

/-- The i-th place that is looked at. -/
def place (n : Nat) (k : Key) (i : Nat) : Nat := (IntKind.u64.wrap (hashK k + i) % n).toNat
theorem place_lt {n : Nat} (hn : 0 < n) (k : Key) (i : Nat) : place n k i < n := by
  unfold place
  have h1 := Int.emod_lt_of_pos (IntKind.u64.wrap (hashK k + i)) (show (0 : Int) < n by omega)
  have h2 := Int.emod_nonneg (IntKind.u64.wrap (hashK k + i)) (show (n : Int) ≠ 0 by omega)
  omega
theorem wrap64_nn (x : Int) : 0 ≤ IntKind.u64.wrap x := by
  have : IntKind.u64.wrap x = x % 18446744073709551616 := by simp [IntKind.wrap, IntKind.bits, IntKind.signed]
  rw [this]
  exact Int.emod_nonneg _ (by decide)
theorem rem_place {n : Nat} (hn : 0 < n) (k : Key) (i : Nat) : (IntKind.u64.wrap (hashK k + (i : Int))).tmod (n : Int) = (place n k i : Int) := by
  rw [Int.tmod_eq_emod_of_nonneg (wrap64_nn _)]
  unfold place
  have h2 := Int.emod_nonneg (IntKind.u64.wrap (hashK k + i)) (show (n : Int) ≠ 0 by omega)
  omega
/-- Is the search over at the i-th place? -/
def stop (L : List Slot) (k : Key) (i : Nat) : Bool := match L[place L.length k i]? with
  | some s => !s.used || decide (s.key = k)
  | none => false
theorem stop_of {L : List Slot} {k : Key} {i : Nat} {s : Slot} (h : L[place L.length k i]? = some s) : stop L k i = (!s.used || decide (s.key = k)) := by unfold stop; rw [h]

theorem ct_from1 {g : Rg} {bt bs b2 b3 n : Nat} {many : Int} {L : List Slot} {k : Key} (hk : k.Wf) (hn : L.length = n) (h1 : 1 ≤ n) (h2 : n ≤ 65536) (hps : g.ps.size = 1) (σ fin : Nat → Mem) (st : Nat → Bool)
    (hr : ∀ i, i < n → RCt Try.prog g [.int .i64 (place n k i)] (g.o .ready none :: (g.D, .deferred (some [])) :: tabO bt bs n many :: slotO bs L :: σ i)
      (fun u M' => u = .bool (!st i) ∧ M' = cond (st i) (g.o .done (some .ret) :: (g.D, .deferred (some [])) :: tabO bt bs n many :: slotO bs L :: fin i) (g.o .ready none :: (g.D, .deferred (some [])) :: tabO bt bs n many :: slotO bs L :: σ (i + 1)))) :
    Ct Try.prog 177 [.func (.yield g.l) #[] #[], .pointer (some ⟨b2, 0, none⟩), .pointer (some ⟨b3, 0, none⟩)].toArray
      (g.o .ready none :: (g.D, .deferred (some [])) :: tabO bt bs n many :: slotO bs L :: (σ 0 ++ [(b2, .cells #[.pointer (some ⟨bt, 0, none⟩)] 83 (0, 0)), (b3, .cells k.c 27 (0, 0))]))
      (fun _ M' => (∃ i, i < n ∧ (∀ j, j < i → st j = false) ∧ st i = true ∧ M' = g.o .done (some .ret) :: (g.D, .deferred (some [])) :: tabO bt bs n many :: slotO bs L :: (fin i ++ [(b2, .cells #[.pointer (some ⟨bt, 0, none⟩)] 83 (0, 0)), (b3, .cells k.c 27 (0, 0))])) ∨
        ((∀ j, j < n → st j = false) ∧ M' = g.o .ready none :: (g.D, .deferred (some [])) :: tabO bt bs n many :: slotO bs L :: (σ n ++ [(b2, .cells #[.pointer (some ⟨bt, 0, none⟩)] 83 (0, 0)), (b3, .cells k.c 27 (0, 0))]))) := by
  refine ct_body (rv := []) [(0, _), (1, _), (2, _)] Try.func177 (by kernel_rfl) Try.ntmps177 Try.results177 rfl rfl (fun w0 => ?_)
  refine p_seq (by kernel_rfl) ?_
  refine p_plain (by kernel_rfl) (0 :: 1 :: 2 :: 3 :: []) (by kernel_rfl) ?_
  refine go_q (d := 6) (op := .load 83 (.tmp 1)) (ty := 83) (g := none) (by kernel_rfl) trivial rfl (qv_load rfl (by repeat first | exact .here | apply At.next | apply At.app) (ldv_sca sc83 (get_one _))) ?_
  refine go_s (d := some 7) (op := .call { callee := .value (.func 66), args := #[.tmp 6], argTypes := #[83] }) (ty := 3) (g := none) (by kernel_rfl) trivial ?_
  refine os_pv rfl (pv_callR en66 rfl (by first | ((repeat constructor); done) | (repeat first | exact Sel.nil | exact Sel.all | exact Sel.app | (apply Sel.cons; focus (repeat first | exact Tk.here | apply Tk.next | apply Tk.app)) | apply Sel.skip | apply Sel.skipA)) (ct_Size bt bs n many)) ?_
  refine go_q (d := 8) (op := .convert 3 30 (.tmp 7)) (ty := 30) (g := none) (by kernel_rfl) trivial rfl (qv_conv un3 un30 rfl (by first | exact IntWalk.u64_in _ (by omega) | rfl)) ?_
  refine go_q (d := 4) (op := .assign (.tmp 8)) (ty := 30) (g := none) (by kernel_rfl) trivial rfl (qv_assign rfl) ?_
  refine go_nil ?_
  change G _ _ _ _
  refine p_weaken [0, 2, 4] rfl ?_
  refine p_seq (by kernel_rfl) ?_
  refine p_plain (by kernel_rfl) (0 :: 1 :: []) (by kernel_rfl) ?_
  refine go_q (d := 9) (op := .move (.tmp 4)) (ty := 30) (g := none) (by kernel_rfl) trivial rfl (qv_move rfl) ?_
  refine go_q (d := 10) (op := .move (.const (.int .u64 0))) (ty := 30) (g := none) (by kernel_rfl) trivial rfl (qv_move rfl) ?_
  refine go_nil ?_
  change G _ _ _ _
  refine p_block 0 (by kernel_rfl) ?_
  refine p_loopE (by kernel_rfl) (fun s m => ∃ (i : Nat), (i ≤ n) ∧ (∀ j, j < i → st j = false) ∧ Ge s ⟨[], [(0, .func (.yield g.l) #[] #[]), (2, .pointer (some ⟨b3, 0, none⟩)), (4, .int .u64 n), (9, .int .u64 n), (10, .int .u64 i)], g.o .ready none :: (g.D, .deferred (some [])) :: tabO bt bs n many :: slotO bs L :: (σ i ++ [(b2, .cells #[.pointer (some ⟨bt, 0, none⟩)] 83 (0, 0)), (b3, .cells k.c 27 (0, 0))])⟩ ∧ m = n - i) ?_ ?_
  · exact ⟨_, ⟨0, by omega, fun j hj => absurd hj (by omega), ⟨rfl, ⟨[0, 2, 4, 9, 10], rfl⟩, (by first | ((repeat first | exact .refl | exact Sb.app | apply Sb.keep | apply Sb.app_keep | apply Sb.skip | apply Sb.app_skip); done) | exact Sb.of_cnt fun x => by (simp only [List.count_append, List.count_cons, List.count_nil]; omega))⟩, rfl⟩⟩
  · rintro s m ⟨i, hi, hs0, hs, rfl⟩
    refine ge_ok hs ?_
    refine p_seq (by kernel_rfl) ?_
    refine p_plain (by kernel_rfl) (0 :: []) (by kernel_rfl) ?_
    refine go_q (d := 11) (op := .binOp .lss 30 (.tmp 10) (.tmp 9) 30) (ty := 4) (g := none) (by kernel_rfl) trivial rfl (qv_lss rfl rfl rfl) ?_
    refine go_nil ?_
    change G _ _ _ _
    refine p_seq (by kernel_rfl) ?_
    refine p_cond (.tmp 11) (by kernel_rfl) rfl (fun h11 => ?_) (fun h11 => ?_)
    · try first | replace h11 := t_nd h11 | replace h11 := f_nd h11 | replace h11 := t_nbb h11 | replace h11 := f_nbb h11 | replace h11 := t_not h11 | replace h11 := f_not h11 | replace h11 := t_eq h11 | replace h11 := f_eq h11 | replace h11 := t_ne h11 | replace h11 := f_ne h11 | replace h11 := t_bb h11 | replace h11 := f_bb h11 | replace h11 := of_decide_eq_true h11 | replace h11 := of_decide_eq_false h11
      refine p_skip (by kernel_rfl) ?_
      change G _ _ _ _
      refine p_weaken [0, 2, 4, 9, 10] rfl ?_
      refine p_seq (by kernel_rfl) ?_
      refine p_block 1 (by kernel_rfl) ?_
      refine p_seq (by kernel_rfl) ?_
      refine p_plain (by kernel_rfl) (0 :: 1 :: []) (by kernel_rfl) ?_
      refine go_q (d := 12) (op := .move (.tmp 10)) (ty := 30) (g := none) (by kernel_rfl) trivial rfl (qv_move rfl) ?_
      refine go_q (d := 5) (op := .assign (.tmp 12)) (ty := 30) (g := none) (by kernel_rfl) trivial rfl (qv_assign rfl) ?_
      refine go_nil ?_
      change G _ _ _ _
      refine p_weaken [0, 2, 4, 5, 9, 10] rfl ?_
      refine p_seq (by kernel_rfl) ?_
      have hi' : i < n := by omega
      refine p_plain (by kernel_rfl) (0 :: 1 :: 2 :: 3 :: 4 :: 5 :: 6 :: 7 :: 8 :: 9 :: []) (by kernel_rfl) ?_
      refine go_q (d := 13) (op := .move (.tmp 0)) (ty := 256) (g := none) (by kernel_rfl) trivial rfl (qv_move rfl) ?_
      refine go_q (d := 14) (op := .load 27 (.tmp 2)) (ty := 27) (g := none) (by kernel_rfl) trivial rfl (qv_load rfl (by repeat first | exact .here | apply At.next | apply At.app) (ldv_agg agg27 (extw_Key _) (Nat.le_of_ble_eq_true rfl))) ?_
      refine go_s (d := some 15) (op := .call { callee := .value (.func 63), args := #[.tmp 14], argTypes := #[27] }) (ty := 30) (g := none) (by kernel_rfl) trivial ?_
      refine os_callP rfl en63 rfl (pu_Hash k hk) ?_
      refine go_q (d := 16) (op := .move (.tmp 5)) (ty := 30) (g := none) (by kernel_rfl) trivial rfl (qv_move rfl) ?_
      refine go_q (d := 17) (op := .binOp .add 30 (.tmp 15) (.tmp 16) 30) (ty := 30) (g := none) (by kernel_rfl) trivial rfl (qv_add rfl rfl (by first | exact IntWalk.u64_in _ (by omega) | exact IntWalk.u64_in _ (by dsimp only; omega) | rfl)) ?_
      refine go_q (d := 18) (op := .move (.tmp 4)) (ty := 30) (g := none) (by kernel_rfl) trivial rfl (qv_move rfl) ?_
      refine go_q (d := 19) (op := .binOp .rem 30 (.tmp 17) (.tmp 18) 30) (ty := 30) (g := none) (by kernel_rfl) trivial rfl (qv_rem rfl rfl (by omega) (rem_place (by omega) k i)) ?_
      refine go_q (d := 20) (op := .convert 30 3 (.tmp 19)) (ty := 3) (g := none) (by kernel_rfl) trivial rfl (qv_conv un30 un3 rfl (by have := place_lt (n := n) (by omega) k i; exact IntWalk.i64_in _ (by omega))) ?_
      refine go_s (d := some 21) (op := .call { callee := .value (.tmp 13), args := #[.tmp 20], argTypes := #[3] }) (ty := 4) (g := none) (by kernel_rfl) trivial ?_
      refine os_yield (g := g) (A := g.o .ready none :: (g.D, .deferred (some [])) :: tabO bt bs n many :: slotO bs L :: σ i) rfl rfl rfl hps.symm (by repeat first | exact Sel.nil | exact Sel.all | exact Sel.app | (apply Sel.cons; focus (repeat first | exact Tk.here | apply Tk.next | apply Tk.app)) | apply Sel.skip | apply Sel.skipA) (by simp) (hr i hi') (fun u A' hR => ?_)
      obtain ⟨rfl, rfl⟩ := hR
      refine go_q (d := 22) (op := .unOp .not 4 (.tmp 21)) (ty := 4) (g := none) (by kernel_rfl) trivial rfl (qv_not rfl) ?_
      refine go_nil ?_
      change G _ _ _ _
      refine p_weaken [0, 2, 4, 9, 10, 22] rfl ?_
      refine p_cond (.tmp 22) (by kernel_rfl) rfl (fun h22 => ?_) (fun h22 => ?_)
      · try first | replace h22 := t_nd h22 | replace h22 := f_nd h22 | replace h22 := t_nbb h22 | replace h22 := f_nbb h22 | replace h22 := t_not h22 | replace h22 := f_not h22 | replace h22 := t_eq h22 | replace h22 := f_eq h22 | replace h22 := t_ne h22 | replace h22 := f_ne h22 | replace h22 := t_bb h22 | replace h22 := f_bb h22 | replace h22 := of_decide_eq_true h22 | replace h22 := of_decide_eq_false h22
        replace h22 := f_not h22
        rw [h22]
        refine p_ret (by kernel_rfl) ?_
        try dsimp only [thenQ, inBlockQ]
        try rw [if_pos rfl]
        refine ret_left (g.o .done (some .ret) :: (g.D, .deferred (some [])) :: tabO bt bs n many :: slotO bs L :: (fin i ++ [(b2, .cells #[.pointer (some ⟨bt, 0, none⟩)] 83 (0, 0)), (b3, .cells k.c 27 (0, 0))])) (.inr rfl) .nil (by first | ((repeat first | exact .refl | exact Sb.app | apply Sb.keep | apply Sb.app_keep | apply Sb.skip | apply Sb.app_skip); done) | exact Sb.of_cnt fun x => by (simp only [List.count_append, List.count_cons, List.count_nil]; omega)) ?_
        exact .inl ⟨i, hi', hs0, h22, rfl⟩
      · try first | replace h22 := t_nd h22 | replace h22 := f_nd h22 | replace h22 := t_nbb h22 | replace h22 := f_nbb h22 | replace h22 := t_not h22 | replace h22 := f_not h22 | replace h22 := t_eq h22 | replace h22 := f_eq h22 | replace h22 := t_ne h22 | replace h22 := f_ne h22 | replace h22 := t_bb h22 | replace h22 := f_bb h22 | replace h22 := of_decide_eq_true h22 | replace h22 := of_decide_eq_false h22
        replace h22 := t_not h22
        rw [h22]
        refine p_skip (by kernel_rfl) ?_
        change G _ _ _ _
        refine p_weaken [0, 2, 4, 9, 10] rfl ?_
        refine p_plain (by kernel_rfl) (0 :: 1 :: []) (by kernel_rfl) ?_
        refine go_q (d := 23) (op := .binOp .add 30 (.tmp 10) (.const (.int .u64 1)) 30) (ty := 30) (g := none) (by kernel_rfl) trivial rfl (qv_add rfl rfl (by first | exact IntWalk.u64_in _ (by omega) | exact IntWalk.u64_in _ (by dsimp only; omega) | rfl)) ?_
        refine go_q (d := 10) (op := .move (.tmp 23)) (ty := 30) (g := none) (by kernel_rfl) trivial rfl (qv_move rfl) ?_
        refine go_nil ?_
        exact ⟨_, ⟨i + 1, by omega, fun j hj => by by_cases e : j = i; exact e ▸ h22; exact hs0 j (by omega), ⟨rfl, ⟨[0, 2, 4, 9, 10], rfl⟩, (by first | ((repeat first | exact .refl | exact Sb.app | apply Sb.keep | apply Sb.app_keep | apply Sb.skip | apply Sb.app_skip); done) | exact Sb.of_cnt fun x => by (simp only [List.count_append, List.count_cons, List.count_nil]; omega))⟩, rfl⟩, by omega⟩
    · try first | replace h11 := t_nd h11 | replace h11 := f_nd h11 | replace h11 := t_nbb h11 | replace h11 := f_nbb h11 | replace h11 := t_not h11 | replace h11 := f_not h11 | replace h11 := t_eq h11 | replace h11 := f_eq h11 | replace h11 := t_ne h11 | replace h11 := f_ne h11 | replace h11 := t_bb h11 | replace h11 := f_bb h11 | replace h11 := of_decide_eq_true h11 | replace h11 := of_decide_eq_false h11
      refine p_exit 0 (by kernel_rfl) ?_
      try dsimp only [thenQ, inBlockQ]
      try rw [if_pos rfl]
      refine ret_left (g.o .ready none :: (g.D, .deferred (some [])) :: tabO bt bs n many :: slotO bs L :: (σ i ++ [(b2, .cells #[.pointer (some ⟨bt, 0, none⟩)] 83 (0, 0)), (b3, .cells k.c 27 (0, 0))])) (.inl rfl) .nil (by first | ((repeat first | exact .refl | exact Sb.app | apply Sb.keep | apply Sb.app_keep | apply Sb.skip | apply Sb.app_skip); done) | exact Sb.of_cnt fun x => by (simp only [List.count_append, List.count_cons, List.count_nil]; omega)) ?_
      have hin : i = n := by omega
      subst hin
      exact .inr ⟨hs0, rfl⟩

/-- What find answers. -/
def findI (L : List Slot) (k : Key) : Option Nat := (List.range L.length).find? (stop L k)
def findV (L : List Slot) (k : Key) : Value := match findI L k with
  | some i => .tuple #[.int .i64 (place L.length k i), .int .i64 ((i + 1 : Nat) : Int)]
  | none => .tuple #[.int .i64 (-1), .int .i64 L.length]
theorem findI_some {L : List Slot} {k : Key} {i : Nat} (hi : i < L.length) (h0 : ∀ j, j < i → stop L k j = false) (h1 : stop L k i = true) : findI L k = some i := by
  unfold findI
  rw [List.find?_range_eq_some]
  exact ⟨h1, by simpa using hi, fun j hj => by simp [h0 j hj]⟩
theorem findI_none {L : List Slot} {k : Key} (h0 : ∀ j, j < L.length → stop L k j = false) : findI L k = none := by
  unfold findI
  rw [List.find?_eq_none]
  intro x hx
  simp [h0 x (by simpa using hx)]
theorem ct_find {bt bs : Nat} {many : Int} {L : List Slot} {k : Key} (hk : k.Wf) (h1 : 1 ≤ L.length) (h2 : L.length ≤ 65536) :
    Ct Try.prog 93 [.pointer (some ⟨bt, 0, none⟩), .agg k.c].toArray [tabO bt bs L.length many, slotO bs L] (fun v M' => v = findV L k ∧ M' = [tabO bt bs L.length many, slotO bs L]) := by
  refine ct_body (rv := [.cell 4 3, .cell 5 3]) [(0, _), (1, _)] Try.func93 (by kernel_rfl) Try.ntmps93 Try.results93 rfl rfl (fun w0 => ?_)
  refine p_seq (by kernel_rfl) ?_
  refine p_plain (by kernel_rfl) (0 :: 1 :: 2 :: 3 :: []) (by kernel_rfl) ?_
  refine go_s (d := some 2) (op := .box 83 (.tmp 0)) (ty := 0) (g := none) (by kernel_rfl) trivial ?_
  refine os_box1 rfl rfl rfl (fun b2 => ?_)
  refine go_s (d := some 3) (op := .box 27 (.tmp 1)) (ty := 0) (g := none) (by kernel_rfl) trivial ?_
  refine os_boxA rfl rfl (fun b3 => ?_)
  refine go_s (d := some 4) (op := .alloc 3) (ty := 0) (g := none) (by kernel_rfl) trivial ?_
  refine os_alloc1 rfl ze3 rfl (fun b4 => ?_)
  refine go_s (d := some 5) (op := .alloc 3) (ty := 0) (g := none) (by kernel_rfl) trivial ?_
  refine os_alloc1 rfl ze3 rfl (fun b5 => ?_)
  refine go_nil ?_
  change G _ _ _ _
  refine p_weaken [2, 3, 4, 5] rfl ?_
  refine p_seq (by kernel_rfl) ?_
  refine p_seq (by kernel_rfl) ?_
  refine p_plain (by kernel_rfl) (0 :: 1 :: []) (by kernel_rfl) ?_
  refine go_q (d := 7) (op := .load 83 (.tmp 2)) (ty := 83) (g := none) (by kernel_rfl) trivial rfl (qv_load rfl (by repeat first | exact .here | apply At.next | apply At.app) (ldv_sca sc83 (get_one _))) ?_
  refine go_q (d := 8) (op := .binOp .eql 83 (.tmp 7) (.const (.pointer none)) 83) (ty := 4) (g := none) (by kernel_rfl) trivial rfl (qv_eqlP un83 rfl) ?_
  refine go_nil ?_
  change G _ _ _ _
  refine p_weaken [2, 3, 4, 5, 8] rfl ?_
  refine p_condF (.tmp 8) (by kernel_rfl) rfl ?_
  refine p_skip (by kernel_rfl) ?_
  change G _ _ _ _
  refine p_weaken [2, 3, 4, 5] rfl ?_
  refine p_seq (by kernel_rfl) ?_
  refine p_seq (by kernel_rfl) ?_
  refine p_plain (by kernel_rfl) (0 :: 1 :: 2 :: []) (by kernel_rfl) ?_
  refine go_q (d := 9) (op := .load 83 (.tmp 2)) (ty := 83) (g := none) (by kernel_rfl) trivial rfl (qv_load rfl (by repeat first | exact .here | apply At.next | apply At.app) (ldv_sca sc83 (get_one _))) ?_
  refine go_q (d := 10) (op := .load 27 (.tmp 3)) (ty := 27) (g := none) (by kernel_rfl) trivial rfl (qv_load rfl (by repeat first | exact .here | apply At.next | apply At.app) (ldv_agg agg27 (extw_Key _) (Nat.le_of_ble_eq_true rfl))) ?_
  refine go_s (d := some 11) (op := .call { callee := .value (.func 148), args := #[.tmp 9, .tmp 10], argTypes := #[83, 27] }) (ty := 228) (g := none) (by kernel_rfl) trivial ?_
  refine os_call (Nat.le_of_ble_eq_true rfl) en148 rfl (by first | ((repeat constructor); done) | (repeat first | exact Sel.nil | exact Sel.all | exact Sel.app | (apply Sel.cons; focus (repeat first | exact Tk.here | apply Tk.next | apply Tk.app)) | apply Sel.skip | apply Sel.skipA)) (ct_from bt k) ?_
  rintro v11 A11 ⟨c2, c3, rfl, rfl⟩
  try dsimp only [List.nil_append, List.cons_append]
  try dsimp only [List.nil_append, List.cons_append]
  refine go_nil ?_
  change G _ _ _ _
  refine p_weaken [2, 3, 4, 5, 11] rfl ?_
  refine p_block 0 (by kernel_rfl) ?_
  refine p_range (gop := .tmp 11) (ps := #[12]) (A := (tabO bt bs L.length many :: slotO bs L :: ([(b4, .cells #[.int .i64 0] 3 (0, 0)), (b5, .cells #[.int .i64 (0 : Nat)] 3 (0, 0)), (b3, .cells k.c 27 (0, 0)), (b2, .cells #[.pointer (some ⟨bt, 0, none⟩)] 83 (0, 0))] ++ [(c2, .cells #[.pointer (some ⟨bt, 0, none⟩)] 83 (0, 0)), (c3, .cells k.c 27 (0, 0))]))) (by kernel_rfl) rfl rfl en177 (by first | ((repeat constructor); done) | (repeat first | exact Sel.nil | exact Sel.all | exact Sel.app | (apply Sel.cons; focus (repeat first | exact Tk.here | apply Tk.next | apply Tk.app)) | apply Sel.skip | apply Sel.skipA)) (fun g hps hga hgb hsz hfr => ?_)
  have hfr := hfr.pickT [2, 3, 4, 5] rfl
  have hround : ∀ i, i < L.length → RCt Try.prog g [.int .i64 (place L.length k i)] (g.o .ready none :: (g.D, .deferred (some [])) :: tabO bt bs L.length many :: slotO bs L :: [(b4, .cells #[.int .i64 0] 3 (0, 0)), (b5, .cells #[.int .i64 i] 3 (0, 0)), (b3, .cells k.c 27 (0, 0)), (b2, .cells #[.pointer (some ⟨bt, 0, none⟩)] 83 (0, 0))]) (fun u M' => u = .bool (!stop L k i) ∧ M' = cond (stop L k i) (g.o .done (some .ret) :: (g.D, .deferred (some [])) :: tabO bt bs L.length many :: slotO bs L :: [(b4, .cells #[.int .i64 (place L.length k i)] 3 (0, 0)), (b5, .cells #[.int .i64 (i + 1 : Nat)] 3 (0, 0)), (b3, .cells k.c 27 (0, 0)), (b2, .cells #[.pointer (some ⟨bt, 0, none⟩)] 83 (0, 0))]) (g.o .ready none :: (g.D, .deferred (some [])) :: tabO bt bs L.length many :: slotO bs L :: [(b4, .cells #[.int .i64 0] 3 (0, 0)), (b5, .cells #[.int .i64 (i + 1 : Nat)] 3 (0, 0)), (b3, .cells k.c 27 (0, 0)), (b2, .cells #[.pointer (some ⟨bt, 0, none⟩)] 83 (0, 0))])) := by
    intro i hi
    have hpl := place_lt (n := L.length) (by omega) k i
    obtain ⟨s, hs⟩ : ∃ s, L[place L.length k i]? = some s := ⟨_, List.getElem?_eq_getElem hpl⟩
    refine rct_of hps hsz rfl hfr (fun w0 => ?_)
    rw [hga, hgb]
    refine p_plain (by kernel_rfl) (0 :: []) (by kernel_rfl) ?_
    refine go_q (d := 6) (op := .assign (.tmp 12)) (ty := 3) (g := none) (by kernel_rfl) trivial rfl (qv_assign rfl) ?_
    refine go_nil ?_
    refine ⟨rfl, _, List.Perm.refl _, ?_⟩
    refine p_block 1 (by kernel_rfl) ?_
    refine p_seq (by kernel_rfl) ?_
    refine p_plain (by kernel_rfl) (0 :: 1 :: 2 :: []) (by kernel_rfl) ?_
    refine go_q (d := 13) (op := .load 3 (.tmp 5)) (ty := 3) (g := none) (by kernel_rfl) trivial rfl (qv_load rfl (by repeat first | exact .here | apply At.next | apply At.app) (ldv_sca sc3 (get_one _))) ?_
    refine go_q (d := 14) (op := .binOp .add 3 (.tmp 13) (.const (.int .i64 1)) 3) (ty := 3) (g := none) (by kernel_rfl) trivial rfl (qv_add rfl rfl (by first | exact IntWalk.i64_in _ (by omega) | exact IntWalk.i64_in _ (by dsimp only; omega) | rfl)) ?_
    refine go_s (d := none) (op := .store 3 (.tmp 5) (.tmp 14)) (ty := 0) (g := none) (by kernel_rfl) trivial ?_
    refine os_store1 rfl rfl sz3 rfl rfl (by repeat first | exact .here | apply Up.next | apply Up.app) (Nat.le_of_ble_eq_true rfl) (set_one _ _) ?_
    refine go_nil ?_
    change G _ _ _ _
    refine p_weaken [2, 3, 4, 5, 6, 13, 14] rfl ?_
    refine p_seq (by kernel_rfl) ?_
    refine p_draw (by kernel_rfl) mixed 21 21 _ (fun _ h => h) (by kernel_rfl) ?_
    refine gd_all (0 :: 1 :: 2 :: 3 :: 4 :: 5 :: 6 :: 7 :: 8 :: 9 :: 10 :: 11 :: 12 :: 13 :: 14 :: 15 :: 16 :: 17 :: 18 :: 19 :: 20 :: []) _ rfl (by kernel_rfl) (by decide) (fun _ h => h) rfl ?_
    refine sq_q (d := 15) (op := .load 83 (.tmp 2)) (ty := 83) (g := none) (by kernel_rfl) trivial (fun _ h => nomatch h) (qv_load rfl (by repeat first | exact .here | apply At.next | apply At.app) (ldv_sca sc83 (get_one _))) ?_
    refine sq_q (d := 16) (op := .nilCheck (.tmp 15)) (ty := 0) (g := none) (by kernel_rfl) trivial (fun _ h => nomatch h) (qv_nilCheck rfl) ?_
    refine sq_q (d := 17) (op := .fieldAddr 172 (.tmp 16) 0) (ty := 0) (g := none) (by kernel_rfl) trivial (fun _ h => nomatch h) (qv_field rfl fd172_0) ?_
    refine sq_q (d := 18) (op := .load 124 (.tmp 17)) (ty := 124) (g := none) (by kernel_rfl) trivial (fun _ h => nomatch h) (qv_load rfl (by repeat first | exact .here | apply At.next | apply At.app) (ldv_sca sc124 (get_Tab_0 _))) ?_
    refine sq_q (d := 19) (op := .move (.tmp 6)) (ty := 3) (g := none) (by kernel_rfl) trivial (fun _ h => nomatch h) (qv_move rfl) ?_
    refine sq_q (d := 20) (op := .indexAddr 124 (.tmp 18) (.tmp 19)) (ty := 0) (g := none) (by kernel_rfl) trivial (fun _ h => nomatch h) (qv_index un124 sz175 rfl rfl rfl hpl) ?_
    refine sq_q (d := 21) (op := .fieldAddr 175 (.tmp 20) 0) (ty := 0) (g := none) (by kernel_rfl) trivial (fun _ h => nomatch h) (qv_field rfl fd175_0) ?_
    refine sq_q (d := 22) (op := .load 4 (.tmp 21)) (ty := 4) (g := none) (by kernel_rfl) trivial (fun _ h => nomatch h) (qv_load rfl (by repeat first | exact .here | apply At.next | apply At.app) (ldv_el (slot_holds L) hs sc4 (get_Slot_0 s) rfl)) ?_
    refine sq_q (d := 23) (op := .unOp .not 4 (.tmp 22)) (ty := 4) (g := none) (by kernel_rfl) trivial (fun _ h => nomatch h) (qv_not rfl) ?_
    refine sq_q (d := 24) (op := .move (.tmp 23)) (ty := 4) (g := none) (by kernel_rfl) trivial (fun _ h => nomatch h) (qv_move rfl) ?_
    refine sq_case (d := 24) rfl (fun _ => rfl) (fun g24 => ?_) (fun g24 => ?_)
    · try first | replace g24 := t_nd g24 | replace g24 := f_nd g24 | replace g24 := t_nbb g24 | replace g24 := f_nbb g24 | replace g24 := t_not g24 | replace g24 := f_not g24 | replace g24 := t_eq g24 | replace g24 := f_eq g24 | replace g24 := t_ne g24 | replace g24 := f_ne g24 | replace g24 := t_bb g24 | replace g24 := f_bb g24 | replace g24 := of_decide_eq_true g24 | replace g24 := of_decide_eq_false g24
      refine sq_n (d := 25) (op := .load 83 (.tmp 2)) (ty := 83) (g := some (9, false)) (by kernel_rfl) ⟨24, _, by kernel_rfl, rfl, rfl⟩ ?_
      refine sq_n (d := 26) (op := .nilCheck (.tmp 25)) (ty := 0) (g := some (9, false)) (by kernel_rfl) ⟨24, _, by kernel_rfl, rfl, rfl⟩ ?_
      refine sq_n (d := 27) (op := .fieldAddr 172 (.tmp 26) 0) (ty := 0) (g := some (9, false)) (by kernel_rfl) ⟨24, _, by kernel_rfl, rfl, rfl⟩ ?_
      refine sq_n (d := 28) (op := .load 124 (.tmp 27)) (ty := 124) (g := some (9, false)) (by kernel_rfl) ⟨24, _, by kernel_rfl, rfl, rfl⟩ ?_
      refine sq_n (d := 29) (op := .move (.tmp 6)) (ty := 3) (g := some (9, false)) (by kernel_rfl) ⟨24, _, by kernel_rfl, rfl, rfl⟩ ?_
      refine sq_n (d := 30) (op := .indexAddr 124 (.tmp 28) (.tmp 29)) (ty := 0) (g := some (9, false)) (by kernel_rfl) ⟨24, _, by kernel_rfl, rfl, rfl⟩ ?_
      refine sq_n (d := 31) (op := .fieldAddr 175 (.tmp 30) 1) (ty := 0) (g := some (9, false)) (by kernel_rfl) ⟨24, _, by kernel_rfl, rfl, rfl⟩ ?_
      refine sq_n (d := 32) (op := .load 27 (.tmp 31)) (ty := 27) (g := some (9, false)) (by kernel_rfl) ⟨24, _, by kernel_rfl, rfl, rfl⟩ ?_
      refine sq_n (d := 33) (op := .load 27 (.tmp 3)) (ty := 27) (g := some (9, false)) (by kernel_rfl) ⟨24, _, by kernel_rfl, rfl, rfl⟩ ?_
      refine sq_n (d := 34) (op := .binOp .eql 27 (.tmp 32) (.tmp 33) 27) (ty := 4) (g := some (9, false)) (by kernel_rfl) ⟨24, _, by kernel_rfl, rfl, rfl⟩ ?_
      refine sq_q (d := 35) (op := .pick (.tmp 24) (.const (.bool true)) (.tmp 34)) (ty := 4) (g := none) (by kernel_rfl) trivial (fun _ h => nomatch h) (qv_pick_t rfl rfl) ?_
      refine SeqK.nil (fun β => ?_)
      refine gd_tail [] rfl (by kernel_rfl) (by kernel_rfl) ?_
      refine go_nil ?_
      change G _ _ _ _
      refine p_condT (.tmp 35) (by kernel_rfl) rfl ?_
      refine p_seq (by kernel_rfl) ?_
      refine p_draw (by kernel_rfl) mixed 4 4 [] (by simp) (by kernel_rfl) ?_
      refine gd_q (i := 0) (d := 36) (op := .move (.tmp 6)) (ty := 3) (g := none) (by kernel_rfl) trivial rfl (by kernel_rfl) (by kernel_rfl) (by kernel_rfl) (by kernel_rfl) (qv_move rfl) ?_
      refine gd_two (i := 1) (j := 2) (d := some 37) (op := .load 3 (.tmp 5)) (ty := 3) (g := none) (d' := none) (op' := .store 3 (.tmp 4) (.tmp 36)) (ty' := 0) (g' := none) (by kernel_rfl) (by kernel_rfl) trivial rfl (by kernel_rfl) trivial rfl ?_ ?_
      · refine os_of_qv (Nat.le_of_ble_eq_true rfl) (qv_load rfl (by repeat first | exact .here | apply At.next | apply At.app) (ldv_sca sc3 (get_one _))) ?_
        refine ⟨fun _ h => by first | exact h | (cases h; done) | exact .tail _ h | exact .tail _ (.tail _ h) | (simp only [List.mem_cons, List.not_mem_nil, or_false] at h ⊢; first | exact .inl h | exact .inr (.inl h) | exact .inr (.inr (.inl h)) | exact .inr (.inr (.inr (.inl h))) | grind), ?_⟩
        refine gd_one (i := 2) (d := none) (op := .store 3 (.tmp 4) (.tmp 36)) (ty := 0) (g := none) (by kernel_rfl) trivial rfl (by kernel_rfl) ?_
        refine os_store1 rfl rfl sz3 rfl rfl (by repeat first | exact .here | apply Up.next | apply Up.app) (Nat.le_of_ble_eq_true rfl) (set_one _ _) ?_
        refine ⟨fun _ h => by first | exact h | (cases h; done) | exact .tail _ h | exact .tail _ (.tail _ h) | (simp only [List.mem_cons, List.not_mem_nil, or_false] at h ⊢; first | exact .inl h | exact .inr (.inl h) | exact .inr (.inr (.inl h)) | exact .inr (.inr (.inr (.inl h))) | grind), ?_⟩
        refine gd_one (i := 3) (d := none) (op := .store 3 (.tmp 5) (.tmp 37)) (ty := 0) (g := none) (by kernel_rfl) trivial rfl (by kernel_rfl) ?_
        refine os_store1 rfl rfl sz3 rfl rfl (by repeat first | exact .here | apply Up.next | apply Up.app) (Nat.le_of_ble_eq_true rfl) (set_one _ _) ?_
        refine ⟨fun _ h => by first | exact h | (cases h; done) | exact .tail _ h | exact .tail _ (.tail _ h) | (simp only [List.mem_cons, List.not_mem_nil, or_false] at h ⊢; first | exact .inl h | exact .inr (.inl h) | exact .inr (.inr (.inl h)) | exact .inr (.inr (.inr (.inl h))) | grind), ?_⟩
        refine gd_tail [] rfl (by kernel_rfl) (by kernel_rfl) ?_
        refine go_nil ?_
        change G _ _ _ _
        refine p_ret (by kernel_rfl) ?_
        have hst : stop L k i = true := by rw [stop_of hs]; simp [*]
        rw [hst]
        exact ⟨_, [], by rw [List.append_nil]; exact List.Perm.refl _, rfl, rfl⟩
      · refine os_store1 rfl rfl sz3 rfl rfl (by repeat first | exact .here | apply Up.next | apply Up.app) (Nat.le_of_ble_eq_true rfl) (set_one _ _) ?_
        refine ⟨fun _ h => by first | exact h | (cases h; done) | exact .tail _ h | exact .tail _ (.tail _ h) | (simp only [List.mem_cons, List.not_mem_nil, or_false] at h ⊢; first | exact .inl h | exact .inr (.inl h) | exact .inr (.inr (.inl h)) | exact .inr (.inr (.inr (.inl h))) | grind), ?_⟩
        refine gd_one (i := 1) (d := some 37) (op := .load 3 (.tmp 5)) (ty := 3) (g := none) (by kernel_rfl) trivial rfl (by kernel_rfl) ?_
        refine os_of_qv (Nat.le_of_ble_eq_true rfl) (qv_load rfl (by repeat first | exact .here | apply At.next | apply At.app) (ldv_sca sc3 (get_one _))) ?_
        refine ⟨fun _ h => by first | exact h | (cases h; done) | exact .tail _ h | exact .tail _ (.tail _ h) | (simp only [List.mem_cons, List.not_mem_nil, or_false] at h ⊢; first | exact .inl h | exact .inr (.inl h) | exact .inr (.inr (.inl h)) | exact .inr (.inr (.inr (.inl h))) | grind), ?_⟩
        refine gd_one (i := 3) (d := none) (op := .store 3 (.tmp 5) (.tmp 37)) (ty := 0) (g := none) (by kernel_rfl) trivial rfl (by kernel_rfl) ?_
        refine os_store1 rfl rfl sz3 rfl rfl (by repeat first | exact .here | apply Up.next | apply Up.app) (Nat.le_of_ble_eq_true rfl) (set_one _ _) ?_
        refine ⟨fun _ h => by first | exact h | (cases h; done) | exact .tail _ h | exact .tail _ (.tail _ h) | (simp only [List.mem_cons, List.not_mem_nil, or_false] at h ⊢; first | exact .inl h | exact .inr (.inl h) | exact .inr (.inr (.inl h)) | exact .inr (.inr (.inr (.inl h))) | grind), ?_⟩
        refine gd_tail [] rfl (by kernel_rfl) (by kernel_rfl) ?_
        refine go_nil ?_
        change G _ _ _ _
        refine p_ret (by kernel_rfl) ?_
        have hst : stop L k i = true := by rw [stop_of hs]; simp [*]
        rw [hst]
        exact ⟨_, [], by rw [List.append_nil]; exact List.Perm.refl _, rfl, rfl⟩
    · try first | replace g24 := t_nd g24 | replace g24 := f_nd g24 | replace g24 := t_nbb g24 | replace g24 := f_nbb g24 | replace g24 := t_not g24 | replace g24 := f_not g24 | replace g24 := t_eq g24 | replace g24 := f_eq g24 | replace g24 := t_ne g24 | replace g24 := f_ne g24 | replace g24 := t_bb g24 | replace g24 := f_bb g24 | replace g24 := of_decide_eq_true g24 | replace g24 := of_decide_eq_false g24
      refine sq_q (d := 25) (op := .load 83 (.tmp 2)) (ty := 83) (g := some (9, false)) (by kernel_rfl) ⟨24, by kernel_rfl, rfl⟩ (fun _ h => nomatch h) (qv_load rfl (by repeat first | exact .here | apply At.next | apply At.app) (ldv_sca sc83 (get_one _))) ?_
      refine sq_q (d := 26) (op := .nilCheck (.tmp 25)) (ty := 0) (g := some (9, false)) (by kernel_rfl) ⟨24, by kernel_rfl, rfl⟩ (fun _ h => nomatch h) (qv_nilCheck rfl) ?_
      refine sq_q (d := 27) (op := .fieldAddr 172 (.tmp 26) 0) (ty := 0) (g := some (9, false)) (by kernel_rfl) ⟨24, by kernel_rfl, rfl⟩ (fun _ h => nomatch h) (qv_field rfl fd172_0) ?_
      refine sq_q (d := 28) (op := .load 124 (.tmp 27)) (ty := 124) (g := some (9, false)) (by kernel_rfl) ⟨24, by kernel_rfl, rfl⟩ (fun _ h => nomatch h) (qv_load rfl (by repeat first | exact .here | apply At.next | apply At.app) (ldv_sca sc124 (get_Tab_0 _))) ?_
      refine sq_q (d := 29) (op := .move (.tmp 6)) (ty := 3) (g := some (9, false)) (by kernel_rfl) ⟨24, by kernel_rfl, rfl⟩ (fun _ h => nomatch h) (qv_move rfl) ?_
      refine sq_q (d := 30) (op := .indexAddr 124 (.tmp 28) (.tmp 29)) (ty := 0) (g := some (9, false)) (by kernel_rfl) ⟨24, by kernel_rfl, rfl⟩ (fun _ h => nomatch h) (qv_index un124 sz175 rfl rfl rfl hpl) ?_
      refine sq_q (d := 31) (op := .fieldAddr 175 (.tmp 30) 1) (ty := 0) (g := some (9, false)) (by kernel_rfl) ⟨24, by kernel_rfl, rfl⟩ (fun _ h => nomatch h) (qv_field rfl fd175_1) ?_
      refine sq_q (d := 32) (op := .load 27 (.tmp 31)) (ty := 27) (g := some (9, false)) (by kernel_rfl) ⟨24, by kernel_rfl, rfl⟩ (fun _ h => nomatch h) (qv_load rfl (by repeat first | exact .here | apply At.next | apply At.app) (ldv_elp (slot_holds L) hs agg27 (ext_Slot_1_37 s) (by decide) (by decide) rfl)) ?_
      refine sq_q (d := 33) (op := .load 27 (.tmp 3)) (ty := 27) (g := some (9, false)) (by kernel_rfl) ⟨24, by kernel_rfl, rfl⟩ (fun _ h => nomatch h) (qv_load rfl (by repeat first | exact .here | apply At.next | apply At.app) (ldv_agg agg27 (extw_Key _) (Nat.le_of_ble_eq_true rfl))) ?_
      refine sq_q (d := 34) (op := .binOp .eql 27 (.tmp 32) (.tmp 33) 27) (ty := 4) (g := some (9, false)) (by kernel_rfl) ⟨24, by kernel_rfl, rfl⟩ (fun _ h => nomatch h) (qv_eql_27 rfl rfl rfl) ?_
      refine sq_q (d := 35) (op := .pick (.tmp 24) (.const (.bool true)) (.tmp 34)) (ty := 4) (g := none) (by kernel_rfl) trivial (fun _ h => nomatch h) (qv_pick_f rfl rfl) ?_
      refine SeqK.nil (fun β => ?_)
      refine gd_tail [] rfl (by kernel_rfl) (by kernel_rfl) ?_
      refine go_nil ?_
      change G _ _ _ _
      refine p_cond (.tmp 35) (by kernel_rfl) rfl (fun h35 => ?_) (fun h35 => ?_)
      · try first | replace h35 := t_nd h35 | replace h35 := f_nd h35 | replace h35 := t_nbb h35 | replace h35 := f_nbb h35 | replace h35 := t_not h35 | replace h35 := f_not h35 | replace h35 := t_eq h35 | replace h35 := f_eq h35 | replace h35 := t_ne h35 | replace h35 := f_ne h35 | replace h35 := t_bb h35 | replace h35 := f_bb h35 | replace h35 := of_decide_eq_true h35 | replace h35 := of_decide_eq_false h35
        refine p_seq (by kernel_rfl) ?_
        refine p_draw (by kernel_rfl) mixed 4 4 [] (by simp) (by kernel_rfl) ?_
        refine gd_q (i := 0) (d := 36) (op := .move (.tmp 6)) (ty := 3) (g := none) (by kernel_rfl) trivial rfl (by kernel_rfl) (by kernel_rfl) (by kernel_rfl) (by kernel_rfl) (qv_move rfl) ?_
        refine gd_two (i := 1) (j := 2) (d := some 37) (op := .load 3 (.tmp 5)) (ty := 3) (g := none) (d' := none) (op' := .store 3 (.tmp 4) (.tmp 36)) (ty' := 0) (g' := none) (by kernel_rfl) (by kernel_rfl) trivial rfl (by kernel_rfl) trivial rfl ?_ ?_
        · refine os_of_qv (Nat.le_of_ble_eq_true rfl) (qv_load rfl (by repeat first | exact .here | apply At.next | apply At.app) (ldv_sca sc3 (get_one _))) ?_
          refine ⟨fun _ h => by first | exact h | (cases h; done) | exact .tail _ h | exact .tail _ (.tail _ h) | (simp only [List.mem_cons, List.not_mem_nil, or_false] at h ⊢; first | exact .inl h | exact .inr (.inl h) | exact .inr (.inr (.inl h)) | exact .inr (.inr (.inr (.inl h))) | grind), ?_⟩
          refine gd_one (i := 2) (d := none) (op := .store 3 (.tmp 4) (.tmp 36)) (ty := 0) (g := none) (by kernel_rfl) trivial rfl (by kernel_rfl) ?_
          refine os_store1 rfl rfl sz3 rfl rfl (by repeat first | exact .here | apply Up.next | apply Up.app) (Nat.le_of_ble_eq_true rfl) (set_one _ _) ?_
          refine ⟨fun _ h => by first | exact h | (cases h; done) | exact .tail _ h | exact .tail _ (.tail _ h) | (simp only [List.mem_cons, List.not_mem_nil, or_false] at h ⊢; first | exact .inl h | exact .inr (.inl h) | exact .inr (.inr (.inl h)) | exact .inr (.inr (.inr (.inl h))) | grind), ?_⟩
          refine gd_one (i := 3) (d := none) (op := .store 3 (.tmp 5) (.tmp 37)) (ty := 0) (g := none) (by kernel_rfl) trivial rfl (by kernel_rfl) ?_
          refine os_store1 rfl rfl sz3 rfl rfl (by repeat first | exact .here | apply Up.next | apply Up.app) (Nat.le_of_ble_eq_true rfl) (set_one _ _) ?_
          refine ⟨fun _ h => by first | exact h | (cases h; done) | exact .tail _ h | exact .tail _ (.tail _ h) | (simp only [List.mem_cons, List.not_mem_nil, or_false] at h ⊢; first | exact .inl h | exact .inr (.inl h) | exact .inr (.inr (.inl h)) | exact .inr (.inr (.inr (.inl h))) | grind), ?_⟩
          refine gd_tail [] rfl (by kernel_rfl) (by kernel_rfl) ?_
          refine go_nil ?_
          change G _ _ _ _
          refine p_ret (by kernel_rfl) ?_
          have hst : stop L k i = true := by rw [stop_of hs]; simp [*]
          rw [hst]
          exact ⟨_, [], by rw [List.append_nil]; exact List.Perm.refl _, rfl, rfl⟩
        · refine os_store1 rfl rfl sz3 rfl rfl (by repeat first | exact .here | apply Up.next | apply Up.app) (Nat.le_of_ble_eq_true rfl) (set_one _ _) ?_
          refine ⟨fun _ h => by first | exact h | (cases h; done) | exact .tail _ h | exact .tail _ (.tail _ h) | (simp only [List.mem_cons, List.not_mem_nil, or_false] at h ⊢; first | exact .inl h | exact .inr (.inl h) | exact .inr (.inr (.inl h)) | exact .inr (.inr (.inr (.inl h))) | grind), ?_⟩
          refine gd_one (i := 1) (d := some 37) (op := .load 3 (.tmp 5)) (ty := 3) (g := none) (by kernel_rfl) trivial rfl (by kernel_rfl) ?_
          refine os_of_qv (Nat.le_of_ble_eq_true rfl) (qv_load rfl (by repeat first | exact .here | apply At.next | apply At.app) (ldv_sca sc3 (get_one _))) ?_
          refine ⟨fun _ h => by first | exact h | (cases h; done) | exact .tail _ h | exact .tail _ (.tail _ h) | (simp only [List.mem_cons, List.not_mem_nil, or_false] at h ⊢; first | exact .inl h | exact .inr (.inl h) | exact .inr (.inr (.inl h)) | exact .inr (.inr (.inr (.inl h))) | grind), ?_⟩
          refine gd_one (i := 3) (d := none) (op := .store 3 (.tmp 5) (.tmp 37)) (ty := 0) (g := none) (by kernel_rfl) trivial rfl (by kernel_rfl) ?_
          refine os_store1 rfl rfl sz3 rfl rfl (by repeat first | exact .here | apply Up.next | apply Up.app) (Nat.le_of_ble_eq_true rfl) (set_one _ _) ?_
          refine ⟨fun _ h => by first | exact h | (cases h; done) | exact .tail _ h | exact .tail _ (.tail _ h) | (simp only [List.mem_cons, List.not_mem_nil, or_false] at h ⊢; first | exact .inl h | exact .inr (.inl h) | exact .inr (.inr (.inl h)) | exact .inr (.inr (.inr (.inl h))) | grind), ?_⟩
          refine gd_tail [] rfl (by kernel_rfl) (by kernel_rfl) ?_
          refine go_nil ?_
          change G _ _ _ _
          refine p_ret (by kernel_rfl) ?_
          have hst : stop L k i = true := by rw [stop_of hs]; simp [*]
          rw [hst]
          exact ⟨_, [], by rw [List.append_nil]; exact List.Perm.refl _, rfl, rfl⟩
      · try first | replace h35 := t_nd h35 | replace h35 := f_nd h35 | replace h35 := t_nbb h35 | replace h35 := f_nbb h35 | replace h35 := t_not h35 | replace h35 := f_not h35 | replace h35 := t_eq h35 | replace h35 := f_eq h35 | replace h35 := t_ne h35 | replace h35 := f_ne h35 | replace h35 := t_bb h35 | replace h35 := f_bb h35 | replace h35 := of_decide_eq_true h35 | replace h35 := of_decide_eq_false h35
        refine p_skip (by kernel_rfl) ?_
        have hst : stop L k i = false := by rw [stop_of hs]; simp [*]
        rw [hst]
        exact ⟨_, [], by rw [List.append_nil]; exact List.Perm.refl _, rfl, rfl⟩
  refine (ct_from1 hk rfl h1 h2 (by rw [hps]; rfl) (fun i => [(b4, .cells #[.int .i64 0] 3 (0, 0)), (b5, .cells #[.int .i64 i] 3 (0, 0)), (b3, .cells k.c 27 (0, 0)), (b2, .cells #[.pointer (some ⟨bt, 0, none⟩)] 83 (0, 0))]) (fun i => [(b4, .cells #[.int .i64 (place L.length k i)] 3 (0, 0)), (b5, .cells #[.int .i64 (i + 1 : Nat)] 3 (0, 0)), (b3, .cells k.c 27 (0, 0)), (b2, .cells #[.pointer (some ⟨bt, 0, none⟩)] 83 (0, 0))]) (stop L k) hround).mono ?_
  rintro _ M' (⟨i, hi, hs0, hs1, rfl⟩ | ⟨hs0, rfl⟩)
  · refine ⟨_, _, _, rfl, by decide, ?_⟩
    dsimp only [aftQ]
    try dsimp only [thenQ, inBlockQ]
    try rw [if_pos rfl]
    refine ret_mark ([tabO bt bs L.length many, slotO bs L]) (.inr rfl) ⟨_, _, List.Perm.refl _, List.Perm.refl _, (.cons (res_cell rfl (At.mem (by repeat first | exact .here | apply At.next | apply At.app)) (ldv_sca sc3 (get_one _))) (.cons (res_cell rfl (At.mem (by repeat first | exact .here | apply At.next | apply At.app)) (ldv_sca sc3 (get_one _))) .nil))⟩ ?_
    exact ⟨by unfold findV; rw [findI_some hi hs0 hs1]; rfl, rfl⟩
  · refine ⟨_, _, _, rfl, by decide, ?_⟩
    dsimp only [aftQ]
    change G _ _ _ _
    refine p_weaken [4, 5] rfl ?_
    refine p_seq (by kernel_rfl) ?_
    refine p_draw (by kernel_rfl) mixed 3 3 [] (by simp) (by kernel_rfl) ?_
    refine gd_two (i := 0) (j := 1) (d := some 38) (op := .load 3 (.tmp 5)) (ty := 3) (g := none) (d' := none) (op' := .store 3 (.tmp 4) (.const (.int .i64 (-1)))) (ty' := 0) (g' := none) (by kernel_rfl) (by kernel_rfl) trivial rfl (by kernel_rfl) trivial rfl ?_ ?_
    · refine os_of_qv (Nat.le_of_ble_eq_true rfl) (qv_load rfl (by repeat first | exact .here | apply At.next | apply At.app) (ldv_sca sc3 (get_one _))) ?_
      refine ⟨fun _ h => by first | exact h | (cases h; done) | exact .tail _ h | exact .tail _ (.tail _ h) | (simp only [List.mem_cons, List.not_mem_nil, or_false] at h ⊢; first | exact .inl h | exact .inr (.inl h) | exact .inr (.inr (.inl h)) | exact .inr (.inr (.inr (.inl h))) | grind), ?_⟩
      refine gd_one (i := 1) (d := none) (op := .store 3 (.tmp 4) (.const (.int .i64 (-1)))) (ty := 0) (g := none) (by kernel_rfl) trivial rfl (by kernel_rfl) ?_
      refine os_store1 rfl rfl sz3 rfl rfl (by repeat first | exact .here | apply Up.next | apply Up.app) (Nat.le_of_ble_eq_true rfl) (set_one _ _) ?_
      refine ⟨fun _ h => by first | exact h | (cases h; done) | exact .tail _ h | exact .tail _ (.tail _ h) | (simp only [List.mem_cons, List.not_mem_nil, or_false] at h ⊢; first | exact .inl h | exact .inr (.inl h) | exact .inr (.inr (.inl h)) | exact .inr (.inr (.inr (.inl h))) | grind), ?_⟩
      refine gd_one (i := 2) (d := none) (op := .store 3 (.tmp 5) (.tmp 38)) (ty := 0) (g := none) (by kernel_rfl) trivial rfl (by kernel_rfl) ?_
      refine os_store1 rfl rfl sz3 rfl rfl (by repeat first | exact .here | apply Up.next | apply Up.app) (Nat.le_of_ble_eq_true rfl) (set_one _ _) ?_
      refine ⟨fun _ h => by first | exact h | (cases h; done) | exact .tail _ h | exact .tail _ (.tail _ h) | (simp only [List.mem_cons, List.not_mem_nil, or_false] at h ⊢; first | exact .inl h | exact .inr (.inl h) | exact .inr (.inr (.inl h)) | exact .inr (.inr (.inr (.inl h))) | grind), ?_⟩
      refine gd_tail [] rfl (by kernel_rfl) (by kernel_rfl) ?_
      refine go_nil ?_
      change G _ _ _ _
      refine p_weaken [4, 5] rfl ?_
      refine p_ret (by kernel_rfl) ?_
      try dsimp only [thenQ, inBlockQ]
      try rw [if_pos rfl]
      refine ret_mark ([tabO bt bs L.length many, slotO bs L]) (.inr rfl) ⟨_, _, List.Perm.refl _, List.Perm.refl _, (.cons (res_cell rfl (At.mem (by repeat first | exact .here | apply At.next | apply At.app)) (ldv_sca sc3 (get_one _))) (.cons (res_cell rfl (At.mem (by repeat first | exact .here | apply At.next | apply At.app)) (ldv_sca sc3 (get_one _))) .nil))⟩ ?_
      exact ⟨by unfold findV; rw [findI_none hs0]; rfl, rfl⟩
    · refine os_store1 rfl rfl sz3 rfl rfl (by repeat first | exact .here | apply Up.next | apply Up.app) (Nat.le_of_ble_eq_true rfl) (set_one _ _) ?_
      refine ⟨fun _ h => by first | exact h | (cases h; done) | exact .tail _ h | exact .tail _ (.tail _ h) | (simp only [List.mem_cons, List.not_mem_nil, or_false] at h ⊢; first | exact .inl h | exact .inr (.inl h) | exact .inr (.inr (.inl h)) | exact .inr (.inr (.inr (.inl h))) | grind), ?_⟩
      refine gd_one (i := 0) (d := some 38) (op := .load 3 (.tmp 5)) (ty := 3) (g := none) (by kernel_rfl) trivial rfl (by kernel_rfl) ?_
      refine os_of_qv (Nat.le_of_ble_eq_true rfl) (qv_load rfl (by repeat first | exact .here | apply At.next | apply At.app) (ldv_sca sc3 (get_one _))) ?_
      refine ⟨fun _ h => by first | exact h | (cases h; done) | exact .tail _ h | exact .tail _ (.tail _ h) | (simp only [List.mem_cons, List.not_mem_nil, or_false] at h ⊢; first | exact .inl h | exact .inr (.inl h) | exact .inr (.inr (.inl h)) | exact .inr (.inr (.inr (.inl h))) | grind), ?_⟩
      refine gd_one (i := 2) (d := none) (op := .store 3 (.tmp 5) (.tmp 38)) (ty := 0) (g := none) (by kernel_rfl) trivial rfl (by kernel_rfl) ?_
      refine os_store1 rfl rfl sz3 rfl rfl (by repeat first | exact .here | apply Up.next | apply Up.app) (Nat.le_of_ble_eq_true rfl) (set_one _ _) ?_
      refine ⟨fun _ h => by first | exact h | (cases h; done) | exact .tail _ h | exact .tail _ (.tail _ h) | (simp only [List.mem_cons, List.not_mem_nil, or_false] at h ⊢; first | exact .inl h | exact .inr (.inl h) | exact .inr (.inr (.inl h)) | exact .inr (.inr (.inr (.inl h))) | grind), ?_⟩
      refine gd_tail [] rfl (by kernel_rfl) (by kernel_rfl) ?_
      refine go_nil ?_
      change G _ _ _ _
      refine p_weaken [4, 5] rfl ?_
      refine p_ret (by kernel_rfl) ?_
      try dsimp only [thenQ, inBlockQ]
      try rw [if_pos rfl]
      refine ret_mark ([tabO bt bs L.length many, slotO bs L]) (.inr rfl) ⟨_, _, List.Perm.refl _, List.Perm.refl _, (.cons (res_cell rfl (At.mem (by repeat first | exact .here | apply At.next | apply At.app)) (ldv_sca sc3 (get_one _))) (.cons (res_cell rfl (At.mem (by repeat first | exact .here | apply At.next | apply At.app)) (ldv_sca sc3 (get_one _))) .nil))⟩ ?_
      exact ⟨by unfold findV; rw [findI_none hs0]; rfl, rfl⟩
end Go.Proofs.Ytobmcpoejhhemaa
