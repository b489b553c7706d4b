import Derived.Test.YtobmcpoejhhemaaGreatKBytes
import Derived.Test.YtobmcpoejhhemaaGreatKEngG
namespace Go.Proofs.YtobmcpoejhhemaaGreat
open Go.E

/-- The table at bt, its places at bs. -/
def tabO (bt bs n : Nat) (many : Int) : Nat × Obj := (bt, .cells (⟨.slice (some ⟨bs, 0, none⟩) n n, many⟩ : Tab).c 126 (0, 0))
def slotO (bs : Nat) (L : List Slot) : Nat × Obj := (bs, .cells (eSlot.flat L).toArray 146 (0, 0))
theorem slot_holds (L : List Slot) : Holds eSlot (eSlot.flat L).toArray 0 L := Holds.whole rfl

theorem ct_Size (bt bs n : Nat) (many : Int) : Ct Tryz.prog 129 [.pointer (some ⟨bt, 0, none⟩)].toArray [tabO bt bs n many] (fun v M' => v = .int .i64 n ∧ M' = [tabO bt bs n many]) := by
  unfold tabO
  refine ct_body (rv := [.tmp 2]) [(0, _)] Tryz.func129 (by kernel_rfl) Tryz.ntmps129 Tryz.results129 rfl rfl (fun w0 => ?_)
  refine p_seq0 ?_
  refine p_plain0 (0 :: []) ?_
  refine go_q0 2 (.assign (.const (.int .i64 0))) 3 (qv_assign rfl) ?_
  refine go_nil ?_
  change G _ _ _ _
  refine p_seq0 ?_
  refine p_seq0 ?_
  refine p_plain0 (0 :: 1 :: []) ?_
  refine go_q0 3 (.move (.tmp 0)) 78 (qv_move rfl) ?_
  refine go_q0 4 (.binOp .eql 78 (.tmp 3) (.const (.pointer none)) 78) 4 (qv_eqlP un78 rfl) ?_
  refine go_nil ?_
  change G _ _ _ _
  refine p_weaken [0, 2, 4] rfl ?_
  refine p_condF (.tmp 4) (by kernel_rfl) rfl ?_
  refine p_skip0 ?_
  change G _ _ _ _
  refine p_weaken [0, 2] rfl ?_
  refine p_seq0 ?_
  refine p_plain0 (0 :: 1 :: 2 :: 3 :: 4 :: 5 :: []) ?_
  refine go_q0 5 (.move (.tmp 0)) 78 (qv_move rfl) ?_
  refine go_q0 6 (.nilCheck (.tmp 5)) 0 (qv_nilCheck rfl) ?_
  refine go_q0 7 (.fieldAddr 126 (.tmp 6) 0) 0 (qv_field rfl fd126_0) ?_
  refine go_q0 8 (.load 124 (.tmp 7)) 124 (qv_load rfl .auto (ldv_sca sc124 (get_Tab_0 _))) ?_
  refine go_q0 9 (.call { callee := .builtin .len, args := #[.tmp 8], argTypes := #[124] }) 3 (qv_lenS un124 rfl) ?_
  refine go_q0 2 (.assign (.tmp 9)) 3 (qv_assign rfl) ?_
  refine go_nil ?_
  change G _ _ _ _
  refine p_weaken [2] rfl ?_
  refine p_ret0 ?_
  try dsimp only [thenQ, inBlockQ]
  try rw [if_pos rfl]
  refine ret_left ([tabO bt bs n many]) (.inr rfl) (.cons (res_tmp rfl) .nil) .auto ?_
  exact ⟨rfl, rfl⟩
theorem ct_from (bt : Nat) (k : Key) : Ct Tryz.prog 120 [.pointer (some ⟨bt, 0, none⟩), .agg k.c].toArray [] (fun v A => ∃ b2 b3, v = .func (.func 128) #[] #[.pointer (some ⟨b2, 0, none⟩), .pointer (some ⟨b3, 0, none⟩)] ∧
    A = [(b2, .cells #[.pointer (some ⟨bt, 0, none⟩)] 78 (0, 0)), (b3, .cells k.c 29 (0, 0))]) := by
  refine ct_body (rv := [.tmp 4]) [(0, _), (1, _)] Tryz.func120 (by kernel_rfl) Tryz.ntmps120 Tryz.results120 rfl rfl (fun w0 => ?_)
  refine p_seq0 ?_
  refine p_plain0 (0 :: 1 :: 2 :: []) ?_
  refine go_s0 (some 2) (.box 78 (.tmp 0)) 0 ?_
  refine os_box1 rfl rfl rfl (fun b2 => ?_)
  refine go_s0 (some 3) (.box 29 (.tmp 1)) 0 ?_
  refine os_boxA rfl rfl (fun b3 => ?_)
  refine go_q0 4 (.assign (.const .nilFunc)) 182 (qv_assign rfl) ?_
  refine go_nil ?_
  change G _ _ _ _
  refine p_weaken [2, 3, 4] rfl ?_
  refine p_seq0 ?_
  refine p_plain0 (0 :: 1 :: []) ?_
  refine go_q0 5 (.makeFunc (.func 128) #[] #[.tmp 2, .tmp 3]) 181 (qv_makeFunc rfl) ?_
  refine go_q0 4 (.assign (.tmp 5)) 182 (qv_assign rfl) ?_
  refine go_nil ?_
  change G _ _ _ _
  refine p_weaken [4] rfl ?_
  refine p_ret0 ?_
  try dsimp only [thenQ, inBlockQ]
  try rw [if_pos rfl]
  refine ret_leftP ([(b2, .cells #[.pointer (some ⟨bt, 0, none⟩)] 78 (0, 0)), (b3, .cells k.c 29 (0, 0))]) (.inr rfl) (.cons (res_tmp rfl) .nil) (⟨[], by simpa using List.Perm.swap _ _ _⟩) ?_
  exact ⟨b2, b3, rfl, rfl⟩

/-- The i-th place that is looked at. -/
def place (n : Nat) (k : Key) (i : Nat) : Nat := (IntKind.u64.wrap (hashK k + i) % n).toNat
theorem place_lt {n : Nat} (hn : 0 < n) (k : Key) (i : Nat) : place n k i < n := by
  unfold place
  have h1 := Int.emod_lt_of_pos (IntKind.u64.wrap (hashK k + i)) (show (0 : Int) < n by omega)
  have h2 := Int.emod_nonneg (IntKind.u64.wrap (hashK k + i)) (show (n : Int) ≠ 0 by omega)
  omega
theorem wrap64_nn (x : Int) : 0 ≤ IntKind.u64.wrap x := by
  have : IntKind.u64.wrap x = x % 18446744073709551616 := by simp [IntKind.wrap, IntKind.bits, IntKind.signed]
  rw [this]
  exact Int.emod_nonneg _ (by decide)
theorem rem_place {n : Nat} (hn : 0 < n) (k : Key) (i : Nat) : (IntKind.u64.wrap (hashK k + (i : Int))).tmod (n : Int) = (place n k i : Int) := by
  rw [Int.tmod_eq_emod_of_nonneg (wrap64_nn _)]
  unfold place
  have h2 := Int.emod_nonneg (IntKind.u64.wrap (hashK k + i)) (show (n : Int) ≠ 0 by omega)
  omega
/-- Is the search over at the i-th place? -/
def stop (L : List Slot) (k : Key) (i : Nat) : Bool := match L[place L.length k i]? with
  | some s => !s.used || decide (s.key = k)
  | none => false
theorem stop_of {L : List Slot} {k : Key} {i : Nat} {s : Slot} (h : L[place L.length k i]? = some s) : stop L k i = (!s.used || decide (s.key = k)) := by unfold stop; rw [h]

theorem ct_from1 {g : Rg} {bt bs b2 b3 n : Nat} {many : Int} {L : List Slot} {k : Key} (hk : k.Wf) (hn : L.length = n) (h1 : 1 ≤ n) (h2 : n ≤ 65536) (hps : g.ps.size = 1) (σ fin : Nat → Mem) (st : Nat → Bool)
    (hr : ∀ i, i < n → RCt Tryz.prog g [.int .i64 (place n k i)] (g.o .ready none :: (g.D, .deferred (some [])) :: tabO bt bs n many :: slotO bs L :: σ i)
      (fun u M' => u = .bool (!st i) ∧ M' = cond (st i) (g.o .done (some .ret) :: (g.D, .deferred (some [])) :: tabO bt bs n many :: slotO bs L :: fin i) (g.o .ready none :: (g.D, .deferred (some [])) :: tabO bt bs n many :: slotO bs L :: σ (i + 1)))) :
    Ct Tryz.prog 128 [.func (.yield g.l) #[] #[], .pointer (some ⟨b2, 0, none⟩), .pointer (some ⟨b3, 0, none⟩)].toArray
      (g.o .ready none :: (g.D, .deferred (some [])) :: tabO bt bs n many :: slotO bs L :: (σ 0 ++ [(b2, .cells #[.pointer (some ⟨bt, 0, none⟩)] 78 (0, 0)), (b3, .cells k.c 29 (0, 0))]))
      (fun _ M' => (∃ i, i < n ∧ (∀ j, j < i → st j = false) ∧ st i = true ∧ M' = g.o .done (some .ret) :: (g.D, .deferred (some [])) :: tabO bt bs n many :: slotO bs L :: (fin i ++ [(b2, .cells #[.pointer (some ⟨bt, 0, none⟩)] 78 (0, 0)), (b3, .cells k.c 29 (0, 0))])) ∨
        ((∀ j, j < n → st j = false) ∧ M' = g.o .ready none :: (g.D, .deferred (some [])) :: tabO bt bs n many :: slotO bs L :: (σ n ++ [(b2, .cells #[.pointer (some ⟨bt, 0, none⟩)] 78 (0, 0)), (b3, .cells k.c 29 (0, 0))]))) := by
  refine ct_body (rv := []) [(0, _), (1, _), (2, _)] Tryz.func128 (by kernel_rfl) Tryz.ntmps128 Tryz.results128 rfl rfl (fun w0 => ?_)
  refine p_seq0 ?_
  refine p_plain0 (0 :: 1 :: 2 :: 3 :: []) ?_
  refine go_q0 6 (.load 78 (.tmp 1)) 78 (qv_load rfl .auto (ldv_sca sc78 (get_one _))) ?_
  refine go_s0 (some 7) (.call { callee := .value (.func 129), args := #[.tmp 6], argTypes := #[78] }) 3 ?_
  refine os_pv rfl (pv_callR en129 rfl .auto (ct_Size bt bs n many)) ?_
  refine go_q0 8 (.convert 3 23 (.tmp 7)) 23 (qv_conv un3 un23 rfl (by first | exact IntWalk.u64_in _ (by omega) | rfl)) ?_
  refine go_q0 4 (.assign (.tmp 8)) 23 (qv_assign rfl) ?_
  refine go_nil ?_
  change G _ _ _ _
  refine p_weaken [0, 2, 4] rfl ?_
  refine p_seq0 ?_
  refine p_plain0 (0 :: 1 :: []) ?_
  refine go_q0 9 (.move (.tmp 4)) 23 (qv_move rfl) ?_
  refine go_q0 10 (.move (.const (.int .u64 0))) 23 (qv_move rfl) ?_
  refine go_nil ?_
  change G _ _ _ _
  refine p_block 0 (by kernel_rfl) ?_
  refine p_loopE (by kernel_rfl) (fun s m => ∃ (i : Nat), (i ≤ n) ∧ (∀ j, j < i → st j = false) ∧ Ge s ⟨[], [(0, .func (.yield g.l) #[] #[]), (2, .pointer (some ⟨b3, 0, none⟩)), (4, .int .u64 n), (9, .int .u64 n), (10, .int .u64 i)], g.o .ready none :: (g.D, .deferred (some [])) :: tabO bt bs n many :: slotO bs L :: (σ i ++ [(b2, .cells #[.pointer (some ⟨bt, 0, none⟩)] 78 (0, 0)), (b3, .cells k.c 29 (0, 0))])⟩ ∧ m = n - i) ?_ ?_
  · exact ⟨_, ⟨0, by omega, fun j hj => absurd hj (by omega), ⟨rfl, ⟨[0, 2, 4, 9, 10], rfl⟩, .auto⟩, rfl⟩⟩
  rintro s m ⟨i, hi, hs0, hs, rfl⟩
  refine ge_ok hs ?_
  refine p_seq0 ?_
  refine p_plain0 (0 :: []) ?_
  refine go_q0 11 (.binOp .lss 23 (.tmp 10) (.tmp 9) 23) 4 (qv_lss rfl rfl rfl) ?_
  refine go_nil ?_
  change G _ _ _ _
  refine p_seq0 ?_
  refine p_cond (.tmp 11) (by kernel_rfl) rfl (fun h11 => ?_) (fun h11 => ?_)
  rotate_left
  · replace h11 := kn h11
    refine p_exit 0 (by kernel_rfl) ?_
    try dsimp only [thenQ, inBlockQ]
    try rw [if_pos rfl]
    refine ret_left (g.o .ready none :: (g.D, .deferred (some [])) :: tabO bt bs n many :: slotO bs L :: (σ i ++ [(b2, .cells #[.pointer (some ⟨bt, 0, none⟩)] 78 (0, 0)), (b3, .cells k.c 29 (0, 0))])) (.inl rfl) .nil .auto ?_
    have hin : i = n := by omega
    subst hin
    exact .inr ⟨hs0, rfl⟩
  replace h11 := kn h11
  refine p_skip0 ?_
  change G _ _ _ _
  refine p_weaken [0, 2, 4, 9, 10] rfl ?_
  refine p_seq0 ?_
  refine p_block 1 (by kernel_rfl) ?_
  refine p_seq0 ?_
  refine p_plain0 (0 :: 1 :: []) ?_
  refine go_q0 12 (.move (.tmp 10)) 23 (qv_move rfl) ?_
  refine go_q0 5 (.assign (.tmp 12)) 23 (qv_assign rfl) ?_
  refine go_nil ?_
  change G _ _ _ _
  refine p_weaken [0, 2, 4, 5, 9, 10] rfl ?_
  refine p_seq0 ?_
  have hi' : i < n := by omega
  refine p_plain0 (0 :: 1 :: 2 :: 3 :: 4 :: 5 :: 6 :: 7 :: 8 :: 9 :: []) ?_
  refine go_q0 13 (.move (.tmp 0)) 191 (qv_move rfl) ?_
  refine go_q0 14 (.load 29 (.tmp 2)) 29 (qv_load rfl .auto (ldv_agg agg29 (extw_Key _) (Nat.le_of_ble_eq_true rfl))) ?_
  refine go_s0 (some 15) (.call { callee := .value (.func 130), args := #[.tmp 14], argTypes := #[29] }) 23 ?_
  refine os_callP rfl en130 rfl (pu_Hash k hk) ?_
  refine go_q0 16 (.move (.tmp 5)) 23 (qv_move rfl) ?_
  refine go_q0 17 (.binOp .add 23 (.tmp 15) (.tmp 16) 23) 23 (qv_add rfl rfl (by first | exact IntWalk.u64_in _ (by omega) | exact IntWalk.u64_in _ (by dsimp only; omega) | rfl)) ?_
  refine go_q0 18 (.move (.tmp 4)) 23 (qv_move rfl) ?_
  refine go_q0 19 (.binOp .rem 23 (.tmp 17) (.tmp 18) 23) 23 (qv_rem rfl rfl (by omega) (rem_place (by omega) k i)) ?_
  refine go_q0 20 (.convert 23 3 (.tmp 19)) 3 (qv_conv un23 un3 rfl (by have := place_lt (n := n) (by omega) k i; exact IntWalk.i64_in _ (by omega))) ?_
  refine go_s0 (some 21) (.call { callee := .value (.tmp 13), args := #[.tmp 20], argTypes := #[3] }) 4 ?_
  refine os_yield (g := g) (A := g.o .ready none :: (g.D, .deferred (some [])) :: tabO bt bs n many :: slotO bs L :: σ i) rfl rfl rfl hps.symm (by repeat first | exact Sel.nil | exact Sel.all | exact Sel.app | (apply Sel.cons; focus (repeat first | exact Tk.here | apply Tk.next | apply Tk.app)) | apply Sel.skip | apply Sel.skipA) (by simp) (hr i hi') (fun u A' hR => ?_)
  obtain ⟨rfl, rfl⟩ := hR
  refine go_q0 22 (.unOp .not 4 (.tmp 21)) 4 (qv_not rfl) ?_
  refine go_nil ?_
  change G _ _ _ _
  refine p_weaken [0, 2, 4, 9, 10, 22] rfl ?_
  refine p_cond (.tmp 22) (by kernel_rfl) rfl (fun h22 => ?_) (fun h22 => ?_)
  · replace h22 := kn h22
    replace h22 := f_not h22
    rw [h22]
    refine p_ret0 ?_
    try dsimp only [thenQ, inBlockQ]
    try rw [if_pos rfl]
    refine ret_left (g.o .done (some .ret) :: (g.D, .deferred (some [])) :: tabO bt bs n many :: slotO bs L :: (fin i ++ [(b2, .cells #[.pointer (some ⟨bt, 0, none⟩)] 78 (0, 0)), (b3, .cells k.c 29 (0, 0))])) (.inr rfl) .nil .auto ?_
    exact .inl ⟨i, hi', hs0, h22, rfl⟩
  replace h22 := kn h22
  replace h22 := t_not h22
  rw [h22]
  refine p_skip0 ?_
  change G _ _ _ _
  refine p_weaken [0, 2, 4, 9, 10] rfl ?_
  refine p_plain0 (0 :: 1 :: []) ?_
  refine go_q0 23 (.binOp .add 23 (.tmp 10) (.const (.int .u64 1)) 23) 23 (qv_add rfl rfl (by first | exact IntWalk.u64_in _ (by omega) | exact IntWalk.u64_in _ (by dsimp only; omega) | rfl)) ?_
  refine go_q0 10 (.move (.tmp 23)) 23 (qv_move rfl) ?_
  refine go_nil ?_
  exact ⟨_, ⟨i + 1, by omega, fun j hj => by by_cases e : j = i; exact e ▸ h22; exact hs0 j (by omega), ⟨rfl, ⟨[0, 2, 4, 9, 10], rfl⟩, .auto⟩, rfl⟩, by omega⟩

/-- What find answers. -/
def findI (L : List Slot) (k : Key) : Option Nat := (List.range L.length).find? (stop L k)
def findV (L : List Slot) (k : Key) : Value := match findI L k with
  | some i => .tuple #[.int .i64 (place L.length k i), .int .i64 ((i + 1 : Nat) : Int)]
  | none => .tuple #[.int .i64 (-1), .int .i64 L.length]
theorem findI_some {L : List Slot} {k : Key} {i : Nat} (hi : i < L.length) (h0 : ∀ j, j < i → stop L k j = false) (h1 : stop L k i = true) : findI L k = some i := by
  unfold findI
  rw [List.find?_range_eq_some]
  exact ⟨h1, by simpa using hi, fun j hj => by simp [h0 j hj]⟩
theorem findI_none {L : List Slot} {k : Key} (h0 : ∀ j, j < L.length → stop L k j = false) : findI L k = none := by
  unfold findI
  rw [List.find?_eq_none]
  intro x hx
  simp [h0 x (by simpa using hx)]
theorem ct_find {bt bs : Nat} {many : Int} {L : List Slot} {k : Key} (hk : k.Wf) (h1 : 1 ≤ L.length) (h2 : L.length ≤ 65536) :
    Ct Tryz.prog 105 [.pointer (some ⟨bt, 0, none⟩), .agg k.c].toArray [tabO bt bs L.length many, slotO bs L] (fun v M' => v = findV L k ∧ M' = [tabO bt bs L.length many, slotO bs L]) := by
  refine ct_body (rv := [.cell 4 3, .cell 5 3]) [(0, _), (1, _)] Tryz.func105 (by kernel_rfl) Tryz.ntmps105 Tryz.results105 rfl rfl (fun w0 => ?_)
  refine p_seq0 ?_
  refine p_plain0 (0 :: 1 :: 2 :: 3 :: []) ?_
  refine go_s0 (some 2) (.box 78 (.tmp 0)) 0 ?_
  refine os_box1 rfl rfl rfl (fun b2 => ?_)
  refine go_s0 (some 3) (.box 29 (.tmp 1)) 0 ?_
  refine os_boxA rfl rfl (fun b3 => ?_)
  refine go_s0 (some 4) (.alloc 3) 0 ?_
  refine os_alloc1 rfl ze3 rfl (fun b4 => ?_)
  refine go_s0 (some 5) (.alloc 3) 0 ?_
  refine os_alloc1 rfl ze3 rfl (fun b5 => ?_)
  refine go_nil ?_
  change G _ _ _ _
  refine p_weaken [2, 3, 4, 5] rfl ?_
  refine p_seq0 ?_
  refine p_seq0 ?_
  refine p_plain0 (0 :: 1 :: []) ?_
  refine go_q0 7 (.load 78 (.tmp 2)) 78 (qv_load rfl .auto (ldv_sca sc78 (get_one _))) ?_
  refine go_q0 8 (.binOp .eql 78 (.tmp 7) (.const (.pointer none)) 78) 4 (qv_eqlP un78 rfl) ?_
  refine go_nil ?_
  change G _ _ _ _
  refine p_weaken [2, 3, 4, 5, 8] rfl ?_
  refine p_condF (.tmp 8) (by kernel_rfl) rfl ?_
  refine p_skip0 ?_
  change G _ _ _ _
  refine p_weaken [2, 3, 4, 5] rfl ?_
  refine p_seq0 ?_
  refine p_seq0 ?_
  refine p_plain0 (0 :: 1 :: 2 :: []) ?_
  refine go_q0 9 (.load 78 (.tmp 2)) 78 (qv_load rfl .auto (ldv_sca sc78 (get_one _))) ?_
  refine go_q0 10 (.load 29 (.tmp 3)) 29 (qv_load rfl .auto (ldv_agg agg29 (extw_Key _) (Nat.le_of_ble_eq_true rfl))) ?_
  refine go_s0 (some 11) (.call { callee := .value (.func 120), args := #[.tmp 9, .tmp 10], argTypes := #[78, 29] }) 182 ?_
  refine os_call (Nat.le_of_ble_eq_true rfl) en120 rfl .auto (ct_from bt k) ?_
  rintro v11 A11 ⟨c2, c3, rfl, rfl⟩
  try dsimp only [List.nil_append, List.cons_append]
  try dsimp only [List.nil_append, List.cons_append]
  refine go_nil ?_
  change G _ _ _ _
  refine p_weaken [2, 3, 4, 5, 11] rfl ?_
  refine p_block 0 (by kernel_rfl) ?_
  refine p_range (gop := .tmp 11) (ps := #[12]) (A := (tabO bt bs L.length many :: slotO bs L :: ([(b4, .cells #[.int .i64 0] 3 (0, 0)), (b5, .cells #[.int .i64 (0 : Nat)] 3 (0, 0)), (b3, .cells k.c 29 (0, 0)), (b2, .cells #[.pointer (some ⟨bt, 0, none⟩)] 78 (0, 0))] ++ [(c2, .cells #[.pointer (some ⟨bt, 0, none⟩)] 78 (0, 0)), (c3, .cells k.c 29 (0, 0))]))) (by kernel_rfl) rfl rfl en128 .auto (fun g hps hga hgb hsz hfr => ?_)
  have hfr := hfr.pickT [2, 3, 4, 5] rfl
  have hround : ∀ i, i < L.length → RCt Tryz.prog g [.int .i64 (place L.length k i)] (g.o .ready none :: (g.D, .deferred (some [])) :: tabO bt bs L.length many :: slotO bs L :: [(b4, .cells #[.int .i64 0] 3 (0, 0)), (b5, .cells #[.int .i64 i] 3 (0, 0)), (b3, .cells k.c 29 (0, 0)), (b2, .cells #[.pointer (some ⟨bt, 0, none⟩)] 78 (0, 0))]) (fun u M' => u = .bool (!stop L k i) ∧ M' = cond (stop L k i) (g.o .done (some .ret) :: (g.D, .deferred (some [])) :: tabO bt bs L.length many :: slotO bs L :: [(b4, .cells #[.int .i64 (place L.length k i)] 3 (0, 0)), (b5, .cells #[.int .i64 (i + 1 : Nat)] 3 (0, 0)), (b3, .cells k.c 29 (0, 0)), (b2, .cells #[.pointer (some ⟨bt, 0, none⟩)] 78 (0, 0))]) (g.o .ready none :: (g.D, .deferred (some [])) :: tabO bt bs L.length many :: slotO bs L :: [(b4, .cells #[.int .i64 0] 3 (0, 0)), (b5, .cells #[.int .i64 (i + 1 : Nat)] 3 (0, 0)), (b3, .cells k.c 29 (0, 0)), (b2, .cells #[.pointer (some ⟨bt, 0, none⟩)] 78 (0, 0))])) := by
    intro i hi
    have hpl := place_lt (n := L.length) (by omega) k i
    obtain ⟨s, hs⟩ : ∃ s, L[place L.length k i]? = some s := ⟨_, List.getElem?_eq_getElem hpl⟩
    refine rct_of hps hsz rfl hfr (fun w0 => ?_)
    rw [hga, hgb]
    refine p_plain0 (0 :: []) ?_
    refine go_q0 6 (.assign (.tmp 12)) 3 (qv_assign rfl) ?_
    refine go_nil ?_
    refine ⟨rfl, _, List.Perm.refl _, ?_⟩
    refine p_block 1 (by kernel_rfl) ?_
    refine p_seq0 ?_
    refine p_plain0 (0 :: 1 :: 2 :: []) ?_
    refine go_q0 13 (.load 3 (.tmp 5)) 3 (qv_load rfl .auto (ldv_sca sc3 (get_one _))) ?_
    refine go_q0 14 (.binOp .add 3 (.tmp 13) (.const (.int .i64 1)) 3) 3 (qv_add rfl rfl (by first | exact IntWalk.i64_in _ (by omega) | exact IntWalk.i64_in _ (by dsimp only; omega) | rfl)) ?_
    refine go_s0 none (.store 3 (.tmp 5) (.tmp 14)) 0 ?_
    refine os_store1 rfl rfl sz3 rfl rfl .auto (Nat.le_of_ble_eq_true rfl) (set_one _ _) ?_
    refine go_nil ?_
    change G _ _ _ _
    refine p_weaken [2, 3, 4, 5, 6, 13, 14] rfl ?_
    refine p_seq0 ?_
    refine p_draw (by kernel_rfl) mixed 21 21 _ (fun _ h => h) (by kernel_rfl) ?_
    refine gd_all (0 :: 1 :: 2 :: 3 :: 4 :: 5 :: 6 :: 7 :: 8 :: 9 :: 10 :: 11 :: 12 :: 13 :: 14 :: 15 :: 16 :: 17 :: 18 :: 19 :: 20 :: []) _ rfl (by kernel_rfl) (by decide) (fun _ h => h) rfl ?_
    refine sq_q0 15 (.load 78 (.tmp 2)) 78 (qv_load rfl .auto (ldv_sca sc78 (get_one _))) ?_
    refine sq_q0 16 (.nilCheck (.tmp 15)) 0 (qv_nilCheck rfl) ?_
    refine sq_q0 17 (.fieldAddr 126 (.tmp 16) 0) 0 (qv_field rfl fd126_0) ?_
    refine sq_q0 18 (.load 124 (.tmp 17)) 124 (qv_load rfl .auto (ldv_sca sc124 (get_Tab_0 _))) ?_
    refine sq_q0 19 (.move (.tmp 6)) 3 (qv_move rfl) ?_
    refine sq_q0 20 (.indexAddr 124 (.tmp 18) (.tmp 19)) 0 (qv_index un124 sz146 rfl rfl rfl hpl) ?_
    refine sq_q0 21 (.fieldAddr 146 (.tmp 20) 0) 0 (qv_field rfl fd146_0) ?_
    refine sq_q0 22 (.load 4 (.tmp 21)) 4 (qv_load rfl .auto (ldv_el (slot_holds L) hs sc4 (get_Slot_0 s) rfl)) ?_
    refine sq_q0 23 (.unOp .not 4 (.tmp 22)) 4 (qv_not rfl) ?_
    refine sq_q0 24 (.move (.tmp 23)) 4 (qv_move rfl) ?_
    refine sq_case (d := 24) rfl (fun _ => rfl) (fun g24 => ?_) (fun g24 => ?_)
    · replace g24 := kn g24
      refine sq_n (d := 25) (op := .load 78 (.tmp 2)) (ty := 78) (g := some (9, false)) (by kernel_rfl) ⟨24, _, by kernel_rfl, rfl, rfl⟩ ?_
      refine sq_n (d := 26) (op := .nilCheck (.tmp 25)) (ty := 0) (g := some (9, false)) (by kernel_rfl) ⟨24, _, by kernel_rfl, rfl, rfl⟩ ?_
      refine sq_n (d := 27) (op := .fieldAddr 126 (.tmp 26) 0) (ty := 0) (g := some (9, false)) (by kernel_rfl) ⟨24, _, by kernel_rfl, rfl, rfl⟩ ?_
      refine sq_n (d := 28) (op := .load 124 (.tmp 27)) (ty := 124) (g := some (9, false)) (by kernel_rfl) ⟨24, _, by kernel_rfl, rfl, rfl⟩ ?_
      refine sq_n (d := 29) (op := .move (.tmp 6)) (ty := 3) (g := some (9, false)) (by kernel_rfl) ⟨24, _, by kernel_rfl, rfl, rfl⟩ ?_
      refine sq_n (d := 30) (op := .indexAddr 124 (.tmp 28) (.tmp 29)) (ty := 0) (g := some (9, false)) (by kernel_rfl) ⟨24, _, by kernel_rfl, rfl, rfl⟩ ?_
      refine sq_n (d := 31) (op := .fieldAddr 146 (.tmp 30) 1) (ty := 0) (g := some (9, false)) (by kernel_rfl) ⟨24, _, by kernel_rfl, rfl, rfl⟩ ?_
      refine sq_n (d := 32) (op := .load 29 (.tmp 31)) (ty := 29) (g := some (9, false)) (by kernel_rfl) ⟨24, _, by kernel_rfl, rfl, rfl⟩ ?_
      refine sq_n (d := 33) (op := .load 29 (.tmp 3)) (ty := 29) (g := some (9, false)) (by kernel_rfl) ⟨24, _, by kernel_rfl, rfl, rfl⟩ ?_
      refine sq_n (d := 34) (op := .binOp .eql 29 (.tmp 32) (.tmp 33) 29) (ty := 4) (g := some (9, false)) (by kernel_rfl) ⟨24, _, by kernel_rfl, rfl, rfl⟩ ?_
      refine sq_q0 35 (.pick (.tmp 24) (.const (.bool true)) (.tmp 34)) 4 (qv_pick_t rfl rfl) ?_
      refine SeqK.nil (fun β => ?_)
      refine gd_tail [] rfl (by kernel_rfl) (by kernel_rfl) ?_
      refine go_nil ?_
      change G _ _ _ _
      refine p_condT (.tmp 35) (by kernel_rfl) rfl ?_
      refine p_seq0 ?_
      refine p_draw (by kernel_rfl) mixed 4 4 [] (by first | (simp; done) | (intro q hq; simp [hq]; done)) (by kernel_rfl) ?_
      refine gd_q (i := 0) (d := 36) (op := .move (.tmp 6)) (ty := 3) (g := none) (by kernel_rfl) trivial rfl (by kernel_rfl) (by kernel_rfl) (by kernel_rfl) (by kernel_rfl) (qv_move rfl) ?_
      refine gd_two (i := 1) (j := 2) (d := some 37) (op := .load 3 (.tmp 5)) (ty := 3) (g := none) (d' := none) (op' := .store 3 (.tmp 4) (.tmp 36)) (ty' := 0) (g' := none) (by kernel_rfl) (by kernel_rfl) trivial rfl (by kernel_rfl) trivial rfl ?_ ?_
      · refine os_of_qv (Nat.le_of_ble_eq_true rfl) (qv_load rfl .auto (ldv_sca sc3 (get_one _))) ?_
        refine ⟨fun _ h => by first | exact h | (cases h; done) | exact .tail _ h | exact .tail _ (.tail _ h) | exact List.mem_append_right _ (List.mem_append_right _ h) | exact List.mem_append_right _ h | (simp only [List.mem_cons, List.not_mem_nil, or_false] at h ⊢; first | exact .inl h | exact .inr (.inl h) | exact .inr (.inr (.inl h)) | exact .inr (.inr (.inr (.inl h))) | (subst h; simp; done) | grind), ?_⟩
        refine gd_one (i := 2) (d := none) (op := .store 3 (.tmp 4) (.tmp 36)) (ty := 0) (g := none) (by kernel_rfl) trivial rfl (by kernel_rfl) ?_
        refine os_store1 rfl rfl sz3 rfl rfl .auto (Nat.le_of_ble_eq_true rfl) (set_one _ _) ?_
        refine ⟨fun _ h => by first | exact h | (cases h; done) | exact .tail _ h | exact .tail _ (.tail _ h) | exact List.mem_append_right _ (List.mem_append_right _ h) | exact List.mem_append_right _ h | (simp only [List.mem_cons, List.not_mem_nil, or_false] at h ⊢; first | exact .inl h | exact .inr (.inl h) | exact .inr (.inr (.inl h)) | exact .inr (.inr (.inr (.inl h))) | (subst h; simp; done) | grind), ?_⟩
        refine gd_one (i := 3) (d := none) (op := .store 3 (.tmp 5) (.tmp 37)) (ty := 0) (g := none) (by kernel_rfl) trivial rfl (by kernel_rfl) ?_
        refine os_store1 rfl rfl sz3 rfl rfl .auto (Nat.le_of_ble_eq_true rfl) (set_one _ _) ?_
        refine ⟨fun _ h => by first | exact h | (cases h; done) | exact .tail _ h | exact .tail _ (.tail _ h) | exact List.mem_append_right _ (List.mem_append_right _ h) | exact List.mem_append_right _ h | (simp only [List.mem_cons, List.not_mem_nil, or_false] at h ⊢; first | exact .inl h | exact .inr (.inl h) | exact .inr (.inr (.inl h)) | exact .inr (.inr (.inr (.inl h))) | (subst h; simp; done) | grind), ?_⟩
        refine gd_tail [] rfl (by kernel_rfl) (by kernel_rfl) ?_
        refine go_nil ?_
        change G _ _ _ _
        refine p_ret0 ?_
        have hst : stop L k i = true := by rw [stop_of hs]; simp [*]
        rw [hst]
        exact ⟨_, [], by rw [List.append_nil]; exact List.Perm.refl _, rfl, rfl⟩
      refine os_store1 rfl rfl sz3 rfl rfl .auto (Nat.le_of_ble_eq_true rfl) (set_one _ _) ?_
      refine ⟨fun _ h => by first | exact h | (cases h; done) | exact .tail _ h | exact .tail _ (.tail _ h) | exact List.mem_append_right _ (List.mem_append_right _ h) | exact List.mem_append_right _ h | (simp only [List.mem_cons, List.not_mem_nil, or_false] at h ⊢; first | exact .inl h | exact .inr (.inl h) | exact .inr (.inr (.inl h)) | exact .inr (.inr (.inr (.inl h))) | (subst h; simp; done) | grind), ?_⟩
      refine gd_one (i := 1) (d := some 37) (op := .load 3 (.tmp 5)) (ty := 3) (g := none) (by kernel_rfl) trivial rfl (by kernel_rfl) ?_
      refine os_of_qv (Nat.le_of_ble_eq_true rfl) (qv_load rfl .auto (ldv_sca sc3 (get_one _))) ?_
      refine ⟨fun _ h => by first | exact h | (cases h; done) | exact .tail _ h | exact .tail _ (.tail _ h) | exact List.mem_append_right _ (List.mem_append_right _ h) | exact List.mem_append_right _ h | (simp only [List.mem_cons, List.not_mem_nil, or_false] at h ⊢; first | exact .inl h | exact .inr (.inl h) | exact .inr (.inr (.inl h)) | exact .inr (.inr (.inr (.inl h))) | (subst h; simp; done) | grind), ?_⟩
      refine gd_one (i := 3) (d := none) (op := .store 3 (.tmp 5) (.tmp 37)) (ty := 0) (g := none) (by kernel_rfl) trivial rfl (by kernel_rfl) ?_
      refine os_store1 rfl rfl sz3 rfl rfl .auto (Nat.le_of_ble_eq_true rfl) (set_one _ _) ?_
      refine ⟨fun _ h => by first | exact h | (cases h; done) | exact .tail _ h | exact .tail _ (.tail _ h) | exact List.mem_append_right _ (List.mem_append_right _ h) | exact List.mem_append_right _ h | (simp only [List.mem_cons, List.not_mem_nil, or_false] at h ⊢; first | exact .inl h | exact .inr (.inl h) | exact .inr (.inr (.inl h)) | exact .inr (.inr (.inr (.inl h))) | (subst h; simp; done) | grind), ?_⟩
      refine gd_tail [] rfl (by kernel_rfl) (by kernel_rfl) ?_
      refine go_nil ?_
      change G _ _ _ _
      refine p_ret0 ?_
      have hst : stop L k i = true := by rw [stop_of hs]; simp [*]
      rw [hst]
      exact ⟨_, [], by rw [List.append_nil]; exact List.Perm.refl _, rfl, rfl⟩
    replace g24 := kn g24
    refine sq_q (d := 25) (op := .load 78 (.tmp 2)) (ty := 78) (g := some (9, false)) (by kernel_rfl) ⟨24, by kernel_rfl, rfl⟩ (fun _ h => nomatch h) (qv_load rfl .auto (ldv_sca sc78 (get_one _))) ?_
    refine sq_q (d := 26) (op := .nilCheck (.tmp 25)) (ty := 0) (g := some (9, false)) (by kernel_rfl) ⟨24, by kernel_rfl, rfl⟩ (fun _ h => nomatch h) (qv_nilCheck rfl) ?_
    refine sq_q (d := 27) (op := .fieldAddr 126 (.tmp 26) 0) (ty := 0) (g := some (9, false)) (by kernel_rfl) ⟨24, by kernel_rfl, rfl⟩ (fun _ h => nomatch h) (qv_field rfl fd126_0) ?_
    refine sq_q (d := 28) (op := .load 124 (.tmp 27)) (ty := 124) (g := some (9, false)) (by kernel_rfl) ⟨24, by kernel_rfl, rfl⟩ (fun _ h => nomatch h) (qv_load rfl .auto (ldv_sca sc124 (get_Tab_0 _))) ?_
    refine sq_q (d := 29) (op := .move (.tmp 6)) (ty := 3) (g := some (9, false)) (by kernel_rfl) ⟨24, by kernel_rfl, rfl⟩ (fun _ h => nomatch h) (qv_move rfl) ?_
    refine sq_q (d := 30) (op := .indexAddr 124 (.tmp 28) (.tmp 29)) (ty := 0) (g := some (9, false)) (by kernel_rfl) ⟨24, by kernel_rfl, rfl⟩ (fun _ h => nomatch h) (qv_index un124 sz146 rfl rfl rfl hpl) ?_
    refine sq_q (d := 31) (op := .fieldAddr 146 (.tmp 30) 1) (ty := 0) (g := some (9, false)) (by kernel_rfl) ⟨24, by kernel_rfl, rfl⟩ (fun _ h => nomatch h) (qv_field rfl fd146_1) ?_
    refine sq_q (d := 32) (op := .load 29 (.tmp 31)) (ty := 29) (g := some (9, false)) (by kernel_rfl) ⟨24, by kernel_rfl, rfl⟩ (fun _ h => nomatch h) (qv_load rfl .auto (ldv_elp (slot_holds L) hs agg29 (ext_Slot_1_37 s) (by decide) (by decide) rfl)) ?_
    refine sq_q (d := 33) (op := .load 29 (.tmp 3)) (ty := 29) (g := some (9, false)) (by kernel_rfl) ⟨24, by kernel_rfl, rfl⟩ (fun _ h => nomatch h) (qv_load rfl .auto (ldv_agg agg29 (extw_Key _) (Nat.le_of_ble_eq_true rfl))) ?_
    refine sq_q (d := 34) (op := .binOp .eql 29 (.tmp 32) (.tmp 33) 29) (ty := 4) (g := some (9, false)) (by kernel_rfl) ⟨24, by kernel_rfl, rfl⟩ (fun _ h => nomatch h) (qv_eql_29 rfl rfl rfl) ?_
    refine sq_q0 35 (.pick (.tmp 24) (.const (.bool true)) (.tmp 34)) 4 (qv_pick_f rfl rfl) ?_
    refine SeqK.nil (fun β => ?_)
    refine gd_tail [] rfl (by kernel_rfl) (by kernel_rfl) ?_
    refine go_nil ?_
    change G _ _ _ _
    refine p_cond (.tmp 35) (by kernel_rfl) rfl (fun h35 => ?_) (fun h35 => ?_)
    rotate_left
    · replace h35 := kn h35
      refine p_skip0 ?_
      have hst : stop L k i = false := by rw [stop_of hs]; simp [*]
      rw [hst]
      exact ⟨_, [], by rw [List.append_nil]; exact List.Perm.refl _, rfl, rfl⟩
    replace h35 := kn h35
    refine p_seq0 ?_
    refine p_draw (by kernel_rfl) mixed 4 4 [] (by first | (simp; done) | (intro q hq; simp [hq]; done)) (by kernel_rfl) ?_
    refine gd_q (i := 0) (d := 36) (op := .move (.tmp 6)) (ty := 3) (g := none) (by kernel_rfl) trivial rfl (by kernel_rfl) (by kernel_rfl) (by kernel_rfl) (by kernel_rfl) (qv_move rfl) ?_
    refine gd_two (i := 1) (j := 2) (d := some 37) (op := .load 3 (.tmp 5)) (ty := 3) (g := none) (d' := none) (op' := .store 3 (.tmp 4) (.tmp 36)) (ty' := 0) (g' := none) (by kernel_rfl) (by kernel_rfl) trivial rfl (by kernel_rfl) trivial rfl ?_ ?_
    · refine os_of_qv (Nat.le_of_ble_eq_true rfl) (qv_load rfl .auto (ldv_sca sc3 (get_one _))) ?_
      refine ⟨fun _ h => by first | exact h | (cases h; done) | exact .tail _ h | exact .tail _ (.tail _ h) | exact List.mem_append_right _ (List.mem_append_right _ h) | exact List.mem_append_right _ h | (simp only [List.mem_cons, List.not_mem_nil, or_false] at h ⊢; first | exact .inl h | exact .inr (.inl h) | exact .inr (.inr (.inl h)) | exact .inr (.inr (.inr (.inl h))) | (subst h; simp; done) | grind), ?_⟩
      refine gd_one (i := 2) (d := none) (op := .store 3 (.tmp 4) (.tmp 36)) (ty := 0) (g := none) (by kernel_rfl) trivial rfl (by kernel_rfl) ?_
      refine os_store1 rfl rfl sz3 rfl rfl .auto (Nat.le_of_ble_eq_true rfl) (set_one _ _) ?_
      refine ⟨fun _ h => by first | exact h | (cases h; done) | exact .tail _ h | exact .tail _ (.tail _ h) | exact List.mem_append_right _ (List.mem_append_right _ h) | exact List.mem_append_right _ h | (simp only [List.mem_cons, List.not_mem_nil, or_false] at h ⊢; first | exact .inl h | exact .inr (.inl h) | exact .inr (.inr (.inl h)) | exact .inr (.inr (.inr (.inl h))) | (subst h; simp; done) | grind), ?_⟩
      refine gd_one (i := 3) (d := none) (op := .store 3 (.tmp 5) (.tmp 37)) (ty := 0) (g := none) (by kernel_rfl) trivial rfl (by kernel_rfl) ?_
      refine os_store1 rfl rfl sz3 rfl rfl .auto (Nat.le_of_ble_eq_true rfl) (set_one _ _) ?_
      refine ⟨fun _ h => by first | exact h | (cases h; done) | exact .tail _ h | exact .tail _ (.tail _ h) | exact List.mem_append_right _ (List.mem_append_right _ h) | exact List.mem_append_right _ h | (simp only [List.mem_cons, List.not_mem_nil, or_false] at h ⊢; first | exact .inl h | exact .inr (.inl h) | exact .inr (.inr (.inl h)) | exact .inr (.inr (.inr (.inl h))) | (subst h; simp; done) | grind), ?_⟩
      refine gd_tail [] rfl (by kernel_rfl) (by kernel_rfl) ?_
      refine go_nil ?_
      change G _ _ _ _
      refine p_ret0 ?_
      have hst : stop L k i = true := by rw [stop_of hs]; simp [*]
      rw [hst]
      exact ⟨_, [], by rw [List.append_nil]; exact List.Perm.refl _, rfl, rfl⟩
    refine os_store1 rfl rfl sz3 rfl rfl .auto (Nat.le_of_ble_eq_true rfl) (set_one _ _) ?_
    refine ⟨fun _ h => by first | exact h | (cases h; done) | exact .tail _ h | exact .tail _ (.tail _ h) | exact List.mem_append_right _ (List.mem_append_right _ h) | exact List.mem_append_right _ h | (simp only [List.mem_cons, List.not_mem_nil, or_false] at h ⊢; first | exact .inl h | exact .inr (.inl h) | exact .inr (.inr (.inl h)) | exact .inr (.inr (.inr (.inl h))) | (subst h; simp; done) | grind), ?_⟩
    refine gd_one (i := 1) (d := some 37) (op := .load 3 (.tmp 5)) (ty := 3) (g := none) (by kernel_rfl) trivial rfl (by kernel_rfl) ?_
    refine os_of_qv (Nat.le_of_ble_eq_true rfl) (qv_load rfl .auto (ldv_sca sc3 (get_one _))) ?_
    refine ⟨fun _ h => by first | exact h | (cases h; done) | exact .tail _ h | exact .tail _ (.tail _ h) | exact List.mem_append_right _ (List.mem_append_right _ h) | exact List.mem_append_right _ h | (simp only [List.mem_cons, List.not_mem_nil, or_false] at h ⊢; first | exact .inl h | exact .inr (.inl h) | exact .inr (.inr (.inl h)) | exact .inr (.inr (.inr (.inl h))) | (subst h; simp; done) | grind), ?_⟩
    refine gd_one (i := 3) (d := none) (op := .store 3 (.tmp 5) (.tmp 37)) (ty := 0) (g := none) (by kernel_rfl) trivial rfl (by kernel_rfl) ?_
    refine os_store1 rfl rfl sz3 rfl rfl .auto (Nat.le_of_ble_eq_true rfl) (set_one _ _) ?_
    refine ⟨fun _ h => by first | exact h | (cases h; done) | exact .tail _ h | exact .tail _ (.tail _ h) | exact List.mem_append_right _ (List.mem_append_right _ h) | exact List.mem_append_right _ h | (simp only [List.mem_cons, List.not_mem_nil, or_false] at h ⊢; first | exact .inl h | exact .inr (.inl h) | exact .inr (.inr (.inl h)) | exact .inr (.inr (.inr (.inl h))) | (subst h; simp; done) | grind), ?_⟩
    refine gd_tail [] rfl (by kernel_rfl) (by kernel_rfl) ?_
    refine go_nil ?_
    change G _ _ _ _
    refine p_ret0 ?_
    have hst : stop L k i = true := by rw [stop_of hs]; simp [*]
    rw [hst]
    exact ⟨_, [], by rw [List.append_nil]; exact List.Perm.refl _, rfl, rfl⟩
  refine (ct_from1 hk rfl h1 h2 (by rw [hps]; rfl) (fun i => [(b4, .cells #[.int .i64 0] 3 (0, 0)), (b5, .cells #[.int .i64 i] 3 (0, 0)), (b3, .cells k.c 29 (0, 0)), (b2, .cells #[.pointer (some ⟨bt, 0, none⟩)] 78 (0, 0))]) (fun i => [(b4, .cells #[.int .i64 (place L.length k i)] 3 (0, 0)), (b5, .cells #[.int .i64 (i + 1 : Nat)] 3 (0, 0)), (b3, .cells k.c 29 (0, 0)), (b2, .cells #[.pointer (some ⟨bt, 0, none⟩)] 78 (0, 0))]) (stop L k) hround).mono ?_
  rintro _ M' (⟨i, hi, hs0, hs1, rfl⟩ | ⟨hs0, rfl⟩)
  · refine ⟨_, _, _, rfl, by decide, ?_⟩
    dsimp only [aftQ]
    try dsimp only [thenQ, inBlockQ]
    try rw [if_pos rfl]
    refine ret_mark ([tabO bt bs L.length many, slotO bs L]) (.inr rfl) ⟨_, _, List.Perm.refl _, List.Perm.refl _, (.cons (res_cell rfl (At.mem .auto) (ldv_sca sc3 (get_one _))) (.cons (res_cell rfl (At.mem .auto) (ldv_sca sc3 (get_one _))) .nil))⟩ ?_
    exact ⟨by unfold findV; rw [findI_some hi hs0 hs1]; rfl, rfl⟩
  · refine ⟨_, _, _, rfl, by decide, ?_⟩
    dsimp only [aftQ]
    change G _ _ _ _
    refine p_weaken [4, 5] rfl ?_
    refine p_seq0 ?_
    refine p_draw (by kernel_rfl) mixed 3 3 [] (by first | (simp; done) | (intro q hq; simp [hq]; done)) (by kernel_rfl) ?_
    refine gd_two (i := 0) (j := 1) (d := some 38) (op := .load 3 (.tmp 5)) (ty := 3) (g := none) (d' := none) (op' := .store 3 (.tmp 4) (.const (.int .i64 (-1)))) (ty' := 0) (g' := none) (by kernel_rfl) (by kernel_rfl) trivial rfl (by kernel_rfl) trivial rfl ?_ ?_
    · refine os_of_qv (Nat.le_of_ble_eq_true rfl) (qv_load rfl .auto (ldv_sca sc3 (get_one _))) ?_
      refine ⟨fun _ h => by first | exact h | (cases h; done) | exact .tail _ h | exact .tail _ (.tail _ h) | exact List.mem_append_right _ (List.mem_append_right _ h) | exact List.mem_append_right _ h | (simp only [List.mem_cons, List.not_mem_nil, or_false] at h ⊢; first | exact .inl h | exact .inr (.inl h) | exact .inr (.inr (.inl h)) | exact .inr (.inr (.inr (.inl h))) | (subst h; simp; done) | grind), ?_⟩
      refine gd_one (i := 1) (d := none) (op := .store 3 (.tmp 4) (.const (.int .i64 (-1)))) (ty := 0) (g := none) (by kernel_rfl) trivial rfl (by kernel_rfl) ?_
      refine os_store1 rfl rfl sz3 rfl rfl .auto (Nat.le_of_ble_eq_true rfl) (set_one _ _) ?_
      refine ⟨fun _ h => by first | exact h | (cases h; done) | exact .tail _ h | exact .tail _ (.tail _ h) | exact List.mem_append_right _ (List.mem_append_right _ h) | exact List.mem_append_right _ h | (simp only [List.mem_cons, List.not_mem_nil, or_false] at h ⊢; first | exact .inl h | exact .inr (.inl h) | exact .inr (.inr (.inl h)) | exact .inr (.inr (.inr (.inl h))) | (subst h; simp; done) | grind), ?_⟩
      refine gd_one (i := 2) (d := none) (op := .store 3 (.tmp 5) (.tmp 38)) (ty := 0) (g := none) (by kernel_rfl) trivial rfl (by kernel_rfl) ?_
      refine os_store1 rfl rfl sz3 rfl rfl .auto (Nat.le_of_ble_eq_true rfl) (set_one _ _) ?_
      refine ⟨fun _ h => by first | exact h | (cases h; done) | exact .tail _ h | exact .tail _ (.tail _ h) | exact List.mem_append_right _ (List.mem_append_right _ h) | exact List.mem_append_right _ h | (simp only [List.mem_cons, List.not_mem_nil, or_false] at h ⊢; first | exact .inl h | exact .inr (.inl h) | exact .inr (.inr (.inl h)) | exact .inr (.inr (.inr (.inl h))) | (subst h; simp; done) | grind), ?_⟩
      refine gd_tail [] rfl (by kernel_rfl) (by kernel_rfl) ?_
      refine go_nil ?_
      change G _ _ _ _
      refine p_weaken [4, 5] rfl ?_
      refine p_ret0 ?_
      try dsimp only [thenQ, inBlockQ]
      try rw [if_pos rfl]
      refine ret_mark ([tabO bt bs L.length many, slotO bs L]) (.inr rfl) ⟨_, _, List.Perm.refl _, List.Perm.refl _, (.cons (res_cell rfl (At.mem .auto) (ldv_sca sc3 (get_one _))) (.cons (res_cell rfl (At.mem .auto) (ldv_sca sc3 (get_one _))) .nil))⟩ ?_
      exact ⟨by unfold findV; rw [findI_none hs0]; rfl, rfl⟩
    refine os_store1 rfl rfl sz3 rfl rfl .auto (Nat.le_of_ble_eq_true rfl) (set_one _ _) ?_
    refine ⟨fun _ h => by first | exact h | (cases h; done) | exact .tail _ h | exact .tail _ (.tail _ h) | exact List.mem_append_right _ (List.mem_append_right _ h) | exact List.mem_append_right _ h | (simp only [List.mem_cons, List.not_mem_nil, or_false] at h ⊢; first | exact .inl h | exact .inr (.inl h) | exact .inr (.inr (.inl h)) | exact .inr (.inr (.inr (.inl h))) | (subst h; simp; done) | grind), ?_⟩
    refine gd_one (i := 0) (d := some 38) (op := .load 3 (.tmp 5)) (ty := 3) (g := none) (by kernel_rfl) trivial rfl (by kernel_rfl) ?_
    refine os_of_qv (Nat.le_of_ble_eq_true rfl) (qv_load rfl .auto (ldv_sca sc3 (get_one _))) ?_
    refine ⟨fun _ h => by first | exact h | (cases h; done) | exact .tail _ h | exact .tail _ (.tail _ h) | exact List.mem_append_right _ (List.mem_append_right _ h) | exact List.mem_append_right _ h | (simp only [List.mem_cons, List.not_mem_nil, or_false] at h ⊢; first | exact .inl h | exact .inr (.inl h) | exact .inr (.inr (.inl h)) | exact .inr (.inr (.inr (.inl h))) | (subst h; simp; done) | grind), ?_⟩
    refine gd_one (i := 2) (d := none) (op := .store 3 (.tmp 5) (.tmp 38)) (ty := 0) (g := none) (by kernel_rfl) trivial rfl (by kernel_rfl) ?_
    refine os_store1 rfl rfl sz3 rfl rfl .auto (Nat.le_of_ble_eq_true rfl) (set_one _ _) ?_
    refine ⟨fun _ h => by first | exact h | (cases h; done) | exact .tail _ h | exact .tail _ (.tail _ h) | exact List.mem_append_right _ (List.mem_append_right _ h) | exact List.mem_append_right _ h | (simp only [List.mem_cons, List.not_mem_nil, or_false] at h ⊢; first | exact .inl h | exact .inr (.inl h) | exact .inr (.inr (.inl h)) | exact .inr (.inr (.inr (.inl h))) | (subst h; simp; done) | grind), ?_⟩
    refine gd_tail [] rfl (by kernel_rfl) (by kernel_rfl) ?_
    refine go_nil ?_
    change G _ _ _ _
    refine p_weaken [4, 5] rfl ?_
    refine p_ret0 ?_
    try dsimp only [thenQ, inBlockQ]
    try rw [if_pos rfl]
    refine ret_mark ([tabO bt bs L.length many, slotO bs L]) (.inr rfl) ⟨_, _, List.Perm.refl _, List.Perm.refl _, (.cons (res_cell rfl (At.mem .auto) (ldv_sca sc3 (get_one _))) (.cons (res_cell rfl (At.mem .auto) (ldv_sca sc3 (get_one _))) .nil))⟩ ?_
    exact ⟨by unfold findV; rw [findI_none hs0]; rfl, rfl⟩
end Go.Proofs.YtobmcpoejhhemaaGreat
