/- Contracts: are both tables the same? -/
import Derived.Test.YtobmcpoejhhemaaTabK
namespace Go.Proofs.Ytobmcpoejhhemaa
open Go.E

theorem usedKeys_mem {L : List Slot} {k : Key} (h : k ∈ usedKeys L) : ∃ p, p < L.length ∧ (sl L p).used = true ∧ (sl L p).key = k := by
  obtain ⟨s, hs, rfl⟩ := List.mem_map.1 h
  obtain ⟨h1, h2⟩ := List.mem_filter.1 hs
  obtain ⟨p, hp, rfl⟩ := List.getElem_of_mem h1
  have e : sl L p = L[p] := by unfold sl; rw [List.getElem?_eq_getElem hp]; rfl
  exact ⟨p, hp, by rw [e]; exact h2, by rw [e]⟩
theorem usedKeys_nodup {n : Nat} {rank : Key → Nat} {L : List Slot} (hI : Inv n rank L) : (usedKeys L).Pairwise (· ≠ ·) := by
  unfold usedKeys
  rw [List.pairwise_map, List.pairwise_filter, List.pairwise_iff_getElem]
  intro i j hi hj hij h1 h2 h3
  have ei : sl L i = L[i] := by unfold sl; rw [List.getElem?_eq_getElem hi]; rfl
  have ej : sl L j = L[j] := by unfold sl; rw [List.getElem?_eq_getElem hj]; rfl
  have := hI.inj i j (by rw [← hI.len]; exact hi) (by rw [← hI.len]; exact hj) (by rw [ei]; exact h1) (by rw [ej]; exact h2) (by rw [ei, ej]; exact h3)
  omega
section
variable {n : Nat} {L : List Slot} {ks : List Key} {ns : List Int}
/-- The keys in order: each one below the next. -/
theorem Kp.sorted (h : Kp n L ks ns) (hr : ∀ k ∈ ks, k.right = true) {l : List Key} (hp : l.Perm (usedKeys L)) (hs : l.Pairwise fun x y => ¬ ltK y x) : l.Pairwise ltK := by
  obtain ⟨rank, hI⟩ := h.inv
  have hnd : l.Pairwise (· ≠ ·) := (hp.pairwise_iff (fun {a b} h => Ne.symm h)).2 (usedKeys_nodup hI)
  have hmem : ∀ k ∈ l, k.Wf ∧ k.right = true := fun k hk => by
    obtain ⟨p, hp', hu, rfl⟩ := usedKeys_mem (hp.mem_iff.1 hk)
    have hm := h.back p (by rw [← hI.len]; exact hp') hu
    exact ⟨h.kwf _ hm, hr _ hm⟩
  rw [List.pairwise_iff_getElem] at hs hnd ⊢
  intro i j hi hj hij
  obtain ⟨w1, r1⟩ := hmem l[i] (List.getElem_mem _)
  obtain ⟨w2, r2⟩ := hmem l[j] (List.getElem_mem _)
  exact ltK_of w1 w2 r1 r2 (hnd i j hi hj hij) (hs i j hi hj hij)
theorem Kp.got (hn : Pow n) (h : Kp n L ks ns) {k : Key} (hk : k ∈ usedKeys L) : k.Wf ∧ ∃ v, getV L k = .tuple #[.int .u64 v, .bool true] := by
  obtain ⟨p, hp', hu, rfl⟩ := usedKeys_mem hk
  have hm := h.back p (by rw [← h.L_len]; exact hp') hu
  obtain ⟨i, hi, he⟩ := List.getElem_of_mem hm
  have hi' : ks[i]? = some (sl L p).key := by rw [List.getElem?_eq_getElem hi, he]
  obtain ⟨_, v, _, hv, _⟩ := h.at_ hi'
  exact ⟨h.kwf _ hm, v, h.get hn hi' hv⟩

theorem asc_at {l : List Key} (h : l.Pairwise ltK) {i j : Nat} {a b : Key} (ha : l[i]? = some a) (hb : l[j]? = some b) (hij : i < j) : ltK a b := by
  rw [List.pairwise_iff_getElem] at h
  obtain ⟨hi, rfl⟩ := List.getElem?_eq_some_iff.1 ha
  obtain ⟨hj, rfl⟩ := List.getElem?_eq_some_iff.1 hb
  exact h i j hi hj hij
theorem ct_is {bt bs : Nat} {M : Mem} {p : Option Addr} {c : Nat} (hn : Pow n) (h : Kp n L ks ns) (hr : ∀ k ∈ ks, k.right = true) (hL : Lst eSlot p L M) :
    Ct Try.prog 65 [.pointer (some ⟨bt, 0, none⟩), .slice p n c].toArray (tabO bt bs n ks.length :: slotO bs L :: M) (fun v M' => v = .bool true ∧ M' = tabO bt bs n ks.length :: slotO bs L :: M) := by
  have hl := h.L_len
  have h1 := hn.pos
  have h2 := hn.le
  have hS := ct_Slots (bt := bt) (bs := bs) (many := ks.length) (L := L) (by omega) (by omega)
  have hRL := ct_refLen (c := c) (by omega) hL
  rw [hl] at hS hRL
  have hcu := h.used
  refine ct_body (rv := [.tmp 4]) [(0, _), (1, _)] Try.func65 (by kernel_rfl) Try.ntmps65 Try.results65 rfl rfl (fun w0 => ?_)
  refine p_seq0 ?_
  refine p_plain0 (0 :: []) ?_
  refine go_q0 4 (.assign (.const (.bool false))) 4 (qv_assign rfl) ?_
  refine go_nil ?_
  change G _ _ _ _
  refine p_seq0 ?_
  refine p_plain0 (0 :: 1 :: 2 :: []) ?_
  refine go_q0 11 (.move (.tmp 0)) 83 (qv_move rfl) ?_
  refine go_s0 (some 12) (.call { callee := .value (.func 67), args := #[.tmp 11], argTypes := #[83] }) 124 ?_
  refine os_call (Nat.le_of_ble_eq_true rfl) en67 rfl .auto (hS) ?_
  rintro v12 A12 ⟨A, ⟨q, cap, rfl, hO⟩, rfl⟩
  try dsimp only [List.nil_append, List.cons_append]
  obtain ⟨b, cur, rfl, rfl, hc1, hc2, hc3, H⟩ := hO.some_ (by omega)
  try dsimp only [List.nil_append, List.cons_append]
  rw [hl]
  refine go_q0 5 (.assign (.tmp 12)) 124 (qv_assign rfl) ?_
  refine go_nil ?_
  change G _ _ _ _
  refine p_weaken [0, 1, 4, 5] rfl ?_
  refine p_seq0 ?_
  refine p_seq0 ?_
  refine p_plain0 (0 :: 1 :: 2 :: 3 :: 4 :: 5 :: 6 :: 7 :: 8 :: 9 :: 10 :: 11 :: 12 :: 13 :: 14 :: 15 :: 16 :: 17 :: 18 :: []) ?_
  refine go_q0 13 (.move (.tmp 5)) 124 (qv_move rfl) ?_
  refine go_q0 14 (.call { callee := .builtin .len, args := #[.tmp 13], argTypes := #[124] }) 3 (qv_lenS un124 rfl) ?_
  refine go_q0 15 (.move (.tmp 1)) 112 (qv_move rfl) ?_
  refine go_q0 16 (.call { callee := .builtin .len, args := #[.tmp 15], argTypes := #[112] }) 3 (qv_lenS un112 rfl) ?_
  refine go_q0 17 (.binOp .neq 3 (.tmp 14) (.tmp 16) 3) 4 (qv_neq (b := false) rfl rfl (bne_eq_false_iff_eq.2 (by omega))) ?_
  refine go_q0 18 (.move (.tmp 17)) 4 (qv_move rfl) ?_
  refine go_q (d := 19) (op := .move (.tmp 0)) (ty := 83) (g := some (5, false)) (by kernel_rfl) ⟨18, by kernel_rfl, rfl⟩ rfl (qv_move rfl) ?_
  refine go_s (d := some 20) (op := .call { callee := .value (.func 66), args := #[.tmp 19], argTypes := #[83] }) (ty := 3) (g := some (5, false)) (by kernel_rfl) ⟨18, by kernel_rfl, rfl⟩ ?_
  refine os_pv rfl (pv_callR en66 rfl .auto (ct_Size bt bs n ks.length)) ?_
  refine go_q (d := 21) (op := .move (.tmp 1)) (ty := 112) (g := some (5, false)) (by kernel_rfl) ⟨18, by kernel_rfl, rfl⟩ rfl (qv_move rfl) ?_
  refine go_q (d := 22) (op := .call { callee := .builtin .len, args := #[.tmp 21], argTypes := #[112] }) (ty := 3) (g := some (5, false)) (by kernel_rfl) ⟨18, by kernel_rfl, rfl⟩ rfl (qv_lenS un112 rfl) ?_
  refine go_q (d := 23) (op := .binOp .neq 3 (.tmp 20) (.tmp 22) 3) (ty := 4) (g := some (5, false)) (by kernel_rfl) ⟨18, by kernel_rfl, rfl⟩ rfl (qv_neq (b := false) rfl rfl (bne_eq_false_iff_eq.2 (by omega))) ?_
  refine go_q0 24 (.pick (.tmp 18) (.const (.bool true)) (.tmp 23)) 4 (qv_pick_f rfl rfl) ?_
  refine go_q0 25 (.move (.tmp 24)) 4 (qv_move rfl) ?_
  refine go_q (d := 26) (op := .move (.tmp 0)) (ty := 83) (g := some (12, false)) (by kernel_rfl) ⟨25, by kernel_rfl, rfl⟩ rfl (qv_move rfl) ?_
  refine go_s (d := some 27) (op := .call { callee := .value (.func 45), args := #[.tmp 26], argTypes := #[83] }) (ty := 3) (g := some (12, false)) (by kernel_rfl) ⟨25, by kernel_rfl, rfl⟩ ?_
  refine os_pv rfl (pv_callR en45 rfl .auto (ct_Len bt bs n ks.length)) ?_
  refine go_q (d := 28) (op := .move (.tmp 1)) (ty := 112) (g := some (12, false)) (by kernel_rfl) ⟨25, by kernel_rfl, rfl⟩ rfl (qv_move rfl) ?_
  refine go_s (d := some 29) (op := .call { callee := .value (.func 117), args := #[.tmp 28], argTypes := #[112] }) (ty := 3) (g := some (12, false)) (by kernel_rfl) ⟨25, by kernel_rfl, rfl⟩ ?_
  refine os_pv rfl (pv_callR en117 rfl (by exact Sel.skip (Sel.skip (Sel.skip Sel.all))) (hRL)) ?_
  refine go_q (d := 30) (op := .binOp .neq 3 (.tmp 27) (.tmp 29) 3) (ty := 4) (g := some (12, false)) (by kernel_rfl) ⟨25, by kernel_rfl, rfl⟩ rfl (qv_neq (b := false) rfl rfl (bne_eq_false_iff_eq.2 (by omega))) ?_
  refine go_q0 31 (.pick (.tmp 25) (.const (.bool true)) (.tmp 30)) 4 (qv_pick_f rfl rfl) ?_
  refine go_nil ?_
  change G _ _ _ _
  refine p_weaken [0, 1, 4, 5, 31] rfl ?_
  refine p_condF (.tmp 31) (by kernel_rfl) rfl ?_
  refine p_skip0 ?_
  change G _ _ _ _
  refine p_weaken [0, 1, 4, 5] rfl ?_
  refine p_seq0 ?_
  refine p_seq0 ?_
  refine p_plain0 (0 :: []) ?_
  refine go_q0 6 (.assign (.const (.int .i64 0))) 3 (qv_assign rfl) ?_
  refine go_nil ?_
  change G _ _ _ _
  refine p_block 0 (by kernel_rfl) ?_
  refine p_loopE (by kernel_rfl) (fun s m => ∃ (i : Nat) (Lc : List Slot) (cu : Array Value), (i ≤ n) ∧ (Lc.length = n) ∧ (∀ j, i ≤ j → Lc[j]? = L[j]?) ∧ (cu.size = cap * 39) ∧ (Holds eSlot cu 0 Lc) ∧ Ge s ⟨[], [(0, .pointer (some ⟨bt, 0, none⟩)), (1, .slice p n c), (5, .slice (some ⟨b, 0, none⟩) n cap), (6, .int .i64 i)], (b, .cells cu 175 (0, 0)) :: slotO bs L :: tabO bt bs n ks.length :: M⟩ ∧ m = n + 1 - i) ?_ ?_
  · exact ⟨_, ⟨0, L, cur, by omega, hl, fun _ _ => rfl, hc3, H, ⟨rfl, ⟨[0, 1, 5, 6], rfl⟩, .auto⟩, rfl⟩⟩
  rintro s m ⟨i, Lc, cu, hi, hlc, hsm, hcz, Hc, hs, rfl⟩
  refine ge_ok hs ?_
  refine p_seq0 ?_
  refine p_seq0 ?_
  refine p_plain0 (0 :: 1 :: 2 :: 3 :: []) ?_
  refine go_q0 32 (.move (.tmp 6)) 3 (qv_move rfl) ?_
  refine go_q0 33 (.move (.tmp 5)) 124 (qv_move rfl) ?_
  refine go_q0 34 (.call { callee := .builtin .len, args := #[.tmp 33], argTypes := #[124] }) 3 (qv_lenS un124 rfl) ?_
  refine go_q0 35 (.binOp .lss 3 (.tmp 32) (.tmp 34) 3) 4 (qv_lss rfl rfl rfl) ?_
  refine go_nil ?_
  change G _ _ _ _
  refine p_weaken [0, 1, 5, 6, 35] rfl ?_
  refine p_cond (.tmp 35) (by kernel_rfl) rfl (fun h35 => ?_) (fun h35 => ?_)
  · replace h35 := kn h35
    refine p_skip0 ?_
    change G _ _ _ _
    refine p_weaken [0, 1, 5, 6] rfl ?_
    refine p_seq0 ?_
    refine p_block 1 (by kernel_rfl) ?_
    refine p_seq0 ?_
    refine p_seq0 ?_
    obtain ⟨x, hx⟩ : ∃ x, L[i]? = some x := ⟨_, List.getElem?_eq_getElem (by omega)⟩
    have hxc : Lc[i]? = some x := by rw [hsm i (Nat.le_refl _)]; exact hx
    obtain ⟨br, or_, cr, er, fr_, rfl, mr, Hr⟩ := hL.at_ (i := i) (by omega)
    refine p_draw (by kernel_rfl) mixed 38 38 _ (fun _ h => h) (by kernel_rfl) ?_
    refine gd_all (0 :: 1 :: 2 :: 3 :: 4 :: 5 :: 6 :: 7 :: 8 :: 9 :: 10 :: 11 :: 12 :: 13 :: 14 :: 15 :: 16 :: 17 :: 18 :: 19 :: 20 :: 21 :: 22 :: 23 :: 24 :: 25 :: 26 :: 27 :: 28 :: 29 :: 30 :: 31 :: 32 :: 33 :: 34 :: 35 :: 36 :: 37 :: []) _ rfl (by kernel_rfl) (by decide) (fun _ h => h) rfl ?_
    refine sq_q0 38 (.move (.tmp 5)) 124 (qv_move rfl) ?_
    refine sq_q0 39 (.move (.tmp 6)) 3 (qv_move rfl) ?_
    refine sq_q0 40 (.indexAddr 124 (.tmp 38) (.tmp 39)) 0 (qv_index un124 sz175 rfl rfl rfl (by omega)) ?_
    refine sq_q0 41 (.fieldAddr 175 (.tmp 40) 0) 0 (qv_field rfl fd175_0) ?_
    refine sq_q0 42 (.load 4 (.tmp 41)) 4 (qv_load rfl .auto (ldv_el Hc hxc sc4 (get_Slot_0 x) rfl)) ?_
    refine sq_q0 43 (.move (.tmp 1)) 112 (qv_move rfl) ?_
    refine sq_q0 44 (.move (.tmp 6)) 3 (qv_move rfl) ?_
    refine sq_q0 45 (.indexAddr 112 (.tmp 43) (.tmp 44)) 0 (qv_index un112 sz195 rfl rfl rfl (by omega)) ?_
    refine sq_q0 46 (.fieldAddr 195 (.tmp 45) 0) 0 (qv_field rfl fd195_0) ?_
    refine sq_q0 47 (.load 4 (.tmp 46)) 4 (qv_load rfl (At.of_mem (by repeat first | exact mr | exact List.mem_append_left _ mr | apply List.mem_cons_of_mem | apply List.mem_append_right)) (ldv_el Hr hx sc4 (get_Slot_0 x) rfl)) ?_
    refine sq_q0 48 (.binOp .neq 4 (.tmp 42) (.tmp 47) 4) 4 (qv_neqBb (b := false) un4 rfl rfl (by simp)) ?_
    refine sq_q0 49 (.move (.tmp 48)) 4 (qv_move rfl) ?_
    refine sq_q (d := 50) (op := .move (.tmp 5)) (ty := 124) (g := some (11, false)) (by kernel_rfl) ⟨49, by kernel_rfl, rfl⟩ (fun _ h => nomatch h) (qv_move rfl) ?_
    refine sq_q (d := 51) (op := .move (.tmp 6)) (ty := 3) (g := some (11, false)) (by kernel_rfl) ⟨49, by kernel_rfl, rfl⟩ (fun _ h => nomatch h) (qv_move rfl) ?_
    refine sq_q (d := 52) (op := .indexAddr 124 (.tmp 50) (.tmp 51)) (ty := 0) (g := some (11, false)) (by kernel_rfl) ⟨49, by kernel_rfl, rfl⟩ (fun _ h => nomatch h) (qv_index un124 sz175 rfl rfl rfl (by omega)) ?_
    refine sq_q (d := 53) (op := .fieldAddr 175 (.tmp 52) 1) (ty := 0) (g := some (11, false)) (by kernel_rfl) ⟨49, by kernel_rfl, rfl⟩ (fun _ h => nomatch h) (qv_field rfl fd175_1) ?_
    refine sq_q (d := 54) (op := .load 27 (.tmp 53)) (ty := 27) (g := some (11, false)) (by kernel_rfl) ⟨49, by kernel_rfl, rfl⟩ (fun _ h => nomatch h) (qv_load rfl .auto (ldv_elp Hc hxc agg27 (ext_Slot_1_37 x) (by decide) (by decide) rfl)) ?_
    refine sq_p (d := 55) (op := .call { callee := .value (.func 24), args := #[.tmp 54], argTypes := #[27] }) (ty := 45) (g := some (11, false)) (by kernel_rfl) ⟨49, by kernel_rfl, rfl⟩ (pv_call en24 rfl (pu_docKey x.key)) ?_
    refine sq_q (d := 56) (op := .move (.tmp 1)) (ty := 112) (g := some (11, false)) (by kernel_rfl) ⟨49, by kernel_rfl, rfl⟩ (fun _ h => nomatch h) (qv_move rfl) ?_
    refine sq_q (d := 57) (op := .move (.tmp 6)) (ty := 3) (g := some (11, false)) (by kernel_rfl) ⟨49, by kernel_rfl, rfl⟩ (fun _ h => nomatch h) (qv_move rfl) ?_
    refine sq_q (d := 58) (op := .indexAddr 112 (.tmp 56) (.tmp 57)) (ty := 0) (g := some (11, false)) (by kernel_rfl) ⟨49, by kernel_rfl, rfl⟩ (fun _ h => nomatch h) (qv_index un112 sz195 rfl rfl rfl (by omega)) ?_
    refine sq_q (d := 59) (op := .fieldAddr 195 (.tmp 58) 1) (ty := 0) (g := some (11, false)) (by kernel_rfl) ⟨49, by kernel_rfl, rfl⟩ (fun _ h => nomatch h) (qv_field rfl fd195_1) ?_
    refine sq_q (d := 60) (op := .load 45 (.tmp 59)) (ty := 45) (g := some (11, false)) (by kernel_rfl) ⟨49, by kernel_rfl, rfl⟩ (fun _ h => nomatch h) (qv_load rfl (At.of_mem (by repeat first | exact mr | exact List.mem_append_left _ mr | apply List.mem_cons_of_mem | apply List.mem_append_right)) (ldv_elp Hr hx agg45 (ext_Slot_1_37 x) (by decide) (by decide) rfl)) ?_
    refine sq_q (d := 61) (op := .binOp .neq 45 (.tmp 55) (.tmp 60) 45) (ty := 4) (g := some (11, false)) (by kernel_rfl) ⟨49, by kernel_rfl, rfl⟩ (fun _ h => nomatch h) (qv_neq_45 (b := false) rfl rfl (by simp)) ?_
    refine sq_q0 62 (.pick (.tmp 49) (.const (.bool true)) (.tmp 61)) 4 (qv_pick_f rfl rfl) ?_
    refine sq_q0 63 (.move (.tmp 62)) 4 (qv_move rfl) ?_
    refine sq_q (d := 64) (op := .move (.tmp 5)) (ty := 124) (g := some (25, false)) (by kernel_rfl) ⟨63, by kernel_rfl, rfl⟩ (fun _ h => nomatch h) (qv_move rfl) ?_
    refine sq_q (d := 65) (op := .move (.tmp 6)) (ty := 3) (g := some (25, false)) (by kernel_rfl) ⟨63, by kernel_rfl, rfl⟩ (fun _ h => nomatch h) (qv_move rfl) ?_
    refine sq_q (d := 66) (op := .indexAddr 124 (.tmp 64) (.tmp 65)) (ty := 0) (g := some (25, false)) (by kernel_rfl) ⟨63, by kernel_rfl, rfl⟩ (fun _ h => nomatch h) (qv_index un124 sz175 rfl rfl rfl (by omega)) ?_
    refine sq_q (d := 67) (op := .fieldAddr 175 (.tmp 66) 2) (ty := 0) (g := some (25, false)) (by kernel_rfl) ⟨63, by kernel_rfl, rfl⟩ (fun _ h => nomatch h) (qv_field rfl fd175_2) ?_
    refine sq_q (d := 68) (op := .load 30 (.tmp 67)) (ty := 30) (g := some (25, false)) (by kernel_rfl) ⟨63, by kernel_rfl, rfl⟩ (fun _ h => nomatch h) (qv_load rfl .auto (ldv_el Hc hxc sc30 (get_Slot_38 x) rfl)) ?_
    refine sq_q (d := 69) (op := .move (.tmp 1)) (ty := 112) (g := some (25, false)) (by kernel_rfl) ⟨63, by kernel_rfl, rfl⟩ (fun _ h => nomatch h) (qv_move rfl) ?_
    refine sq_q (d := 70) (op := .move (.tmp 6)) (ty := 3) (g := some (25, false)) (by kernel_rfl) ⟨63, by kernel_rfl, rfl⟩ (fun _ h => nomatch h) (qv_move rfl) ?_
    refine sq_q (d := 71) (op := .indexAddr 112 (.tmp 69) (.tmp 70)) (ty := 0) (g := some (25, false)) (by kernel_rfl) ⟨63, by kernel_rfl, rfl⟩ (fun _ h => nomatch h) (qv_index un112 sz195 rfl rfl rfl (by omega)) ?_
    refine sq_q (d := 72) (op := .fieldAddr 195 (.tmp 71) 2) (ty := 0) (g := some (25, false)) (by kernel_rfl) ⟨63, by kernel_rfl, rfl⟩ (fun _ h => nomatch h) (qv_field rfl fd195_2) ?_
    refine sq_q (d := 73) (op := .load 30 (.tmp 72)) (ty := 30) (g := some (25, false)) (by kernel_rfl) ⟨63, by kernel_rfl, rfl⟩ (fun _ h => nomatch h) (qv_load rfl (At.of_mem (by repeat first | exact mr | exact List.mem_append_left _ mr | apply List.mem_cons_of_mem | apply List.mem_append_right)) (ldv_el Hr hx sc30 (get_Slot_38 x) rfl)) ?_
    refine sq_q (d := 74) (op := .binOp .neq 30 (.tmp 68) (.tmp 73) 30) (ty := 4) (g := some (25, false)) (by kernel_rfl) ⟨63, by kernel_rfl, rfl⟩ (fun _ h => nomatch h) (qv_neq (b := false) rfl rfl (bne_eq_false_iff_eq.2 (by omega))) ?_
    refine sq_q0 75 (.pick (.tmp 63) (.const (.bool true)) (.tmp 74)) 4 (qv_pick_f rfl rfl) ?_
    refine SeqK.nil (fun β => ?_)
    refine gd_tail [] rfl (by kernel_rfl) (by kernel_rfl) ?_
    refine go_nil ?_
    change G _ _ _ _
    refine p_weaken [0, 1, 5, 6, 75] rfl ?_
    refine p_condF (.tmp 75) (by kernel_rfl) rfl ?_
    refine p_skip0 ?_
    change G _ _ _ _
    refine p_weaken [0, 1, 5, 6] rfl ?_
    refine p_plain0 (0 :: 1 :: 2 :: 3 :: 4 :: []) ?_
    refine go_q0 76 (.move (.tmp 5)) 124 (qv_move rfl) ?_
    refine go_q0 77 (.move (.tmp 6)) 3 (qv_move rfl) ?_
    refine go_q0 78 (.indexAddr 124 (.tmp 76) (.tmp 77)) 0 (qv_index un124 sz175 rfl rfl rfl (by omega)) ?_
    refine go_q0 79 (.fieldAddr 175 (.tmp 78) 0) 0 (qv_field rfl fd175_0) ?_
    refine go_s0 none (.store 4 (.tmp 79) (.const (.bool false))) 0 ?_
    refine os_store1 rfl rfl sz4 rfl rfl (by repeat first | exact .here | apply Up.next | apply Up.app) (by have : (i + 1) * 39 ≤ cap * 39 := Nat.mul_le_mul_right _ (by omega); omega) rfl ?_
    have hsc := holds_setc (E := eSlot) (k := 0) (a' := { x with used := false }) (by decide) Hc hxc (by decide) rfl rfl
    refine go_nil ?_
    change G _ _ _ _
    refine p_weaken [0, 1, 5, 6] rfl ?_
    refine p_plain0 (0 :: 1 :: 2 :: []) ?_
    refine go_q0 36 (.move (.tmp 6)) 3 (qv_move rfl) ?_
    refine go_q0 37 (.binOp .add 3 (.tmp 36) (.const (.int .i64 1)) 3) 3 (qv_add rfl rfl (by first | exact IntWalk.i64_in _ (by omega) | exact IntWalk.i64_in _ (by dsimp only; omega) | rfl)) ?_
    refine go_q0 6 (.assign (.tmp 37)) 3 (qv_assign rfl) ?_
    refine go_nil ?_
    exact ⟨_, ⟨i + 1, _, _, by omega, by rw [List.length_set]; exact hlc, fun j hj => by rw [List.getElem?_set_ne (by omega)]; exact hsm j (by omega), by rw [hsc.2]; exact hcz, hsc.1, ⟨rfl, ⟨[0, 1, 5, 6], rfl⟩, .auto⟩, rfl⟩, by omega⟩
  replace h35 := kn h35
  refine p_exit 0 (by kernel_rfl) ?_
  change G _ _ _ _
  refine p_weaken [0, 1] rfl ?_
  refine p_seq0 ?_
  refine p_plain0 (0 :: 1 :: 2 :: []) ?_
  refine go_q0 80 (.move (.tmp 0)) 83 (qv_move rfl) ?_
  refine go_s0 (some 81) (.call { callee := .value (.func 68), args := #[.tmp 80], argTypes := #[83] }) 86 ?_
  refine os_call (Nat.le_of_ble_eq_true rfl) en68 rfl .auto (ct_Keys hl h1 h2 h.wf) ?_
  rintro v81 A81 ⟨pk, ck, lk, Ak, rfl, hperm, hsort, hOk, rfl⟩
  try dsimp only [List.nil_append, List.cons_append]
  have hasc := h.sorted hr hperm hsort
  have hlkl : lk.length = ks.length := by rw [hperm.length_eq, usedKeys_len, hcu]
  have hle := h.le
  refine go_q0 7 (.assign (.tmp 81)) 86 (qv_assign rfl) ?_
  refine go_nil ?_
  change G _ _ _ _
  refine p_weaken [1, 7] rfl ?_
  refine p_seq0 ?_
  refine p_seq0 ?_
  refine p_plain0 (0 :: 1 :: 2 :: 3 :: 4 :: []) ?_
  refine go_q0 82 (.move (.tmp 7)) 86 (qv_move rfl) ?_
  refine go_q0 83 (.call { callee := .builtin .len, args := #[.tmp 82], argTypes := #[86] }) 3 (qv_lenS un86 rfl) ?_
  refine go_q0 84 (.move (.tmp 1)) 112 (qv_move rfl) ?_
  refine go_s0 (some 85) (.call { callee := .value (.func 117), args := #[.tmp 84], argTypes := #[112] }) 3 ?_
  refine os_pv rfl (pv_callR en117 rfl (by exact Sel.skipA (Sel.skip Sel.all)) (hRL)) ?_
  refine go_q0 86 (.binOp .neq 3 (.tmp 83) (.tmp 85) 3) 4 (qv_neq (b := false) rfl rfl (bne_eq_false_iff_eq.2 (by omega))) ?_
  refine go_nil ?_
  change G _ _ _ _
  refine p_weaken [1, 7, 86] rfl ?_
  refine p_condF (.tmp 86) (by kernel_rfl) rfl ?_
  refine p_skip0 ?_
  change G _ _ _ _
  refine p_weaken [1, 7] rfl ?_
  refine p_seq0 ?_
  refine p_seq0 ?_
  refine p_plain0 (0 :: []) ?_
  refine go_q0 8 (.assign (.const (.int .i64 0))) 3 (qv_assign rfl) ?_
  refine go_nil ?_
  change G _ _ _ _
  refine p_block 2 (by kernel_rfl) ?_
  refine p_loopE (by kernel_rfl) (fun s m => ∃ (j : Nat), (j ≤ lk.length) ∧ Ge s ⟨[], [(1, .slice p n c), (7, .slice pk lk.length ck), (8, .int .i64 j)], Ak ++ (tabO bt bs n ks.length :: slotO bs L :: M)⟩ ∧ m = lk.length + 1 - j) ?_ ?_
  · exact ⟨_, ⟨0, by omega, ⟨rfl, ⟨[1, 7, 8], rfl⟩, .auto⟩, rfl⟩⟩
  rintro s m ⟨j, hj, hs, rfl⟩
  refine ge_ok hs ?_
  refine p_seq0 ?_
  refine p_seq0 ?_
  refine p_plain0 (0 :: 1 :: 2 :: 3 :: []) ?_
  refine go_q0 87 (.move (.tmp 8)) 3 (qv_move rfl) ?_
  refine go_q0 88 (.move (.tmp 7)) 86 (qv_move rfl) ?_
  refine go_q0 89 (.call { callee := .builtin .len, args := #[.tmp 88], argTypes := #[86] }) 3 (qv_lenS un86 rfl) ?_
  refine go_q0 90 (.binOp .lss 3 (.tmp 87) (.tmp 89) 3) 4 (qv_lss rfl rfl rfl) ?_
  refine go_nil ?_
  change G _ _ _ _
  refine p_weaken [1, 7, 8, 90] rfl ?_
  refine p_cond (.tmp 90) (by kernel_rfl) rfl (fun h90 => ?_) (fun h90 => ?_)
  rotate_left
  · replace h90 := kn h90
    refine p_exit 2 (by kernel_rfl) ?_
    change G _ _ _ _
    refine p_weaken [] rfl ?_
    refine p_seq0 ?_
    refine p_plain0 (0 :: []) ?_
    refine go_q0 4 (.assign (.const (.bool true))) 4 (qv_assign rfl) ?_
    refine go_nil ?_
    change G _ _ _ _
    refine p_ret0 ?_
    try dsimp only [thenQ, inBlockQ]
    try rw [if_pos rfl]
    refine ret_left (tabO bt bs n ks.length :: slotO bs L :: M) (.inr rfl) (.cons (res_tmp rfl) .nil) .auto ?_
    exact ⟨rfl, rfl⟩
  replace h90 := kn h90
  refine p_skip0 ?_
  change G _ _ _ _
  refine p_weaken [1, 7, 8] rfl ?_
  refine p_seq0 ?_
  refine p_block 3 (by kernel_rfl) ?_
  refine p_seq0 ?_
  refine p_seq0 ?_
  obtain ⟨bk, ok, curk, ek, fk, rfl, mk, Hk⟩ := hOk.lst.at_ (i := j) (by omega)
  obtain ⟨kb, hkb⟩ : ∃ kb, lk[j]? = some kb := ⟨_, List.getElem?_eq_getElem (by omega)⟩
  obtain ⟨wb, vb, hgb⟩ := h.got hn (hperm.mem_iff.1 (List.mem_of_getElem? hkb))
  obtain ⟨ka, hka⟩ : ∃ ka, lk[j - 1]? = some ka := ⟨_, List.getElem?_eq_getElem (by omega)⟩
  obtain ⟨wa, _, _⟩ := h.got hn (hperm.mem_iff.1 (List.mem_of_getElem? hka))
  refine p_draw (by kernel_rfl) mixed 17 17 _ (fun _ h => h) (by kernel_rfl) ?_
  refine gd_all (0 :: 1 :: 2 :: 3 :: 4 :: 5 :: 6 :: 7 :: 8 :: 9 :: 10 :: 11 :: 12 :: 13 :: 14 :: 15 :: 16 :: []) _ rfl (by kernel_rfl) (by decide) (fun _ h => h) rfl ?_
  refine sq_q0 93 (.move (.tmp 8)) 3 (qv_move rfl) ?_
  refine sq_q0 94 (.binOp .gtr 3 (.tmp 93) (.const (.int .i64 0)) 3) 4 (qv_gtr rfl rfl rfl) ?_
  refine sq_q0 95 (.move (.tmp 94)) 4 (qv_move rfl) ?_
  refine sq_case (d := 95) rfl (fun _ => rfl) (fun g95 => ?_) (fun g95 => ?_)
  · replace g95 := kn g95
    refine sq_q (d := 96) (op := .move (.tmp 7)) (ty := 86) (g := some (2, true)) (by kernel_rfl) ⟨95, by kernel_rfl, rfl⟩ (fun _ h => nomatch h) (qv_move rfl) ?_
    refine sq_q (d := 97) (op := .move (.tmp 8)) (ty := 3) (g := some (2, true)) (by kernel_rfl) ⟨95, by kernel_rfl, rfl⟩ (fun _ h => nomatch h) (qv_move rfl) ?_
    refine sq_q (d := 98) (op := .binOp .sub 3 (.tmp 97) (.const (.int .i64 1)) 3) (ty := 3) (g := some (2, true)) (by kernel_rfl) ⟨95, by kernel_rfl, rfl⟩ (fun _ h => nomatch h) (qv_sub rfl rfl (by first | exact IntWalk.i64_in _ (by omega) | exact IntWalk.i64_in _ (by dsimp only; omega) | rfl)) ?_
    refine sq_q (d := 99) (op := .indexAddr 86 (.tmp 96) (.tmp 98)) (ty := 0) (g := some (2, true)) (by kernel_rfl) ⟨95, by kernel_rfl, rfl⟩ (fun _ h => nomatch h) (qv_index un86 sz27 rfl rfl (show (j : Int) - 1 = ((j - 1 : Nat) : Int) by omega) (by omega)) ?_
    refine sq_q (d := 100) (op := .load 27 (.tmp 99)) (ty := 27) (g := some (2, true)) (by kernel_rfl) ⟨95, by kernel_rfl, rfl⟩ (fun _ h => nomatch h) (qv_load rfl (At.of_mem (by repeat first | exact mk | exact List.mem_append_left _ mk | apply List.mem_cons_of_mem | apply List.mem_append_right)) (ldv_els Hk hka (by decide) agg27 rfl)) ?_
    refine sq_p (d := 101) (op := .call { callee := .value (.func 24), args := #[.tmp 100], argTypes := #[27] }) (ty := 45) (g := some (2, true)) (by kernel_rfl) ⟨95, by kernel_rfl, rfl⟩ (pv_call en24 rfl (pu_docKey ka)) ?_
    refine sq_q (d := 102) (op := .move (.tmp 7)) (ty := 86) (g := some (2, true)) (by kernel_rfl) ⟨95, by kernel_rfl, rfl⟩ (fun _ h => nomatch h) (qv_move rfl) ?_
    refine sq_q (d := 103) (op := .move (.tmp 8)) (ty := 3) (g := some (2, true)) (by kernel_rfl) ⟨95, by kernel_rfl, rfl⟩ (fun _ h => nomatch h) (qv_move rfl) ?_
    refine sq_q (d := 104) (op := .indexAddr 86 (.tmp 102) (.tmp 103)) (ty := 0) (g := some (2, true)) (by kernel_rfl) ⟨95, by kernel_rfl, rfl⟩ (fun _ h => nomatch h) (qv_index un86 sz27 rfl rfl rfl (by omega)) ?_
    refine sq_q (d := 105) (op := .load 27 (.tmp 104)) (ty := 27) (g := some (2, true)) (by kernel_rfl) ⟨95, by kernel_rfl, rfl⟩ (fun _ h => nomatch h) (qv_load rfl (At.of_mem (by repeat first | exact mk | exact List.mem_append_left _ mk | apply List.mem_cons_of_mem | apply List.mem_append_right)) (ldv_els Hk hkb (by decide) agg27 rfl)) ?_
    refine sq_p (d := 106) (op := .call { callee := .value (.func 24), args := #[.tmp 105], argTypes := #[27] }) (ty := 45) (g := some (2, true)) (by kernel_rfl) ⟨95, by kernel_rfl, rfl⟩ (pv_call en24 rfl (pu_docKey kb)) ?_
    refine sq_p (d := 107) (op := .call { callee := .value (.func 118), args := #[.tmp 101, .tmp 106], argTypes := #[45, 45] }) (ty := 3) (g := some (2, true)) (by kernel_rfl) ⟨95, by kernel_rfl, rfl⟩ (pv_call en118 rfl (pu_refCmp ka kb wa wb)) ?_
    refine sq_q (d := 108) (op := .binOp .geq 3 (.tmp 107) (.const (.int .i64 0)) 3) (ty := 4) (g := some (2, true)) (by kernel_rfl) ⟨95, by kernel_rfl, rfl⟩ (fun _ h => nomatch h) (qv_geq (b := false) rfl rfl (decide_eq_false (by have := asc_at hasc hka hkb (by omega); unfold ltK at this; omega))) ?_
    refine sq_q0 109 (.pick (.tmp 95) (.tmp 108) (.const (.bool false))) 4 (qv_pick_t rfl rfl) ?_
    refine SeqK.nil (fun β => ?_)
    refine gd_tail [] rfl (by kernel_rfl) (by kernel_rfl) ?_
    refine go_nil ?_
    change G _ _ _ _
    refine p_weaken [1, 7, 8, 109] rfl ?_
    refine p_condF (.tmp 109) (by kernel_rfl) rfl ?_
    refine p_skip0 ?_
    change G _ _ _ _
    refine p_weaken [1, 7, 8] rfl ?_
    refine p_seq0 ?_
    refine p_plain0 (0 :: 1 :: 2 :: 3 :: 4 :: 5 :: 6 :: 7 :: 8 :: 9 :: 10 :: 11 :: []) ?_
    refine go_q0 111 (.move (.tmp 1)) 112 (qv_move rfl) ?_
    refine go_q0 112 (.move (.tmp 7)) 86 (qv_move rfl) ?_
    refine go_q0 113 (.move (.tmp 8)) 3 (qv_move rfl) ?_
    refine go_q0 114 (.indexAddr 86 (.tmp 112) (.tmp 113)) 0 (qv_index un86 sz27 rfl rfl rfl (by omega)) ?_
    refine go_q0 115 (.load 27 (.tmp 114)) 27 (qv_load rfl (At.of_mem (by repeat first | exact mk | exact List.mem_append_left _ mk | apply List.mem_cons_of_mem | apply List.mem_append_right)) (ldv_els Hk hkb (by decide) agg27 rfl)) ?_
    refine go_s0 (some 116) (.call { callee := .value (.func 24), args := #[.tmp 115], argTypes := #[27] }) 45 ?_
    refine os_callP rfl en24 rfl (pu_docKey kb) ?_
    refine go_s0 (some 117) (.call { callee := .value (.func 61), args := #[.tmp 111, .tmp 116], argTypes := #[112, 45] }) 95 ?_
    refine os_pv rfl (pv_callR en61 rfl (by exact Sel.skipA (Sel.skip (Sel.skip Sel.all))) ((hgb ▸ (hl ▸ ct_refGet (c := c) (by rw [hl]; exact hn) hL wb)))) ?_
    refine go_q0 110 (.move (.tmp 117)) 95 (qv_move rfl) ?_
    refine go_q0 118 (.extract (.tmp 110) 0) 30 (qv_extract rfl rfl) ?_
    refine go_q0 119 (.extract (.tmp 110) 1) 4 (qv_extract rfl rfl) ?_
    refine go_q0 9 (.assign (.tmp 118)) 30 (qv_assign rfl) ?_
    refine go_q0 10 (.assign (.tmp 119)) 4 (qv_assign rfl) ?_
    refine go_nil ?_
    change G _ _ _ _
    refine p_weaken [1, 7, 8, 10] rfl ?_
    refine p_seq0 ?_
    refine p_plain0 (0 :: 1 :: []) ?_
    refine go_q0 120 (.move (.tmp 10)) 4 (qv_move rfl) ?_
    refine go_q0 121 (.unOp .not 4 (.tmp 120)) 4 (qv_not rfl) ?_
    refine go_nil ?_
    change G _ _ _ _
    refine p_weaken [1, 7, 8, 121] rfl ?_
    refine p_condF (.tmp 121) (by kernel_rfl) rfl ?_
    refine p_skip0 ?_
    change G _ _ _ _
    refine p_weaken [1, 7, 8] rfl ?_
    refine p_plain0 (0 :: 1 :: 2 :: []) ?_
    refine go_q0 91 (.move (.tmp 8)) 3 (qv_move rfl) ?_
    refine go_q0 92 (.binOp .add 3 (.tmp 91) (.const (.int .i64 1)) 3) 3 (qv_add rfl rfl (by first | exact IntWalk.i64_in _ (by omega) | exact IntWalk.i64_in _ (by dsimp only; omega) | rfl)) ?_
    refine go_q0 8 (.assign (.tmp 92)) 3 (qv_assign rfl) ?_
    refine go_nil ?_
    exact ⟨_, ⟨j + 1, by omega, ⟨rfl, ⟨[1, 7, 8], rfl⟩, .auto⟩, rfl⟩, by omega⟩
  replace g95 := kn g95
  refine sq_n (d := 96) (op := .move (.tmp 7)) (ty := 86) (g := some (2, true)) (by kernel_rfl) ⟨95, _, by kernel_rfl, rfl, rfl⟩ ?_
  refine sq_n (d := 97) (op := .move (.tmp 8)) (ty := 3) (g := some (2, true)) (by kernel_rfl) ⟨95, _, by kernel_rfl, rfl, rfl⟩ ?_
  refine sq_n (d := 98) (op := .binOp .sub 3 (.tmp 97) (.const (.int .i64 1)) 3) (ty := 3) (g := some (2, true)) (by kernel_rfl) ⟨95, _, by kernel_rfl, rfl, rfl⟩ ?_
  refine sq_n (d := 99) (op := .indexAddr 86 (.tmp 96) (.tmp 98)) (ty := 0) (g := some (2, true)) (by kernel_rfl) ⟨95, _, by kernel_rfl, rfl, rfl⟩ ?_
  refine sq_n (d := 100) (op := .load 27 (.tmp 99)) (ty := 27) (g := some (2, true)) (by kernel_rfl) ⟨95, _, by kernel_rfl, rfl, rfl⟩ ?_
  refine sq_n (d := 101) (op := .call { callee := .value (.func 24), args := #[.tmp 100], argTypes := #[27] }) (ty := 45) (g := some (2, true)) (by kernel_rfl) ⟨95, _, by kernel_rfl, rfl, rfl⟩ ?_
  refine sq_n (d := 102) (op := .move (.tmp 7)) (ty := 86) (g := some (2, true)) (by kernel_rfl) ⟨95, _, by kernel_rfl, rfl, rfl⟩ ?_
  refine sq_n (d := 103) (op := .move (.tmp 8)) (ty := 3) (g := some (2, true)) (by kernel_rfl) ⟨95, _, by kernel_rfl, rfl, rfl⟩ ?_
  refine sq_n (d := 104) (op := .indexAddr 86 (.tmp 102) (.tmp 103)) (ty := 0) (g := some (2, true)) (by kernel_rfl) ⟨95, _, by kernel_rfl, rfl, rfl⟩ ?_
  refine sq_n (d := 105) (op := .load 27 (.tmp 104)) (ty := 27) (g := some (2, true)) (by kernel_rfl) ⟨95, _, by kernel_rfl, rfl, rfl⟩ ?_
  refine sq_n (d := 106) (op := .call { callee := .value (.func 24), args := #[.tmp 105], argTypes := #[27] }) (ty := 45) (g := some (2, true)) (by kernel_rfl) ⟨95, _, by kernel_rfl, rfl, rfl⟩ ?_
  refine sq_n (d := 107) (op := .call { callee := .value (.func 118), args := #[.tmp 101, .tmp 106], argTypes := #[45, 45] }) (ty := 3) (g := some (2, true)) (by kernel_rfl) ⟨95, _, by kernel_rfl, rfl, rfl⟩ ?_
  refine sq_n (d := 108) (op := .binOp .geq 3 (.tmp 107) (.const (.int .i64 0)) 3) (ty := 4) (g := some (2, true)) (by kernel_rfl) ⟨95, _, by kernel_rfl, rfl, rfl⟩ ?_
  refine sq_q0 109 (.pick (.tmp 95) (.tmp 108) (.const (.bool false))) 4 (qv_pick_f rfl rfl) ?_
  refine SeqK.nil (fun β => ?_)
  refine gd_tail [] rfl (by kernel_rfl) (by kernel_rfl) ?_
  refine go_nil ?_
  change G _ _ _ _
  refine p_weaken [1, 7, 8, 109] rfl ?_
  refine p_condF (.tmp 109) (by kernel_rfl) rfl ?_
  refine p_skip0 ?_
  change G _ _ _ _
  refine p_weaken [1, 7, 8] rfl ?_
  refine p_seq0 ?_
  refine p_plain0 (0 :: 1 :: 2 :: 3 :: 4 :: 5 :: 6 :: 7 :: 8 :: 9 :: 10 :: 11 :: []) ?_
  refine go_q0 111 (.move (.tmp 1)) 112 (qv_move rfl) ?_
  refine go_q0 112 (.move (.tmp 7)) 86 (qv_move rfl) ?_
  refine go_q0 113 (.move (.tmp 8)) 3 (qv_move rfl) ?_
  refine go_q0 114 (.indexAddr 86 (.tmp 112) (.tmp 113)) 0 (qv_index un86 sz27 rfl rfl rfl (by omega)) ?_
  refine go_q0 115 (.load 27 (.tmp 114)) 27 (qv_load rfl (At.of_mem (by repeat first | exact mk | exact List.mem_append_left _ mk | apply List.mem_cons_of_mem | apply List.mem_append_right)) (ldv_els Hk hkb (by decide) agg27 rfl)) ?_
  refine go_s0 (some 116) (.call { callee := .value (.func 24), args := #[.tmp 115], argTypes := #[27] }) 45 ?_
  refine os_callP rfl en24 rfl (pu_docKey kb) ?_
  refine go_s0 (some 117) (.call { callee := .value (.func 61), args := #[.tmp 111, .tmp 116], argTypes := #[112, 45] }) 95 ?_
  refine os_pv rfl (pv_callR en61 rfl (by exact Sel.skipA (Sel.skip (Sel.skip Sel.all))) ((hgb ▸ (hl ▸ ct_refGet (c := c) (by rw [hl]; exact hn) hL wb)))) ?_
  refine go_q0 110 (.move (.tmp 117)) 95 (qv_move rfl) ?_
  refine go_q0 118 (.extract (.tmp 110) 0) 30 (qv_extract rfl rfl) ?_
  refine go_q0 119 (.extract (.tmp 110) 1) 4 (qv_extract rfl rfl) ?_
  refine go_q0 9 (.assign (.tmp 118)) 30 (qv_assign rfl) ?_
  refine go_q0 10 (.assign (.tmp 119)) 4 (qv_assign rfl) ?_
  refine go_nil ?_
  change G _ _ _ _
  refine p_weaken [1, 7, 8, 10] rfl ?_
  refine p_seq0 ?_
  refine p_plain0 (0 :: 1 :: []) ?_
  refine go_q0 120 (.move (.tmp 10)) 4 (qv_move rfl) ?_
  refine go_q0 121 (.unOp .not 4 (.tmp 120)) 4 (qv_not rfl) ?_
  refine go_nil ?_
  change G _ _ _ _
  refine p_weaken [1, 7, 8, 121] rfl ?_
  refine p_condF (.tmp 121) (by kernel_rfl) rfl ?_
  refine p_skip0 ?_
  change G _ _ _ _
  refine p_weaken [1, 7, 8] rfl ?_
  refine p_plain0 (0 :: 1 :: 2 :: []) ?_
  refine go_q0 91 (.move (.tmp 8)) 3 (qv_move rfl) ?_
  refine go_q0 92 (.binOp .add 3 (.tmp 91) (.const (.int .i64 1)) 3) 3 (qv_add rfl rfl (by first | exact IntWalk.i64_in _ (by omega) | exact IntWalk.i64_in _ (by dsimp only; omega) | rfl)) ?_
  refine go_q0 8 (.assign (.tmp 92)) 3 (qv_assign rfl) ?_
  refine go_nil ?_
  exact ⟨_, ⟨j + 1, by omega, ⟨rfl, ⟨[1, 7, 8], rfl⟩, .auto⟩, rfl⟩, by omega⟩
end
end Go.Proofs.Ytobmcpoejhhemaa
