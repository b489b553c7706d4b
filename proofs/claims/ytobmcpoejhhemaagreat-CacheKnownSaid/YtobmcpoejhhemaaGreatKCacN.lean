import Derived.Test.YtobmcpoejhhemaaGreatKCacE
import Derived.Test.YtobmcpoejhhemaaGreatKNone2
namespace Go.Proofs.YtobmcpoejhhemaaGreat
open Go.E

theorem zeroR_wf : zeroR.Wf := ⟨zeroS_wf, ⟨by decide, by decide⟩, ⟨by decide, by decide⟩, ⟨by decide, by decide⟩, ⟨by decide, by decide⟩, ⟨by decide, by decide⟩, ⟨by decide, by decide⟩, ⟨by decide, by decide⟩⟩
theorem pu_beginCmp {a b : Rec} (ha : a.Wf) (hb : b.Wf) : Pu Tryz.prog 81 [.agg a.c, .agg b.c] (.int .i64 (cmpLast a b)) := by
  refine ct_body (rv := [.tmp 4]) [(0, _), (1, _)] Tryz.func81 (by kernel_rfl) Tryz.ntmps81 Tryz.results81 rfl rfl (fun w0 => ?_)
  refine p_seq0 ?_
  refine p_plain0 (0 :: 1 :: 2 :: []) ?_
  refine go_s0 (some 2) (.box 69 (.tmp 0)) 0 ?_
  refine os_boxA rfl rfl (fun b2 => ?_)
  refine go_s0 (some 3) (.box 69 (.tmp 1)) 0 ?_
  refine os_boxA rfl rfl (fun b3 => ?_)
  refine go_q0 4 (.assign (.const (.int .i64 0))) 3 (qv_assign rfl) ?_
  refine go_nil ?_
  change G _ _ _ _
  refine p_weaken [2, 3, 4] rfl ?_
  refine p_seq0 ?_
  refine p_draw (by kernel_rfl) mixed 8 11 _ (fun _ h => h) (by kernel_rfl) ?_
  refine gd_all (0 :: 1 :: 2 :: 3 :: 4 :: 5 :: 6 :: 7 :: []) _ rfl (by kernel_rfl) (by decide) (fun _ h => h) rfl ?_
  refine sq_q0 5 (.fieldAddr 69 (.tmp 2) 4) 0 (qv_field rfl fd69_4) ?_
  refine sq_q0 6 (.load 23 (.tmp 5)) 23 (qv_load rfl .auto (ldv_sca sc23 (get_Rec_40 _))) ?_
  refine sq_q0 7 (.fieldAddr 69 (.tmp 3) 4) 0 (qv_field rfl fd69_4) ?_
  refine sq_q0 8 (.load 23 (.tmp 7)) 23 (qv_load rfl .auto (ldv_sca sc23 (get_Rec_40 _))) ?_
  refine sq_p (d := 9) (op := .call { callee := .value (.func 48), args := #[.tmp 6, .tmp 8], argTypes := #[23, 23] }) (ty := 3) (g := none) (by kernel_rfl) trivial (pv_call en48 rfl (pu_CompareU a.last b.last)) ?_
  refine sq_q0 10 (.load 69 (.tmp 2)) 69 (qv_load rfl .auto (ldv_agg agg69 (extw_Rec _) (Nat.le_of_ble_eq_true rfl))) ?_
  refine sq_q0 11 (.load 69 (.tmp 3)) 69 (qv_load rfl .auto (ldv_agg agg69 (extw_Rec _) (Nat.le_of_ble_eq_true rfl))) ?_
  refine sq_p (d := 12) (op := .call { callee := .value (.func 49), args := #[.tmp 10, .tmp 11], argTypes := #[69, 69] }) (ty := 3) (g := none) (by kernel_rfl) trivial (pv_call en49 rfl (pu_byKey ha hb)) ?_
  refine SeqK.nil (fun β => ?_)
  refine gd_tail [8, 9, 10] rfl (by kernel_rfl) (by kernel_rfl) ?_
  refine go_s0 (some 13) (.buildSlice 140 2 #[(0, .tmp 9), (1, .tmp 12)]) 140 ?_
  refine os_buildSlice (Nat.le_of_ble_eq_true rfl) rfl (bls140_2 _ _) (fun b13 => ?_)
  refine go_s0 (some 14) (.call { callee := .value (.func 47), args := #[.tmp 13], argTypes := #[140] }) 3 ?_
  refine os_call (Nat.le_of_ble_eq_true rfl) en47 rfl .auto (ct_Or2 (cmpI a.last b.last) (cmpK a.key b.key)) ?_
  rintro v14 A14 ⟨rfl, rfl⟩
  try dsimp only [List.nil_append, List.cons_append]
  refine go_q0 4 (.assign (.tmp 14)) 3 (qv_assign rfl) ?_
  refine go_nil ?_
  change G _ _ _ _
  refine p_weaken [4] rfl ?_
  refine p_ret0 ?_
  try dsimp only [thenQ, inBlockQ]
  try rw [if_pos rfl]
  refine ret_left ([]) (.inr rfl) (.cons (res_tmp rfl) .nil) .auto ?_
  exact ⟨rfl, rfl⟩
/-- The captured variable that holds the cache. -/
def capO (bv bc : Nat) : Nat × Obj := (bv, .cells #[.pointer (some ⟨bc, 0, none⟩)] 43 (0, 0))
section
variable {bv bc bt nf cf : Nat} {tick : Int} {bd : Bnd} {pf : Option Addr} {a b r : Rec}
theorem ct_advCmp0 (hbd : bd.Wf) (ha : a.Wf) (hb : b.Wf) : Ct Tryz.prog 46 [.agg a.c, .agg b.c, .pointer (some ⟨bv, 0, none⟩)].toArray [cacO bc tick bd bt pf nf cf, capO bv bc] (fun v M' => v = .int .i64 (cmpDue bd a b) ∧ M' = [cacO bc tick bd bt pf nf cf, capO bv bc]) := by
  refine ct_body (rv := [.tmp 5]) [(0, _), (1, _), (2, _)] Tryz.func46 (by kernel_rfl) Tryz.ntmps46 Tryz.results46 rfl rfl (fun w0 => ?_)
  refine p_seq0 ?_
  refine p_plain0 (0 :: 1 :: 2 :: []) ?_
  refine go_s0 (some 3) (.box 69 (.tmp 0)) 0 ?_
  refine os_boxA rfl rfl (fun b3 => ?_)
  refine go_s0 (some 4) (.box 69 (.tmp 1)) 0 ?_
  refine os_boxA rfl rfl (fun b4 => ?_)
  refine go_q0 5 (.assign (.const (.int .i64 0))) 3 (qv_assign rfl) ?_
  refine go_nil ?_
  change G _ _ _ _
  refine p_weaken [2, 3, 4, 5] rfl ?_
  refine p_seq0 ?_
  refine p_draw (by kernel_rfl) mixed 10 13 _ (fun _ h => h) (by kernel_rfl) ?_
  refine gd_all (0 :: 1 :: 2 :: 3 :: 4 :: 5 :: 6 :: 7 :: 8 :: 9 :: []) _ rfl (by kernel_rfl) (by decide) (fun _ h => h) rfl ?_
  refine sq_q0 6 (.load 43 (.tmp 2)) 43 (qv_load rfl .auto (ldv_sca sc43 (get_one _))) ?_
  refine sq_q0 7 (.load 69 (.tmp 3)) 69 (qv_load rfl .auto (ldv_agg agg69 (extw_Rec _) (Nat.le_of_ble_eq_true rfl))) ?_
  refine sq_p (d := 8) (op := .call { callee := .value (.func 44), args := #[.tmp 6, .tmp 7], argTypes := #[43, 69] }) (ty := 23) (g := none) (by kernel_rfl) trivial (pv_callR en44 rfl .auto (ct_due (bc := bc) (bt := bt) (nf := nf) (cf := cf) (tick := tick) (pf := pf) hbd ha)) ?_
  refine sq_q0 9 (.load 43 (.tmp 2)) 43 (qv_load rfl .auto (ldv_sca sc43 (get_one _))) ?_
  refine sq_q0 10 (.load 69 (.tmp 4)) 69 (qv_load rfl .auto (ldv_agg agg69 (extw_Rec _) (Nat.le_of_ble_eq_true rfl))) ?_
  refine sq_p (d := 11) (op := .call { callee := .value (.func 44), args := #[.tmp 9, .tmp 10], argTypes := #[43, 69] }) (ty := 23) (g := none) (by kernel_rfl) trivial (pv_callR en44 rfl .auto (ct_due (bc := bc) (bt := bt) (nf := nf) (cf := cf) (tick := tick) (pf := pf) hbd hb)) ?_
  refine sq_p (d := 12) (op := .call { callee := .value (.func 48), args := #[.tmp 8, .tmp 11], argTypes := #[23, 23] }) (ty := 3) (g := none) (by kernel_rfl) trivial (pv_call en48 rfl (pu_CompareU _ _)) ?_
  refine sq_q0 13 (.load 69 (.tmp 3)) 69 (qv_load rfl .auto (ldv_agg agg69 (extw_Rec _) (Nat.le_of_ble_eq_true rfl))) ?_
  refine sq_q0 14 (.load 69 (.tmp 4)) 69 (qv_load rfl .auto (ldv_agg agg69 (extw_Rec _) (Nat.le_of_ble_eq_true rfl))) ?_
  refine sq_p (d := 15) (op := .call { callee := .value (.func 49), args := #[.tmp 13, .tmp 14], argTypes := #[69, 69] }) (ty := 3) (g := none) (by kernel_rfl) trivial (pv_call en49 rfl (pu_byKey ha hb)) ?_
  refine SeqK.nil (fun β => ?_)
  refine gd_tail [10, 11, 12] rfl (by kernel_rfl) (by kernel_rfl) ?_
  refine go_s0 (some 16) (.buildSlice 140 2 #[(0, .tmp 12), (1, .tmp 15)]) 140 ?_
  refine os_buildSlice (Nat.le_of_ble_eq_true rfl) rfl (bls140_2 _ _) (fun b16 => ?_)
  refine go_s0 (some 17) (.call { callee := .value (.func 47), args := #[.tmp 16], argTypes := #[140] }) 3 ?_
  refine os_call (Nat.le_of_ble_eq_true rfl) en47 rfl .auto (ct_Or2 (cmpI (dueR bd a) (dueR bd b)) (cmpK a.key b.key)) ?_
  rintro v17 A17 ⟨rfl, rfl⟩
  try dsimp only [List.nil_append, List.cons_append]
  refine go_q0 5 (.assign (.tmp 17)) 3 (qv_assign rfl) ?_
  refine go_nil ?_
  change G _ _ _ _
  refine p_weaken [5] rfl ?_
  refine p_ret0 ?_
  try dsimp only [thenQ, inBlockQ]
  try rw [if_pos rfl]
  refine ret_left ([cacO bc tick bd bt pf nf cf, capO bv bc]) (.inr rfl) (.cons (res_tmp rfl) .nil) .auto ?_
  exact ⟨rfl, rfl⟩
theorem ct_advCmp (hbd : bd.Wf) (ha : a.Wf) (hb : b.Wf) : Ct Tryz.prog 46 ([Value.agg (eRec.c a), Value.agg (eRec.c b)] ++ [Value.pointer (some ⟨bv, 0, none⟩)]).toArray [cacO bc tick bd bt pf nf cf, capO bv bc] (fun v M' => v = .int .i64 (cmpDue bd a b) ∧ M' = [cacO bc tick bd bt pf nf cf, capO bv bc]) := by
  simp only [List.cons_append, List.nil_append, eRec]
  exact ct_advCmp0 hbd ha hb
theorem ct_advReason0 (hbd : bd.Wf) (hr : r.Wf) : Ct Tryz.prog 50 [.agg r.c, .pointer (some ⟨bv, 0, none⟩)].toArray [cacO bc tick bd bt pf nf cf, capO bv bc] (fun v M' => v = .int .u8 (reasonR bd r) ∧ M' = [cacO bc tick bd bt pf nf cf, capO bv bc]) := by
  refine ct_body (rv := [.tmp 3]) [(0, _), (1, _)] Tryz.func50 (by kernel_rfl) Tryz.ntmps50 Tryz.results50 rfl rfl (fun w0 => ?_)
  refine p_seq0 ?_
  refine p_plain0 (0 :: 1 :: []) ?_
  refine go_s0 (some 2) (.box 69 (.tmp 0)) 0 ?_
  refine os_boxA rfl rfl (fun b2 => ?_)
  refine go_q0 3 (.assign (.const (.int .u8 0))) 5 (qv_assign rfl) ?_
  refine go_nil ?_
  change G _ _ _ _
  refine p_weaken [1, 2, 3] rfl ?_
  refine p_seq0 ?_
  refine p_seq0 ?_
  refine p_draw (by kernel_rfl) mixed 7 7 _ (fun _ h => h) (by kernel_rfl) ?_
  refine gd_all (0 :: 1 :: 2 :: 3 :: 4 :: 5 :: 6 :: []) _ rfl (by kernel_rfl) (by decide) (fun _ h => h) rfl ?_
  refine sq_q0 4 (.load 43 (.tmp 1)) 43 (qv_load rfl .auto (ldv_sca sc43 (get_one _))) ?_
  refine sq_q0 5 (.load 69 (.tmp 2)) 69 (qv_load rfl .auto (ldv_agg agg69 (extw_Rec _) (Nat.le_of_ble_eq_true rfl))) ?_
  refine sq_p (d := 6) (op := .call { callee := .value (.func 51), args := #[.tmp 4, .tmp 5], argTypes := #[43, 69] }) (ty := 23) (g := none) (by kernel_rfl) trivial (pv_callR en51 rfl .auto (ct_idle (bc := bc) (bt := bt) (nf := nf) (cf := cf) (tick := tick) (pf := pf) hbd hr)) ?_
  refine sq_q0 7 (.load 43 (.tmp 1)) 43 (qv_load rfl .auto (ldv_sca sc43 (get_one _))) ?_
  refine sq_q0 8 (.load 69 (.tmp 2)) 69 (qv_load rfl .auto (ldv_agg agg69 (extw_Rec _) (Nat.le_of_ble_eq_true rfl))) ?_
  refine sq_p (d := 9) (op := .call { callee := .value (.func 44), args := #[.tmp 7, .tmp 8], argTypes := #[43, 69] }) (ty := 23) (g := none) (by kernel_rfl) trivial (pv_callR en44 rfl .auto (ct_due (bc := bc) (bt := bt) (nf := nf) (cf := cf) (tick := tick) (pf := pf) hbd hr)) ?_
  refine sq_q0 10 (.binOp .eql 23 (.tmp 6) (.tmp 9) 23) 4 (qv_eql rfl rfl rfl) ?_
  refine SeqK.nil (fun β => ?_)
  refine gd_tail [] rfl (by kernel_rfl) (by kernel_rfl) ?_
  refine go_nil ?_
  change G _ _ _ _
  refine p_weaken [3, 10] rfl ?_
  refine p_cond (.tmp 10) (by kernel_rfl) rfl (fun h10 => ?_) (fun h10 => ?_)
  · replace h10 := kn h10
    have hv : reasonR bd r = 1 := by unfold reasonR; rw [if_pos h10]
    refine p_seq0 ?_
    refine p_plain0 (0 :: []) ?_
    refine go_q0 3 (.assign (.const (.int .u8 1))) 5 (qv_assign rfl) ?_
    refine go_nil ?_
    change G _ _ _ _
    refine p_weaken [3] rfl ?_
    refine p_ret0 ?_
    try dsimp only [thenQ, inBlockQ]
    try rw [if_pos rfl]
    refine ret_left ([cacO bc tick bd bt pf nf cf, capO bv bc]) (.inr rfl) (.cons (res_tmp rfl) .nil) .auto ?_
    exact ⟨by rw [hv]; rfl, rfl⟩
  replace h10 := kn h10
  have hv : reasonR bd r = 2 := by unfold reasonR; rw [if_neg h10]
  refine p_skip0 ?_
  change G _ _ _ _
  refine p_weaken [3] rfl ?_
  refine p_seq0 ?_
  refine p_plain0 (0 :: []) ?_
  refine go_q0 3 (.assign (.const (.int .u8 2))) 5 (qv_assign rfl) ?_
  refine go_nil ?_
  change G _ _ _ _
  refine p_ret0 ?_
  try dsimp only [thenQ, inBlockQ]
  try rw [if_pos rfl]
  refine ret_left ([cacO bc tick bd bt pf nf cf, capO bv bc]) (.inr rfl) (.cons (res_tmp rfl) .nil) .auto ?_
  exact ⟨by rw [hv]; rfl, rfl⟩
theorem ct_advReason (hbd : bd.Wf) (hr : r.Wf) : Ct Tryz.prog 50 ([Value.agg r.c] ++ [Value.pointer (some ⟨bv, 0, none⟩)]).toArray [cacO bc tick bd bt pf nf cf, capO bv bc] (fun v M' => v = .int .u8 (reasonR bd r) ∧ M' = [cacO bc tick bd bt pf nf cf, capO bv bc]) := by
  simp only [List.cons_append, List.nil_append, eRec]
  exact ct_advReason0 hbd hr
end
theorem swo_last : Go.Sort.SWO (fun x y : Rec => decide (cmpLast x y < 0)) := swo_lex (fun r : Rec => r.last) (fun r => kb r.key)
theorem swo_due (bd : Bnd) : Go.Sort.SWO (fun x y : {r : Rec // r.Wf} => decide (cmpDue bd x.1 y.1 < 0)) := swo_lex (fun r : {r : Rec // r.Wf} => dueR bd r.1) (fun r => kb r.1.key)
theorem min_step {l : List Rec} {i : Nat} {u x : Rec} (hx : l[i]? = some x) (hmin : ∀ (j : Nat) (x : Rec), j < i → l[j]? = some x → ¬ cmpLast x u < 0) (h : cmpLast x u < 0) : ∀ (j : Nat) (y : Rec), j < i + 1 → l[j]? = some y → ¬ cmpLast y x < 0 := by
  intro j y hj hy hlt
  by_cases e : j = i
  · subst e; rw [hx] at hy; cases hy
    exact of_decide_eq_false (swo_last.irrefl x) hlt
  · exact hmin j y (by omega) hy (of_decide_eq_true (swo_last.trans y x u (decide_eq_true hlt) (decide_eq_true h)))
theorem min_stay {l : List Rec} {i : Nat} {u x : Rec} (hx : l[i]? = some x) (hmin : ∀ (j : Nat) (x : Rec), j < i → l[j]? = some x → ¬ cmpLast x u < 0) (h : ¬ cmpLast x u < 0) : ∀ (j : Nat) (y : Rec), j < i + 1 → l[j]? = some y → ¬ cmpLast y u < 0 := by
  intro j y hj hy
  by_cases e : j = i
  · subst e; rw [hx] at hy; cases hy; exact h
  · exact hmin j y (by omega) hy
theorem ct_MinFunc {M : Mem} {p : Option Addr} {c : Nat} {l : List Rec} (h0 : 0 < l.length) (hm : l.length ≤ 1000000) (h : Lst eRec p l M) (hw : ∀ r ∈ l, r.Wf) :
    Ct Tryz.prog 80 [.slice p l.length c, .func (.func 81) #[] #[]].toArray M (fun v M' => ∃ u, v = .agg u.c ∧ u ∈ l ∧ (∀ x ∈ l, ¬ cmpLast x u < 0) ∧ M' = M) := by
  obtain ⟨b, off, cur, e, fz, rfl, mm, H⟩ := h.at_ h0
  obtain ⟨r0, hr0⟩ : ∃ r0, l[0]? = some r0 := ⟨_, List.getElem?_eq_getElem h0⟩
  refine ct_body (rv := [.cell 4 69]) [(0, _), (1, _)] Tryz.func80 (by kernel_rfl) Tryz.ntmps80 Tryz.results80 rfl rfl (fun w0 => ?_)
  refine p_seq0 ?_
  refine p_plain0 (0 :: []) ?_
  refine go_s0 (some 4) (.alloc 69) 0 ?_
  refine os_allocA rfl ze69 (fun b4 => ?_)
  refine go_nil ?_
  change G _ _ _ _
  refine p_seq0 ?_
  refine p_seq0 ?_
  refine p_plain0 (0 :: 1 :: 2 :: []) ?_
  refine go_q0 7 (.move (.tmp 0)) 55 (qv_move rfl) ?_
  refine go_q0 8 (.call { callee := .builtin .len, args := #[.tmp 7], argTypes := #[55] }) 3 (qv_lenS un55 rfl) ?_
  refine go_q0 9 (.binOp .lss 3 (.tmp 8) (.const (.int .i64 1)) 3) 4 (qv_lss (b := false) rfl rfl (decide_eq_false (by omega))) ?_
  refine go_nil ?_
  change G _ _ _ _
  refine p_weaken [0, 1, 4, 9] rfl ?_
  refine p_condF (.tmp 9) (by kernel_rfl) rfl ?_
  refine p_skip0 ?_
  change G _ _ _ _
  refine p_weaken [0, 1, 4] rfl ?_
  refine p_seq0 ?_
  refine p_plain0 (0 :: 1 :: 2 :: 3 :: 4 :: []) ?_
  refine go_q0 11 (.move (.tmp 0)) 55 (qv_move rfl) ?_
  refine go_q0 12 (.indexAddr 55 (.tmp 11) (.const (.int .i64 0))) 0 (qv_index un55 sz69 rfl rfl (j := 0) rfl h0) ?_
  refine go_q0 13 (.load 69 (.tmp 12)) 69 (qv_load rfl (At.of_mem (by repeat first | exact mm | exact List.mem_append_left _ mm | apply List.mem_cons_of_mem | apply List.mem_append_right)) (ldv_els H hr0 (by decide) agg69 rfl)) ?_
  refine go_s0 (some 5) (.alloc 69) 0 ?_
  refine os_allocA rfl ze69 (fun b5 => ?_)
  refine go_s0 none (.store 69 (.tmp 5) (.tmp 13)) 0 ?_
  refine os_store rfl rfl sz69 rfl (one_Rec _) .auto (Nat.le_of_ble_eq_true rfl) (splw_Rec _ _ (siz_Rec _)) ?_
  refine go_nil ?_
  change G _ _ _ _
  refine p_weaken [0, 1, 4, 5] rfl ?_
  refine p_seq0 ?_
  refine p_seq0 ?_
  refine p_plain0 (0 :: []) ?_
  refine go_q0 6 (.assign (.const (.int .i64 1))) 3 (qv_assign rfl) ?_
  refine go_nil ?_
  change G _ _ _ _
  refine p_block 0 (by kernel_rfl) ?_
  refine p_loopE (by kernel_rfl) (fun s m => ∃ (i : Nat) (u : Rec), (1 ≤ i) ∧ (i ≤ l.length) ∧ (u ∈ l) ∧ (∀ (j : Nat) (x : Rec), j < i → l[j]? = some x → ¬ cmpLast x u < 0) ∧ Ge s ⟨[], [(0, .slice (some ⟨b, off, none⟩) l.length c), (1, .func (.func 81) #[] #[]), (4, .pointer (some ⟨b4, 0, none⟩)), (5, .pointer (some ⟨b5, 0, none⟩)), (6, .int .i64 i)], (b5, .cells u.c 69 (0, 0)) :: (b4, .cells zeroR.c 69 (0, 0)) :: M⟩ ∧ m = l.length + 1 - i) ?_ ?_
  · exact ⟨_, ⟨1, r0, by omega, by omega, List.mem_of_getElem? hr0, fun j x hj hx => by have : j = 0 := (by omega); subst this; rw [hr0] at hx; cases hx; exact of_decide_eq_false (swo_last.irrefl r0), ⟨rfl, ⟨[0, 1, 4, 5, 6], rfl⟩, .auto⟩, rfl⟩⟩
  rintro s m ⟨i, u, hi1, hi2, hu, hmin, hs, rfl⟩
  refine ge_ok hs ?_
  refine p_seq0 ?_
  refine p_seq0 ?_
  refine p_plain0 (0 :: 1 :: 2 :: 3 :: []) ?_
  refine go_q0 14 (.move (.tmp 6)) 3 (qv_move rfl) ?_
  refine go_q0 15 (.move (.tmp 0)) 55 (qv_move rfl) ?_
  refine go_q0 16 (.call { callee := .builtin .len, args := #[.tmp 15], argTypes := #[55] }) 3 (qv_lenS un55 rfl) ?_
  refine go_q0 17 (.binOp .lss 3 (.tmp 14) (.tmp 16) 3) 4 (qv_lss rfl rfl rfl) ?_
  refine go_nil ?_
  change G _ _ _ _
  refine p_weaken [0, 1, 4, 5, 6, 17] rfl ?_
  refine p_cond (.tmp 17) (by kernel_rfl) rfl (fun h17 => ?_) (fun h17 => ?_)
  rotate_left
  · replace h17 := kn h17
    refine p_exit 0 (by kernel_rfl) ?_
    change G _ _ _ _
    refine p_weaken [4, 5] rfl ?_
    refine p_seq0 ?_
    refine p_plain0 (0 :: 1 :: []) ?_
    refine go_q0 32 (.load 69 (.tmp 5)) 69 (qv_load rfl .auto (ldv_agg agg69 (extw_Rec _) (Nat.le_of_ble_eq_true rfl))) ?_
    refine go_s0 none (.store 69 (.tmp 4) (.tmp 32)) 0 ?_
    refine os_store rfl rfl sz69 rfl (one_Rec _) .auto (Nat.le_of_ble_eq_true rfl) (splw_Rec _ _ (siz_Rec _)) ?_
    refine go_nil ?_
    change G _ _ _ _
    refine p_weaken [4] rfl ?_
    refine p_ret0 ?_
    try dsimp only [thenQ, inBlockQ]
    try rw [if_pos rfl]
    refine ret_left (M) (.inr rfl) (.cons (res_cell rfl (At.mem .auto) (ldv_agg agg69 (extw_Rec _) (Nat.le_of_ble_eq_true rfl))) .nil) .auto ?_
    have hie : i = l.length := by omega
    subst hie
    exact ⟨u, rfl, hu, fun x hx => by obtain ⟨j, hj, rfl⟩ := List.getElem_of_mem hx; exact hmin j _ hj (List.getElem?_eq_getElem hj), rfl⟩
  replace h17 := kn h17
  refine p_skip0 ?_
  change G _ _ _ _
  refine p_weaken [0, 1, 4, 5, 6] rfl ?_
  refine p_seq0 ?_
  refine p_block 1 (by kernel_rfl) ?_
  refine p_seq0 ?_
  obtain ⟨x, hx⟩ : ∃ x, l[i]? = some x := ⟨_, List.getElem?_eq_getElem (by omega)⟩
  have hxm := List.mem_of_getElem? hx
  refine p_draw (by kernel_rfl) mixed 8 8 _ (fun _ h => h) (by kernel_rfl) ?_
  refine gd_q (i := 0) (d := 20) (op := .move (.tmp 1)) (ty := 111) (g := none) (by kernel_rfl) trivial rfl (by kernel_rfl) (by kernel_rfl) (by kernel_rfl) (by kernel_rfl) (qv_move rfl) ?_
  refine gd_q (i := 1) (d := 21) (op := .move (.tmp 0)) (ty := 55) (g := none) (by kernel_rfl) trivial rfl (by kernel_rfl) (by kernel_rfl) (by kernel_rfl) (by kernel_rfl) (qv_move rfl) ?_
  refine gd_q (i := 2) (d := 22) (op := .move (.tmp 6)) (ty := 3) (g := none) (by kernel_rfl) trivial rfl (by kernel_rfl) (by kernel_rfl) (by kernel_rfl) (by kernel_rfl) (qv_move rfl) ?_
  refine gd_q (i := 3) (d := 23) (op := .indexAddr 55 (.tmp 21) (.tmp 22)) (ty := 0) (g := none) (by kernel_rfl) trivial rfl (by kernel_rfl) (by kernel_rfl) (by kernel_rfl) (by kernel_rfl) (qv_index un55 sz69 rfl rfl rfl (by omega)) ?_
  refine gd_q (i := 4) (d := 24) (op := .load 69 (.tmp 23)) (ty := 69) (g := none) (by kernel_rfl) trivial rfl (by kernel_rfl) (by kernel_rfl) (by kernel_rfl) (by kernel_rfl) (qv_load rfl (At.of_mem (by repeat first | exact mm | exact List.mem_append_left _ mm | apply List.mem_cons_of_mem | apply List.mem_append_right)) (ldv_els H hx (by decide) agg69 rfl)) ?_
  refine gd_q (i := 5) (d := 25) (op := .load 69 (.tmp 5)) (ty := 69) (g := none) (by kernel_rfl) trivial rfl (by kernel_rfl) (by kernel_rfl) (by kernel_rfl) (by kernel_rfl) (qv_load rfl .auto (ldv_agg agg69 (extw_Rec _) (Nat.le_of_ble_eq_true rfl))) ?_
  refine gd_one (i := 6) (d := some 26) (op := .call { callee := .value (.tmp 20), args := #[.tmp 24, .tmp 25], argTypes := #[69, 69] }) (ty := 3) (g := none) (by kernel_rfl) trivial rfl (by kernel_rfl) ?_
  refine os_callV (Nat.le_of_ble_eq_true rfl) rfl en81 rfl rfl .auto ((pu_beginCmp (hw x hxm) (hw u hu) : Ct _ _ _ _ _)) ?_
  rintro v26 A26 ⟨rfl, rfl⟩
  try dsimp only [List.nil_append, List.cons_append]
  try dsimp only [List.nil_append]
  refine ⟨fun _ h => by first | exact h | (cases h; done) | exact .tail _ h | exact .tail _ (.tail _ h) | exact List.mem_append_right _ (List.mem_append_right _ h) | exact List.mem_append_right _ h | (simp only [List.mem_cons, List.not_mem_nil, or_false] at h ⊢; first | exact .inl h | exact .inr (.inl h) | exact .inr (.inr (.inl h)) | exact .inr (.inr (.inr (.inl h))) | (subst h; simp; done) | grind), ?_⟩
  refine gd_q (i := 7) (d := 27) (op := .binOp .lss 3 (.tmp 26) (.const (.int .i64 0)) 3) (ty := 4) (g := none) (by kernel_rfl) trivial rfl (by kernel_rfl) (by kernel_rfl) (by kernel_rfl) (by kernel_rfl) (qv_lss rfl rfl rfl) ?_
  refine gd_tail [] rfl (by kernel_rfl) (by kernel_rfl) ?_
  refine go_nil ?_
  change G _ _ _ _
  refine p_weaken [0, 1, 4, 5, 6, 27] rfl ?_
  refine p_cond (.tmp 27) (by kernel_rfl) rfl (fun h27 => ?_) (fun h27 => ?_)
  rotate_left
  · replace h27 := kn h27
    have hun := hu
    have hminn := min_stay hx hmin h27
    refine p_skip0 ?_
    change G _ _ _ _
    refine p_weaken [0, 1, 4, 5, 6] rfl ?_
    refine p_plain0 (0 :: 1 :: 2 :: []) ?_
    refine go_q0 18 (.move (.tmp 6)) 3 (qv_move rfl) ?_
    refine go_q0 19 (.binOp .add 3 (.tmp 18) (.const (.int .i64 1)) 3) 3 (qv_add rfl rfl (by first | exact IntWalk.i64_in _ (by omega) | exact IntWalk.i64_in _ (by dsimp only; omega) | rfl)) ?_
    refine go_q0 6 (.assign (.tmp 19)) 3 (qv_assign rfl) ?_
    refine go_nil ?_
    exact ⟨_, ⟨i + 1, _, by omega, by omega, hun, hminn, ⟨rfl, ⟨[0, 1, 4, 5, 6], rfl⟩, .auto⟩, rfl⟩, by omega⟩
  replace h27 := kn h27
  have hun := hxm
  have hminn := min_step hx hmin h27
  refine p_plain0 (0 :: 1 :: 2 :: 3 :: 4 :: []) ?_
  refine go_q0 28 (.move (.tmp 0)) 55 (qv_move rfl) ?_
  refine go_q0 29 (.move (.tmp 6)) 3 (qv_move rfl) ?_
  refine go_q0 30 (.indexAddr 55 (.tmp 28) (.tmp 29)) 0 (qv_index un55 sz69 rfl rfl rfl (by omega)) ?_
  refine go_q0 31 (.load 69 (.tmp 30)) 69 (qv_load rfl (At.of_mem (by repeat first | exact mm | exact List.mem_append_left _ mm | apply List.mem_cons_of_mem | apply List.mem_append_right)) (ldv_els H hx (by decide) agg69 rfl)) ?_
  refine go_s0 none (.store 69 (.tmp 5) (.tmp 31)) 0 ?_
  refine os_store rfl rfl sz69 rfl (one_Rec _) .auto (Nat.le_of_ble_eq_true rfl) (splw_Rec _ _ (siz_Rec _)) ?_
  refine go_nil ?_
  change G _ _ _ _
  refine p_weaken [0, 1, 4, 5, 6] rfl ?_
  refine p_plain0 (0 :: 1 :: 2 :: []) ?_
  refine go_q0 18 (.move (.tmp 6)) 3 (qv_move rfl) ?_
  refine go_q0 19 (.binOp .add 3 (.tmp 18) (.const (.int .i64 1)) 3) 3 (qv_add rfl rfl (by first | exact IntWalk.i64_in _ (by omega) | exact IntWalk.i64_in _ (by dsimp only; omega) | rfl)) ?_
  refine go_q0 6 (.assign (.tmp 19)) 3 (qv_assign rfl) ?_
  refine go_nil ?_
  exact ⟨_, ⟨i + 1, _, by omega, by omega, hun, hminn, ⟨rfl, ⟨[0, 1, 4, 5, 6], rfl⟩, .auto⟩, rfl⟩, by omega⟩
theorem pu_insert0R (f : Value) : Pu Tryz.prog 95 [.slice none 0 0, .int .i64 0, .int .i64 0, f] (.tuple #[]) := by
  refine ct_body (rv := []) [(0, _), (1, _), (2, _), (3, _)] Tryz.func95 (by kernel_rfl) Tryz.ntmps95 Tryz.results95 rfl rfl (fun w0 => ?_)
  refine p_seq0 ?_
  refine p_plain0 (0 :: 1 :: 2 :: []) ?_
  refine go_q0 10 (.move (.tmp 1)) 3 (qv_move rfl) ?_
  refine go_q0 11 (.binOp .add 3 (.tmp 10) (.const (.int .i64 1)) 3) 3 (qv_add rfl rfl (by first | exact IntWalk.i64_in _ (by omega) | exact IntWalk.i64_in _ (by dsimp only; omega) | rfl)) ?_
  refine go_q0 8 (.assign (.tmp 11)) 3 (qv_assign rfl) ?_
  refine go_nil ?_
  change G _ _ _ _
  refine p_weaken [0, 1, 2, 3, 8] rfl ?_
  refine p_block 0 (by kernel_rfl) ?_
  refine p_loopE (by kernel_rfl) (fun s m => Ge s ⟨[], [(2, .int .i64 0), (8, .int .i64 1)], []⟩ ∧ m = 0) ?_ ?_
  · exact ⟨_, ⟨⟨rfl, ⟨[2, 8], rfl⟩, .auto⟩, rfl⟩⟩
  rintro s m ⟨hs, rfl⟩
  refine ge_ok hs ?_
  refine p_seq0 ?_
  refine p_seq0 ?_
  refine p_plain0 (0 :: 1 :: 2 :: []) ?_
  refine go_q0 12 (.move (.tmp 8)) 3 (qv_move rfl) ?_
  refine go_q0 13 (.move (.tmp 2)) 3 (qv_move rfl) ?_
  refine go_q0 14 (.binOp .lss 3 (.tmp 12) (.tmp 13) 3) 4 (qv_lss (b := false) rfl rfl (decide_eq_false (by omega))) ?_
  refine go_nil ?_
  change G _ _ _ _
  refine p_weaken [2, 8, 14] rfl ?_
  refine p_condF (.tmp 14) (by kernel_rfl) rfl ?_
  refine p_exit 0 (by kernel_rfl) ?_
  try dsimp only [thenQ, inBlockQ]
  try rw [if_pos rfl]
  refine ret_now (.inl rfl) .nil (by repeat constructor) ?_
  exact ⟨rfl, rfl⟩
theorem pu_pdq0R (f : Value) (lim : Int) : Pu Tryz.prog 75 [.slice none 0 0, .int .i64 0, .int .i64 0, .int .i64 lim, f] (.tuple #[]) := by
  refine ct_body (rv := []) [(0, _), (1, _), (2, _), (3, _), (4, _)] Tryz.func75 (by kernel_rfl) Tryz.ntmps75 Tryz.results75 rfl rfl (fun w0 => ?_)
  refine p_seq0 ?_
  refine p_plain0 (0 :: []) ?_
  refine go_q0 10 (.assign (.const (.bool true))) 4 (qv_assign rfl) ?_
  refine go_nil ?_
  change G _ _ _ _
  refine p_seq0 ?_
  refine p_plain0 (0 :: []) ?_
  refine go_q0 11 (.assign (.const (.bool true))) 4 (qv_assign rfl) ?_
  refine go_nil ?_
  change G _ _ _ _
  refine p_block 0 (by kernel_rfl) ?_
  refine p_loopE (by kernel_rfl) (fun s m => Ge s ⟨[], [(0, .slice none 0 0), (1, .int .i64 0), (2, .int .i64 0), (4, f)], []⟩ ∧ m = 0) ?_ ?_
  · exact ⟨_, ⟨⟨rfl, ⟨[0, 1, 2, 4], rfl⟩, .auto⟩, rfl⟩⟩
  rintro s m ⟨hs, rfl⟩
  refine ge_ok hs ?_
  refine p_block 1 (by kernel_rfl) ?_
  refine p_seq0 ?_
  refine p_plain0 (0 :: 1 :: 2 :: 3 :: []) ?_
  refine go_q0 21 (.move (.tmp 2)) 3 (qv_move rfl) ?_
  refine go_q0 22 (.move (.tmp 1)) 3 (qv_move rfl) ?_
  refine go_q0 23 (.binOp .sub 3 (.tmp 21) (.tmp 22) 3) 3 (qv_sub rfl rfl (by first | exact IntWalk.i64_in _ (by omega) | exact IntWalk.i64_in _ (by dsimp only; omega) | rfl)) ?_
  refine go_q0 12 (.assign (.tmp 23)) 3 (qv_assign rfl) ?_
  refine go_nil ?_
  change G _ _ _ _
  refine p_weaken [0, 1, 2, 4, 12] rfl ?_
  refine p_seq0 ?_
  refine p_seq0 ?_
  refine p_plain0 (0 :: 1 :: []) ?_
  refine go_q0 24 (.move (.tmp 12)) 3 (qv_move rfl) ?_
  refine go_q0 25 (.binOp .leq 3 (.tmp 24) (.const (.int .i64 12)) 3) 4 (qv_leq (b := true) rfl rfl (decide_eq_true (by omega))) ?_
  refine go_nil ?_
  change G _ _ _ _
  refine p_weaken [0, 1, 2, 4, 12, 25] rfl ?_
  refine p_condT (.tmp 25) (by kernel_rfl) rfl ?_
  refine p_seq0 ?_
  refine p_plain0 (0 :: 1 :: 2 :: 3 :: 4 :: []) ?_
  refine go_q0 26 (.move (.tmp 0)) 55 (qv_move rfl) ?_
  refine go_q0 27 (.move (.tmp 1)) 3 (qv_move rfl) ?_
  refine go_q0 28 (.move (.tmp 2)) 3 (qv_move rfl) ?_
  refine go_q0 29 (.move (.tmp 4)) 111 (qv_move rfl) ?_
  refine go_s0 (some 30) (.call { callee := .value (.func 95), args := #[.tmp 26, .tmp 27, .tmp 28, .tmp 29], argTypes := #[55, 3, 3, 111] }) 0 ?_
  refine os_callP rfl en95 rfl (pu_insert0R f) ?_
  refine go_nil ?_
  change G _ _ _ _
  refine p_weaken [0, 1, 2, 4, 12] rfl ?_
  refine p_ret0 ?_
  try dsimp only [thenQ, inBlockQ]
  try rw [if_pos rfl]
  refine ret_now (.inr rfl) .nil (by repeat constructor) ?_
  exact ⟨rfl, rfl⟩
theorem pu_Sort0R (f : Value) : Pu Tryz.prog 45 [.slice none 0 0, f] (.tuple #[]) := by
  refine ct_body (rv := []) [(0, _), (1, _)] Tryz.func45 (by kernel_rfl) Tryz.ntmps45 Tryz.results45 rfl rfl (fun w0 => ?_)
  refine p_seq0 ?_
  refine p_plain0 (0 :: 1 :: 2 :: []) ?_
  refine go_q0 5 (.move (.tmp 0)) 55 (qv_move rfl) ?_
  refine go_q0 6 (.call { callee := .builtin .len, args := #[.tmp 5], argTypes := #[55] }) 3 (qv_lenS un55 rfl) ?_
  refine go_q0 4 (.assign (.tmp 6)) 3 (qv_assign rfl) ?_
  refine go_nil ?_
  change G _ _ _ _
  refine p_weaken [0, 1, 4] rfl ?_
  refine p_plain0 (0 :: 1 :: 2 :: 3 :: 4 :: 5 :: 6 :: []) ?_
  refine go_q0 7 (.move (.tmp 0)) 55 (qv_move rfl) ?_
  refine go_q0 8 (.move (.tmp 4)) 3 (qv_move rfl) ?_
  refine go_q0 9 (.move (.tmp 4)) 3 (qv_move rfl) ?_
  refine go_q0 10 (.convert 3 82 (.tmp 9)) 82 (qv_conv un3 un82 rfl (by first | exact IntWalk.u64_in _ (by omega) | rfl)) ?_
  refine go_s0 (some 11) (.call { callee := .value (.func 32), args := #[.tmp 10], argTypes := #[82] }) 3 ?_
  refine os_callP rfl en32 rfl (pu_bitsLen0) ?_
  refine go_q0 12 (.move (.tmp 1)) 111 (qv_move rfl) ?_
  refine go_s0 (some 13) (.call { callee := .value (.func 75), args := #[.tmp 7, .const (.int .i64 0), .tmp 8, .tmp 11, .tmp 12], argTypes := #[55, 3, 3, 3, 111] }) 0 ?_
  refine os_callP rfl en75 rfl (pu_pdq0R f 0) ?_
  refine go_nil ?_
  try dsimp only [thenQ, inBlockQ]
  try rw [if_pos rfl]
  refine ret_now (.inl rfl) .nil (by repeat constructor) ?_
  exact ⟨rfl, rfl⟩
theorem ct_SortRecO (cf : Rec → Rec → Int) (hO : Go.Sort.SWO (fun x y : {r : Rec // r.Wf} => decide (cf x.1 y.1 < 0))) {g : FuncId} {cb : List Value} {A : Mem} (hg : Ent Tryz.prog g)
    (hc : ∀ x y : Rec, x.Wf → y.Wf → Ct Tryz.prog g ([Value.agg (eRec.c x), Value.agg (eRec.c y)] ++ cb).toArray A (fun v A' => v = .int .i64 (cf x y) ∧ A' = A)) {p : Option Addr} {cap : Nat} {l : List Rec} {A0 : Mem} (h : OwnL eRec 69 p cap l A0) (hw : ∀ r ∈ l, r.Wf) (hm : l.length ≤ 1000000) :
    Ct Tryz.prog 45 [.slice p l.length cap, .func (.func g) #[] cb.toArray].toArray (A0 ++ A) (fun v M' => v = .tuple #[] ∧ ∃ l' A1, l'.Perm l ∧ l'.Pairwise (fun x y => ¬ cf y x < 0) ∧ OwnL eRec 69 p cap l' A1 ∧ M' = A1 ++ A) := by
  rcases h.cases with ⟨rfl, rfl, rfl, rfl⟩ | ⟨b, cur, rfl, rfl, h1, h2, h3, H⟩
  · exact (Pu.any (pu_Sort0R _) : Ct _ _ _ _ _).mono fun v M' ⟨hv, hM⟩ => ⟨hv, [], [], List.Perm.refl _, List.Pairwise.nil, OwnL.nil, hM⟩
  · refine (ct_sortP (E := eRec) (W := Rec.Wf) laySortRec (by decide) ⟨zeroR, zeroR_wf⟩ Tryz.isAgg69 Tryz.sizeOf69 one_Rec cf hO hg hc hw H (by omega)).mono ?_
    rintro v M' ⟨hv, l', cur', hp, hs, hh, hz, rfl⟩
    exact ⟨hv, l', _, hp, hs, E_flat_own hp.length_eq h1 h2 (by rw [hz, h3]) hh, rfl⟩
end Go.Proofs.YtobmcpoejhhemaaGreat

namespace Go.Proofs.YtobmcpoejhhemaaGreat
open Go.E

section
variable {bd : Bnd} {n : Nat} {L : List Slot} {fl : List Rec}
theorem CacI.inj (h : CacI bd n L fl) {i j : Nat} {a b : Rec} (ha : fl[i]? = some a) (hb : fl[j]? = some b) (hk : a.key = b.key) : i = j := by
  have h1 := keysOf_at ha
  have h2 := keysOf_at hb
  rw [hk] at h1
  exact h.kp.inj i j b.key h1 h2
theorem CacI.mem_out (h : CacI bd n L fl) {i : Nat} {r : Rec} (hi : fl[i]? = some r) (x : Rec) : x ∈ swapOut fl i ↔ x ∈ fl ∧ x.key ≠ r.key := by
  have hil := (List.getElem?_eq_some_iff.1 hi).1
  constructor
  · intro hx
    obtain ⟨q, hq, rfl⟩ := List.getElem_of_mem hx
    obtain ⟨q', h1, h2, h3, _⟩ := swapOut_of hil q _ (List.getElem?_eq_getElem hq)
    exact ⟨List.mem_of_getElem? h3, fun e => h2 (h.inj h3 hi e)⟩
  · rintro ⟨hx, hne⟩
    obtain ⟨q, hq, rfl⟩ := List.getElem_of_mem hx
    exact swapOut_mem hil q (fun e => hne (by subst e; rw [List.getElem?_eq_getElem hq] at hi; rw [Option.some.inj hi])) _ (List.getElem?_eq_getElem hq)
end
/-- What is told of flows that end. -/
def told (re : Rec → Int) (l : List Rec) : List Rec := l.map fun r => { r with reason := re r }

theorem not_taken {l : List Rec} (hd : l.Pairwise fun a b => a.key ≠ b.key) {i : Nat} {x : Rec} (hx : l[i]? = some x) : x.key ∉ keysOf (l.take i) := by
  intro hm
  obtain ⟨y, hy, hk⟩ := List.mem_map.1 hm
  obtain ⟨q, hq, rfl⟩ := List.getElem_of_mem hy
  have hqi : q < i := by simp at hq; omega
  obtain ⟨hil, rfl⟩ := List.getElem?_eq_some_iff.1 hx
  rw [List.pairwise_iff_getElem] at hd
  refine hd q i (by omega) hil hqi ?_
  rw [← hk]; simp
theorem ends_mem {fl fl1 fl2 l : List Rec} {i : Nat} {x : Rec} (hmem : ∀ y, y ∈ fl1 ↔ y ∈ fl ∧ y.key ∉ keysOf (l.take i)) (hmo : ∀ y, y ∈ fl2 ↔ y ∈ fl1 ∧ y.key ≠ x.key) (hx : l[i]? = some x) : ∀ y, y ∈ fl2 ↔ y ∈ fl ∧ y.key ∉ keysOf (l.take (i + 1)) := by
  intro y
  rw [hmo, hmem, List.take_add_one, hx]
  unfold keysOf
  simp only [Option.toList_some, List.map_append, List.map_cons, List.map_nil, List.mem_append, List.mem_singleton, not_or]
  exact ⟨fun ⟨⟨a, b⟩, c⟩ => ⟨a, b, c⟩, fun ⟨a, b, c⟩ => ⟨⟨a, b⟩, c⟩⟩
theorem ct_ends {bc : Nat} {tick : Int} {bd : Bnd} {fl l : List Rec} {M Ag Al : Mem} {g : FuncId} {cb : List Value} {p : Option Addr} {c : Nat} (re : Rec → Int) (hg : Ent Tryz.prog g) (hM : CacM bc tick bd fl M) (hl : Lst eRec p l Al) (hm : l.length ≤ 4096)
    (hre : ∀ r ∈ l, ∀ (bt : Nat) (pf : Option Addr) (nf cf : Nat), Ct Tryz.prog g ([Value.agg r.c] ++ cb).toArray (cacO bc tick bd bt pf nf cf :: Ag) (fun v M' => v = .int .u8 (re r) ∧ M' = cacO bc tick bd bt pf nf cf :: Ag))
    (hin : ∀ r ∈ l, r ∈ fl) (hd : l.Pairwise fun a b => a.key ≠ b.key) :
    Ct Tryz.prog 42 [.pointer (some ⟨bc, 0, none⟩), .func (.func g) #[] cb.toArray, .slice p l.length c].toArray (M ++ (Ag ++ Al)) (fun v M' => ∃ fl' q cq B M1, (∀ x, x ∈ fl' ↔ x ∈ fl ∧ x.key ∉ keysOf l) ∧ v = .slice q (told re l).length cq ∧ OwnL eRec 69 q cq (told re l) B ∧ CacM bc tick bd fl' M1 ∧ M' = B ++ (M1 ++ (Ag ++ Al))) := by
  refine ct_body (rv := [.tmp 6]) [(0, _), (1, _), (2, _)] Tryz.func42 (by kernel_rfl) Tryz.ntmps42 Tryz.results42 rfl rfl (fun w0 => ?_)
  refine p_seq0 ?_
  refine p_plain0 (0 :: []) ?_
  refine go_q0 6 (.assign (.const (.slice none 0 0))) 55 (qv_assign rfl) ?_
  refine go_nil ?_
  change G _ _ _ _
  refine p_seq0 ?_
  refine p_seq0 ?_
  refine p_plain0 (0 :: 1 :: 2 :: []) ?_
  refine go_q0 9 (.move (.tmp 2)) 55 (qv_move rfl) ?_
  refine go_q0 10 (.call { callee := .builtin .len, args := #[.tmp 9], argTypes := #[55] }) 3 (qv_lenS un55 rfl) ?_
  refine go_q0 11 (.move (.const (.int .i64 0))) 3 (qv_move rfl) ?_
  refine go_nil ?_
  change G _ _ _ _
  refine p_weaken [0, 1, 6, 9, 10, 11] rfl ?_
  refine p_block 0 (by kernel_rfl) ?_
  refine p_loopE (by kernel_rfl) (fun s m => ∃ (i : Nat) (fl1 : List Rec) (out : List Rec) (q : Option Addr) (cq : Nat) (B : Mem) (M1 : Mem), (i ≤ l.length) ∧ (∀ x, x ∈ fl1 ↔ x ∈ fl ∧ x.key ∉ keysOf (l.take i)) ∧ (out = told re (l.take i)) ∧ (OwnL eRec 69 q cq out B) ∧ (CacM bc tick bd fl1 M1) ∧ Ge s ⟨[], [(0, .pointer (some ⟨bc, 0, none⟩)), (1, .func (.func g) #[] cb.toArray), (6, .slice q out.length cq), (9, .slice p l.length c), (10, .int .i64 l.length), (11, .int .i64 i)], B ++ (M1 ++ (Ag ++ Al))⟩ ∧ m = l.length + 1 - i) ?_ ?_
  · exact ⟨_, ⟨0, fl, [], none, 0, [], M, by omega, fun x => by simp [keysOf], rfl, OwnL.nil, hM, ⟨rfl, ⟨[0, 1, 6, 9, 10, 11], rfl⟩, .auto⟩, rfl⟩⟩
  rintro s m ⟨i, fl1, out, q, cq, B, M1, hi, hmem, hout, hB, hM1, hs, rfl⟩
  refine ge_ok hs ?_
  refine p_seq0 ?_
  refine p_plain0 (0 :: []) ?_
  refine go_q0 12 (.binOp .lss 3 (.tmp 11) (.tmp 10) 3) 0 (qv_lss rfl rfl rfl) ?_
  refine go_nil ?_
  change G _ _ _ _
  refine p_seq0 ?_
  refine p_cond (.tmp 12) (by kernel_rfl) rfl (fun h12 => ?_) (fun h12 => ?_)
  rotate_left
  · replace h12 := kn h12
    refine p_exit 0 (by kernel_rfl) ?_
    change G _ _ _ _
    refine p_weaken [6] rfl ?_
    refine p_seq0 ?_
    refine p_plain0 (0 :: 1 :: []) ?_
    refine go_q0 26 (.move (.tmp 6)) 55 (qv_move rfl) ?_
    refine go_q0 6 (.assign (.tmp 26)) 55 (qv_assign rfl) ?_
    refine go_nil ?_
    change G _ _ _ _
    refine p_weaken [6] rfl ?_
    refine p_ret0 ?_
    try dsimp only [thenQ, inBlockQ]
    try rw [if_pos rfl]
    have hie : i = l.length := by omega
    subst hie
    rw [List.take_length] at hmem hout
    subst hout
    refine ret_left (B ++ (M1 ++ (Ag ++ Al))) (.inr rfl) (.cons (res_tmp rfl) .nil) .auto ?_
    exact ⟨fl1, q, cq, B, M1, hmem, rfl, hB, hM1, rfl⟩
  replace h12 := kn h12
  refine p_skip0 ?_
  change G _ _ _ _
  refine p_weaken [0, 1, 6, 9, 10, 11] rfl ?_
  refine p_seq0 ?_
  refine p_block 1 (by kernel_rfl) ?_
  refine p_seq0 ?_
  obtain ⟨bl, ol, cl, el, fe, hpe, ml, Hl⟩ := hl.at_ (i := i) (by omega)
  subst hpe
  obtain ⟨x, hx⟩ : ∃ x, l[i]? = some x := ⟨_, List.getElem?_eq_getElem (by omega)⟩
  have hxl := List.mem_of_getElem? hx
  have hx1 : x ∈ fl1 := (hmem x).2 ⟨hin x hxl, not_taken hd hx⟩
  obtain ⟨j, hjl, hje⟩ := List.getElem_of_mem hx1
  have hj : fl1[j]? = some x := by rw [List.getElem?_eq_getElem hjl, hje]
  have hol : out.length = i := by rw [hout]; unfold told; simp; omega
  have hE := ct_end (re x) hM1 hj
  obtain ⟨bt, bs, n, L, pf, cf, Af, hI, hO, rfl⟩ := hM1
  have hmo := hI.mem_out hj
  refine p_plain0 (0 :: 1 :: 2 :: 3 :: []) ?_
  refine go_q0 13 (.indexAddr 55 (.tmp 9) (.tmp 11)) 0 (qv_index un55 sz69 rfl rfl rfl (by omega)) ?_
  refine go_q0 14 (.load 69 (.tmp 13)) 69 (qv_load rfl (by repeat first | exact At.of_mem (List.mem_append_right _ (List.mem_append_right _ (List.mem_append_right _ ml))) | apply At.next) (ldv_els Hl hx (by decide) agg69 rfl)) ?_
  refine go_s0 (some 8) (.alloc 69) 0 ?_
  refine os_allocA rfl ze69 (fun b8 => ?_)
  refine go_s0 none (.store 69 (.tmp 8) (.tmp 14)) 0 ?_
  refine os_store rfl rfl sz69 rfl (one_Rec _) .auto (Nat.le_of_ble_eq_true rfl) (splw_Rec _ _ (siz_Rec _)) ?_
  refine go_nil ?_
  change G _ _ _ _
  refine p_weaken [0, 1, 6, 8, 9, 10, 11] rfl ?_
  refine p_draw (by kernel_rfl) mixed 10 11 [(b8, .cells x.c 69 (0, 0))] (by first | (simp; done) | (intro q hq; simp [hq]; done)) (by kernel_rfl) ?_
  refine gd_q (i := 0) (d := 15) (op := .move (.tmp 6)) (ty := 55) (g := none) (by kernel_rfl) trivial rfl (by kernel_rfl) (by kernel_rfl) (by kernel_rfl) (by kernel_rfl) (qv_move rfl) ?_
  refine gd_q (i := 1) (d := 16) (op := .move (.tmp 0)) (ty := 43) (g := none) (by kernel_rfl) trivial rfl (by kernel_rfl) (by kernel_rfl) (by kernel_rfl) (by kernel_rfl) (qv_move rfl) ?_
  refine gd_q (i := 2) (d := 17) (op := .fieldAddr 69 (.tmp 8) 0) (ty := 0) (g := none) (by kernel_rfl) trivial rfl (by kernel_rfl) (by kernel_rfl) (by kernel_rfl) (by kernel_rfl) (qv_field rfl fd69_0) ?_
  refine gd_q (i := 3) (d := 18) (op := .load 29 (.tmp 17)) (ty := 29) (g := none) (by kernel_rfl) trivial rfl (by kernel_rfl) (by kernel_rfl) (by kernel_rfl) (by kernel_rfl) (qv_load rfl .auto (ldv_agg agg29 (ext_Rec_0_37 _) (Nat.le_of_ble_eq_true rfl))) ?_
  refine gd_q (i := 4) (d := 19) (op := .move (.tmp 1)) (ty := 106) (g := none) (by kernel_rfl) trivial rfl (by kernel_rfl) (by kernel_rfl) (by kernel_rfl) (by kernel_rfl) (qv_move rfl) ?_
  refine gd_q (i := 5) (d := 20) (op := .load 69 (.tmp 8)) (ty := 69) (g := none) (by kernel_rfl) trivial rfl (by kernel_rfl) (by kernel_rfl) (by kernel_rfl) (by kernel_rfl) (qv_load rfl .auto (ldv_agg agg69 (extw_Rec _) (Nat.le_of_ble_eq_true rfl))) ?_
  refine gd_one (i := 6) (d := some 21) (op := .call { callee := .value (.tmp 19), args := #[.tmp 20], argTypes := #[69] }) (ty := 5) (g := none) (by kernel_rfl) trivial rfl (by kernel_rfl) ?_
  refine os_callV (Nat.le_of_ble_eq_true rfl) rfl hg rfl rfl (Sel.skip (Sel.skipA (Sel.cons .here (Sel.skip (Sel.skip (Sel.skipA Sel.app)))))) (hre x hxl bt pf fl1.length cf) ?_
  rintro v21 A21 ⟨rfl, rfl⟩
  try dsimp only [List.nil_append, List.cons_append]
  try dsimp only [List.nil_append, List.cons_append]
  refine ⟨fun _ h => by first | exact h | (cases h; done) | exact .tail _ h | exact .tail _ (.tail _ h) | exact List.mem_append_right _ (List.mem_append_right _ h) | exact List.mem_append_right _ h | (simp only [List.mem_cons, List.not_mem_nil, or_false] at h ⊢; first | exact .inl h | exact .inr (.inl h) | exact .inr (.inr (.inl h)) | exact .inr (.inr (.inr (.inl h))) | (subst h; simp; done) | grind), ?_⟩
  refine gd_one (i := 7) (d := some 22) (op := .call { callee := .value (.func 59), args := #[.tmp 16, .tmp 18, .tmp 21], argTypes := #[43, 29, 5] }) (ty := 69) (g := none) (by kernel_rfl) trivial rfl (by kernel_rfl) ?_
  refine os_call (Nat.le_of_ble_eq_true rfl) en59 rfl (by exact .auto) (hE) ?_
  rintro v22 A22 ⟨rfl, hM2⟩
  try dsimp only [List.nil_append, List.cons_append]
  refine ⟨fun _ h => by first | exact h | (cases h; done) | exact .tail _ h | exact .tail _ (.tail _ h) | exact List.mem_append_right _ (List.mem_append_right _ h) | exact List.mem_append_right _ h | (simp only [List.mem_cons, List.not_mem_nil, or_false] at h ⊢; first | exact .inl h | exact .inr (.inl h) | exact .inr (.inr (.inl h)) | exact .inr (.inr (.inr (.inl h))) | (subst h; simp; done) | grind), ?_⟩
  refine gd_one (i := 8) (d := some 23) (op := .buildSlice 55 1 #[(0, .tmp 22)]) (ty := 55) (g := none) (by kernel_rfl) trivial rfl (by kernel_rfl) ?_
  refine os_buildSlice (Nat.le_of_ble_eq_true rfl) rfl (bls55_1 _) (fun b23 => ?_)
  refine ⟨fun _ h => by first | exact h | (cases h; done) | exact .tail _ h | exact .tail _ (.tail _ h) | exact List.mem_append_right _ (List.mem_append_right _ h) | exact List.mem_append_right _ h | (simp only [List.mem_cons, List.not_mem_nil, or_false] at h ⊢; first | exact .inl h | exact .inr (.inl h) | exact .inr (.inr (.inl h)) | exact .inr (.inr (.inr (.inl h))) | (subst h; simp; done) | grind), ?_⟩
  refine gd_one (i := 9) (d := some 24) (op := .call { callee := .builtin .append, args := #[.tmp 15, .tmp 23], argTypes := #[55, 55] }) (ty := 55) (g := none) (by kernel_rfl) trivial rfl (by kernel_rfl) ?_
  refine os_appendK (E := eRec) (l := out) (l2 := [{ x with reason := re x }]) rfl el55 rfl rfl rfl rfl (hB) .auto .auto (Go.E.holds_one _) (one_Rec) (by simp [maxLen] <;> omega) (by simp <;> omega) (fun p24 c24 A24 h24 => ?_)
  have hout2 : out ++ [{ x with reason := re x }] = told re (l.take (i + 1)) := by rw [hout, List.take_add_one, hx]; simp [told]
  have hmem2 := ends_mem hmem hmo hx
  refine ⟨fun _ h => by first | exact h | (cases h; done) | exact .tail _ h | exact .tail _ (.tail _ h) | exact List.mem_append_right _ (List.mem_append_right _ h) | exact List.mem_append_right _ h | (simp only [List.mem_cons, List.not_mem_nil, or_false] at h ⊢; first | exact .inl h | exact .inr (.inl h) | exact .inr (.inr (.inl h)) | exact .inr (.inr (.inr (.inl h))) | (subst h; simp; done) | grind), ?_⟩
  refine gd_tail [10] rfl (by kernel_rfl) (by kernel_rfl) ?_
  refine go_q0 6 (.assign (.tmp 24)) 55 (qv_assign rfl) ?_
  refine go_nil ?_
  change G _ _ _ _
  refine p_weaken [0, 1, 6, 9, 10, 11] rfl ?_
  refine p_plain0 (0 :: 1 :: []) ?_
  refine go_q0 25 (.binOp .add 3 (.tmp 11) (.const (.int .i64 1)) 3) 3 (qv_add rfl rfl (by first | exact IntWalk.i64_in _ (by omega) | exact IntWalk.i64_in _ (by dsimp only; omega) | rfl)) ?_
  refine go_q0 11 (.move (.tmp 25)) 3 (qv_move rfl) ?_
  refine go_nil ?_
  exact ⟨_, ⟨i + 1, _, _, _, _, _, _, by omega, hmem2, hout2, h24, hM2, ⟨rfl, ⟨[0, 1, 6, 9, 10, 11], rfl⟩, .auto⟩, rfl⟩, by omega⟩
end Go.Proofs.YtobmcpoejhhemaaGreat

namespace Go.Proofs.YtobmcpoejhhemaaGreat
open Go.E

theorem CacI.dist {bd : Bnd} {n : Nat} {L : List Slot} {fl : List Rec} (h : CacI bd n L fl) : fl.Pairwise fun a b => a.key ≠ b.key := by
  rw [List.pairwise_iff_getElem]
  intro i j hi hj hij hk
  have := h.inj (List.getElem?_eq_getElem hi) (List.getElem?_eq_getElem hj) hk
  omega
def dueBy (bd : Bnd) (tick : Int) (fl : List Rec) : List Rec := fl.filter fun r => decide (dueR bd r ≤ tick)
theorem dueBy_succ {bd : Bnd} {tick : Int} {fl : List Rec} {i : Nat} {x : Rec} (h : fl[i]? = some x) : dueBy bd tick (fl.take (i + 1)) = dueBy bd tick (fl.take i) ++ (if dueR bd x ≤ tick then [x] else []) := by
  unfold dueBy
  rw [List.take_add_one, h, List.filter_append]
  by_cases hd : dueR bd x ≤ tick <;> simp [hd]
theorem sub_perm {α : Type} [DecidableEq α] {l : List α} : ∀ {l' : List α}, l.Nodup → (∀ x ∈ l, x ∈ l') → ∃ r, l'.Perm (l ++ r) := by
  induction l with
  | nil => exact fun {l'} _ _ => ⟨l', .refl _⟩
  | cons a t ih =>
    intro l' hn hs
    obtain ⟨hn1, hn2⟩ := List.nodup_cons.1 hn
    obtain ⟨r, hr⟩ := ih (l' := l'.erase a) hn2 fun x hx => (List.mem_erase_of_ne (show x ≠ a from fun e => hn1 (by rw [← e]; exact hx))).2 (hs x (.tail _ hx))
    exact ⟨r, (List.perm_cons_erase (hs a (.head _))).trans (hr.cons a)⟩
theorem perm_iff {α : Type} [DecidableEq α] {l l' : List α} (h1 : l.Nodup) (h2 : l'.Nodup) (h : ∀ x, x ∈ l ↔ x ∈ l') : l.Perm l' := by
  obtain ⟨r, hr⟩ := sub_perm h1 fun x hx => (h x).1 hx
  obtain ⟨r', hr'⟩ := sub_perm h2 fun x hx => (h x).2 hx
  have e1 := hr.length_eq
  have e2 := hr'.length_eq
  simp only [List.length_append] at e1 e2
  have e3 : r = [] := List.length_eq_zero_iff.1 (by omega)
  rw [e3, List.append_nil] at hr
  exact hr.symm
theorem CacI.nodup {bd : Bnd} {n : Nat} {L : List Slot} {fl : List Rec} (h : CacI bd n L fl) : fl.Nodup := h.dist.imp fun {_ _} h e => h (congrArg Rec.key e)
theorem CacM.nodup {bc : Nat} {tick : Int} {bd : Bnd} {fl : List Rec} {M : Mem} (hM : CacM bc tick bd fl M) : fl.Nodup := by
  obtain ⟨_, _, _, _, _, _, _, hI, _⟩ := hM
  exact hI.nodup
theorem CacM.dist {bc : Nat} {tick : Int} {bd : Bnd} {fl : List Rec} {M : Mem} (hM : CacM bc tick bd fl M) : fl.Pairwise fun a b => a.key ≠ b.key := by
  obtain ⟨_, _, _, _, _, _, _, hI, _⟩ := hM
  exact hI.dist
/-- What an Advance does. -/
def AdvR (bd : Bnd) (tick : Int) (fl fl' out : List Rec) : Prop := ∃ srt : List Rec, srt.Perm (dueBy bd tick fl) ∧ srt.Pairwise (fun x y => ¬ cmpDue bd y x < 0) ∧ out = told (reasonR bd) srt ∧ fl'.Perm (fl.filter fun r => !decide (dueR bd r ≤ tick))
theorem adv_mem {bd : Bnd} {n : Nat} {L : List Slot} {fl srt : List Rec} {tick : Int} (hI : CacI bd n L fl) (hp : srt.Perm (dueBy bd tick fl)) {x : Rec} : (x ∈ fl ∧ x.key ∉ keysOf srt) ↔ (x ∈ fl ∧ ¬ dueR bd x ≤ tick) := by
  constructor
  · rintro ⟨hx, hk⟩
    exact ⟨hx, fun hd => hk (List.mem_map.2 ⟨x, hp.mem_iff.2 (List.mem_filter.2 ⟨hx, decide_eq_true hd⟩), rfl⟩)⟩
  · rintro ⟨hx, hd⟩
    refine ⟨hx, fun hk => ?_⟩
    obtain ⟨y, hy, he⟩ := List.mem_map.1 hk
    obtain ⟨hy1, hy2⟩ := List.mem_filter.1 (hp.mem_iff.1 hy)
    obtain ⟨i, hi, rfl⟩ := List.getElem_of_mem hx
    obtain ⟨j, hj, rfl⟩ := List.getElem_of_mem hy1
    have := hI.inj (List.getElem?_eq_getElem hj) (List.getElem?_eq_getElem hi) he
    subst this
    exact hd (of_decide_eq_true hy2)
theorem ct_AdvanceLow {bc : Nat} {tick tick' : Int} {bd : Bnd} {fl : List Rec} {M : Mem} (hM : CacM bc tick bd fl M) (ht : tick' < tick) :
    Ct Tryz.prog 18 [.pointer (some ⟨bc, 0, none⟩), .int .u64 tick'].toArray M (fun v M' => v = .slice none 0 0 ∧ M' = M) := by
  obtain ⟨bt, bs, n, L, pf, cf, Af, hI, hO, rfl⟩ := hM
  refine ct_body (rv := [.tmp 4]) [(0, _), (1, _)] Tryz.func18 (by kernel_rfl) Tryz.ntmps18 Tryz.results18 rfl rfl (fun w0 => ?_)
  refine p_seq0 ?_
  refine p_plain0 (0 :: 1 :: []) ?_
  refine go_s0 (some 2) (.box 43 (.tmp 0)) 0 ?_
  refine os_box1 rfl rfl rfl (fun b2 => ?_)
  refine go_q0 4 (.assign (.const (.slice none 0 0))) 55 (qv_assign rfl) ?_
  refine go_nil ?_
  change G _ _ _ _
  refine p_weaken [1, 2, 4] rfl ?_
  refine p_seq0 ?_
  refine p_seq0 ?_
  refine p_plain0 (0 :: 1 :: 2 :: 3 :: 4 :: 5 :: 6 :: 7 :: 8 :: 9 :: []) ?_
  refine go_q0 8 (.load 43 (.tmp 2)) 43 (qv_load rfl .auto (ldv_sca sc43 (get_one _))) ?_
  refine go_q0 9 (.binOp .eql 43 (.tmp 8) (.const (.pointer none)) 43) 4 (qv_eqlP un43 rfl) ?_
  refine go_q0 10 (.move (.tmp 9)) 4 (qv_move rfl) ?_
  refine go_q (d := 11) (op := .move (.tmp 1)) (ty := 23) (g := some (2, false)) (by kernel_rfl) ⟨10, by kernel_rfl, rfl⟩ rfl (qv_move rfl) ?_
  refine go_q (d := 12) (op := .load 43 (.tmp 2)) (ty := 43) (g := some (2, false)) (by kernel_rfl) ⟨10, by kernel_rfl, rfl⟩ rfl (qv_load rfl .auto (ldv_sca sc43 (get_one _))) ?_
  refine go_q (d := 13) (op := .nilCheck (.tmp 12)) (ty := 0) (g := some (2, false)) (by kernel_rfl) ⟨10, by kernel_rfl, rfl⟩ rfl (qv_nilCheck rfl) ?_
  refine go_q (d := 14) (op := .fieldAddr 84 (.tmp 13) 0) (ty := 0) (g := some (2, false)) (by kernel_rfl) ⟨10, by kernel_rfl, rfl⟩ rfl (qv_field rfl fd84_0) ?_
  refine go_q (d := 15) (op := .load 23 (.tmp 14)) (ty := 23) (g := some (2, false)) (by kernel_rfl) ⟨10, by kernel_rfl, rfl⟩ rfl (qv_load rfl .auto (ldv_sca sc23 (get_Cac_0 _))) ?_
  refine go_q (d := 16) (op := .binOp .lss 23 (.tmp 11) (.tmp 15) 23) (ty := 4) (g := some (2, false)) (by kernel_rfl) ⟨10, by kernel_rfl, rfl⟩ rfl (qv_lss (b := true) rfl rfl (decide_eq_true ht)) ?_
  refine go_q0 17 (.pick (.tmp 10) (.const (.bool true)) (.tmp 16)) 4 (qv_pick_f rfl rfl) ?_
  refine go_nil ?_
  change G _ _ _ _
  refine p_weaken [1, 2, 4, 17] rfl ?_
  refine p_condT (.tmp 17) (by kernel_rfl) rfl ?_
  refine p_seq0 ?_
  refine p_plain0 (0 :: []) ?_
  refine go_q0 4 (.assign (.const (.slice none 0 0))) 55 (qv_assign rfl) ?_
  refine go_nil ?_
  change G _ _ _ _
  refine p_weaken [1, 2, 4] rfl ?_
  refine p_ret0 ?_
  try dsimp only [thenQ, inBlockQ]
  try rw [if_pos rfl]
  refine ret_left (cacO bc tick bd bt pf fl.length cf :: tabO bt bs n fl.length :: slotO bs L :: Af) (.inr rfl) (.cons (res_tmp rfl) .nil) .auto ?_
  exact ⟨rfl, rfl⟩
theorem ct_Advance {bc : Nat} {tick tick' : Int} {bd : Bnd} {fl : List Rec} {M : Mem} (hM : CacM bc tick bd fl M) (ht : tick ≤ tick') :
    Ct Tryz.prog 18 [.pointer (some ⟨bc, 0, none⟩), .int .u64 tick'].toArray M (fun v M' => ∃ fl' out q cq B M1, AdvR bd tick' fl fl' out ∧ v = .slice q out.length cq ∧ OwnL eRec 69 q cq out B ∧ CacM bc tick' bd fl' M1 ∧ M' = B ++ M1) := by
  obtain ⟨bt, bs, n, L, pf, cf, Af, hI, hO, rfl⟩ := hM
  have hbd := hI.bw
  have hle := hI.le
  have hmost := hI.most
  refine ct_body (rv := [.tmp 4]) [(0, _), (1, _)] Tryz.func18 (by kernel_rfl) Tryz.ntmps18 Tryz.results18 rfl rfl (fun w0 => ?_)
  refine p_seq0 ?_
  refine p_plain0 (0 :: 1 :: []) ?_
  refine go_s0 (some 2) (.box 43 (.tmp 0)) 0 ?_
  refine os_box1 rfl rfl rfl (fun b2 => ?_)
  refine go_q0 4 (.assign (.const (.slice none 0 0))) 55 (qv_assign rfl) ?_
  refine go_nil ?_
  change G _ _ _ _
  refine p_weaken [1, 2, 4] rfl ?_
  refine p_seq0 ?_
  refine p_seq0 ?_
  refine p_plain0 (0 :: 1 :: 2 :: 3 :: 4 :: 5 :: 6 :: 7 :: 8 :: 9 :: []) ?_
  refine go_q0 8 (.load 43 (.tmp 2)) 43 (qv_load rfl .auto (ldv_sca sc43 (get_one _))) ?_
  refine go_q0 9 (.binOp .eql 43 (.tmp 8) (.const (.pointer none)) 43) 4 (qv_eqlP un43 rfl) ?_
  refine go_q0 10 (.move (.tmp 9)) 4 (qv_move rfl) ?_
  refine go_q (d := 11) (op := .move (.tmp 1)) (ty := 23) (g := some (2, false)) (by kernel_rfl) ⟨10, by kernel_rfl, rfl⟩ rfl (qv_move rfl) ?_
  refine go_q (d := 12) (op := .load 43 (.tmp 2)) (ty := 43) (g := some (2, false)) (by kernel_rfl) ⟨10, by kernel_rfl, rfl⟩ rfl (qv_load rfl .auto (ldv_sca sc43 (get_one _))) ?_
  refine go_q (d := 13) (op := .nilCheck (.tmp 12)) (ty := 0) (g := some (2, false)) (by kernel_rfl) ⟨10, by kernel_rfl, rfl⟩ rfl (qv_nilCheck rfl) ?_
  refine go_q (d := 14) (op := .fieldAddr 84 (.tmp 13) 0) (ty := 0) (g := some (2, false)) (by kernel_rfl) ⟨10, by kernel_rfl, rfl⟩ rfl (qv_field rfl fd84_0) ?_
  refine go_q (d := 15) (op := .load 23 (.tmp 14)) (ty := 23) (g := some (2, false)) (by kernel_rfl) ⟨10, by kernel_rfl, rfl⟩ rfl (qv_load rfl .auto (ldv_sca sc23 (get_Cac_0 _))) ?_
  refine go_q (d := 16) (op := .binOp .lss 23 (.tmp 11) (.tmp 15) 23) (ty := 4) (g := some (2, false)) (by kernel_rfl) ⟨10, by kernel_rfl, rfl⟩ rfl (qv_lss (b := false) rfl rfl (decide_eq_false (show ¬ tick' < tick by omega))) ?_
  refine go_q0 17 (.pick (.tmp 10) (.const (.bool true)) (.tmp 16)) 4 (qv_pick_f rfl rfl) ?_
  refine go_nil ?_
  change G _ _ _ _
  refine p_weaken [1, 2, 4, 17] rfl ?_
  refine p_condF (.tmp 17) (by kernel_rfl) rfl ?_
  refine p_skip0 ?_
  change G _ _ _ _
  refine p_weaken [1, 2, 4] rfl ?_
  refine p_seq0 ?_
  refine p_plain0 (0 :: 1 :: 2 :: 3 :: 4 :: []) ?_
  refine go_q0 18 (.load 43 (.tmp 2)) 43 (qv_load rfl .auto (ldv_sca sc43 (get_one _))) ?_
  refine go_q0 19 (.move (.tmp 1)) 23 (qv_move rfl) ?_
  refine go_q0 20 (.nilCheck (.tmp 18)) 0 (qv_nilCheck rfl) ?_
  refine go_q0 21 (.fieldAddr 84 (.tmp 20) 0) 0 (qv_field rfl fd84_0) ?_
  refine go_s0 none (.store 23 (.tmp 21) (.tmp 19)) 0 ?_
  refine os_store1 rfl rfl sz23 rfl rfl .auto (Nat.le_of_ble_eq_true rfl) (set_Cac_0 _ _) ?_
  refine go_nil ?_
  change G _ _ _ _
  refine p_weaken [1, 2, 4] rfl ?_
  refine p_seq0 ?_
  refine p_plain0 (0 :: []) ?_
  refine go_q0 5 (.assign (.const (.slice none 0 0))) 55 (qv_assign rfl) ?_
  refine go_nil ?_
  change G _ _ _ _
  refine p_seq0 ?_
  refine p_seq0 ?_
  refine p_plain0 (0 :: 1 :: 2 :: 3 :: 4 :: 5 :: []) ?_
  refine go_q0 22 (.load 43 (.tmp 2)) 43 (qv_load rfl .auto (ldv_sca sc43 (get_one _))) ?_
  refine go_q0 23 (.nilCheck (.tmp 22)) 0 (qv_nilCheck rfl) ?_
  refine go_q0 24 (.fieldAddr 84 (.tmp 23) 3) 0 (qv_field rfl fd84_3) ?_
  refine go_q0 25 (.load 55 (.tmp 24)) 55 (qv_load rfl .auto (ldv_sca sc55 (get_Cac_7 _))) ?_
  refine go_q0 26 (.call { callee := .builtin .len, args := #[.tmp 25], argTypes := #[55] }) 3 (qv_lenS un55 rfl) ?_
  refine go_q0 27 (.move (.const (.int .i64 0))) 3 (qv_move rfl) ?_
  refine go_nil ?_
  change G _ _ _ _
  refine p_weaken [1, 2, 4, 5, 25, 26, 27] rfl ?_
  refine p_block 0 (by kernel_rfl) ?_
  refine p_loopE (by kernel_rfl) (fun s m => ∃ (i : Nat) (l : List Rec) (q : Option Addr) (cq : Nat) (B : Mem), (i ≤ fl.length) ∧ (l = dueBy bd tick' (fl.take i)) ∧ (OwnL eRec 69 q cq l B) ∧ Ge s ⟨[], [(1, .int .u64 tick'), (2, .pointer (some ⟨b2, 0, none⟩)), (5, .slice q l.length cq), (25, .slice pf fl.length cf), (26, .int .i64 fl.length), (27, .int .i64 i)], B ++ (capO b2 bc :: cacO bc tick' bd bt pf fl.length cf :: tabO bt bs n fl.length :: slotO bs L :: Af)⟩ ∧ m = fl.length + 1 - i) ?_ ?_
  · exact ⟨_, ⟨0, [], none, 0, [], by omega, rfl, OwnL.nil, ⟨rfl, ⟨[1, 2, 5, 25, 26, 27], rfl⟩, .auto⟩, rfl⟩⟩
  rintro s m ⟨i, l, q, cq, B, hi, hl, hB, hs, rfl⟩
  refine ge_ok hs ?_
  refine p_seq0 ?_
  refine p_plain0 (0 :: []) ?_
  refine go_q0 28 (.binOp .lss 3 (.tmp 27) (.tmp 26) 3) 0 (qv_lss rfl rfl rfl) ?_
  refine go_nil ?_
  change G _ _ _ _
  refine p_seq0 ?_
  refine p_cond (.tmp 28) (by kernel_rfl) rfl (fun h28 => ?_) (fun h28 => ?_)
  rotate_left
  · replace h28 := kn h28
    refine p_exit 0 (by kernel_rfl) ?_
    change G _ _ _ _
    refine p_weaken [2, 5] rfl ?_
    refine p_seq0 ?_
    have hie : i = fl.length := by omega
    subst hie
    rw [List.take_length] at hl
    have hlin : ∀ r ∈ l, r ∈ fl := fun r hr => by rw [hl] at hr; exact (List.mem_filter.1 hr).1
    have hlw : ∀ r ∈ l, r.Wf := fun r hr => hI.wf r (hlin r hr)
    have hll : l.length ≤ fl.length := by rw [hl]; exact List.length_filter_le _ _
    refine p_plain0 (0 :: 1 :: 2 :: []) ?_
    refine go_q0 41 (.move (.tmp 5)) 55 (qv_move rfl) ?_
    refine go_q0 42 (.makeFunc (.func 46) #[] #[.tmp 2]) 111 (qv_makeFunc rfl) ?_
    refine go_s0 (some 43) (.call { callee := .value (.func 45), args := #[.tmp 41, .tmp 42], argTypes := #[55, 111] }) 0 ?_
    refine os_call (Nat.le_of_ble_eq_true rfl) en45 rfl (by exact Sel.append Sel.app (Sel.cons (.next .here) (Sel.cons .here .nil))) (ct_SortRecO (cmpDue bd) (swo_due bd) (cb := [.pointer (some ⟨b2, 0, none⟩)]) (A := [cacO bc tick' bd bt pf fl.length cf, capO b2 bc]) en46 (fun x y hx hy => ct_advCmp hbd hx hy) hB hlw (by omega)) ?_
    rintro v43 A43 ⟨rfl, srt, B2, hp, hs', hO2, rfl⟩
    try dsimp only [List.nil_append, List.cons_append]
    have hsl := hp.length_eq
    rw [← hsl]
    refine go_nil ?_
    change G _ _ _ _
    refine p_weaken [2, 5] rfl ?_
    refine p_seq0 ?_
    have hsin : ∀ r ∈ srt, r ∈ fl := fun r hr => hlin r (hp.mem_iff.1 hr)
    have hsd : srt.Pairwise fun a b => a.key ≠ b.key := (hp.pairwise_iff (fun {a b} h => Ne.symm h)).2 (by rw [hl]; exact hI.dist.filter _)
    have hEn := ct_ends (c := cq) (l := srt) (Ag := [capO b2 bc]) (Al := B2) (cb := [.pointer (some ⟨b2, 0, none⟩)]) (reasonR bd) en50 ⟨bt, bs, n, L, pf, cf, Af, hI, hO, rfl⟩ hO2.lst (by omega) (fun r hr bt pf nf cf => ct_advReason hbd (hI.wf r (hsin r hr))) hsin hsd (tick := tick') (bc := bc)
    refine p_drop ((cacO bc tick' bd bt pf fl.length cf :: tabO bt bs n fl.length :: slotO bs L :: Af) ++ ([capO b2 bc] ++ B2)) .auto ?_
    refine p_plain0 (0 :: 1 :: 2 :: 3 :: 4 :: []) ?_
    refine go_q0 44 (.load 43 (.tmp 2)) 43 (qv_load rfl .auto (ldv_sca sc43 (get_one _))) ?_
    refine go_q0 45 (.makeFunc (.func 50) #[] #[.tmp 2]) 106 (qv_makeFunc rfl) ?_
    refine go_q0 46 (.move (.tmp 5)) 55 (qv_move rfl) ?_
    refine go_s0 (some 47) (.call { callee := .value (.func 42), args := #[.tmp 44, .tmp 45, .tmp 46], argTypes := #[43, 106, 55] }) 55 ?_
    refine os_call (Nat.le_of_ble_eq_true rfl) en42 rfl (by exact Sel.all) (hEn) ?_
    rintro v47 A47 ⟨fl', q3, cq3, B3, M1, hmem, rfl, hB3, hM1, rfl⟩
    try dsimp only [List.nil_append, List.cons_append]
    refine go_q0 4 (.assign (.tmp 47)) 55 (qv_assign rfl) ?_
    refine go_nil ?_
    change G _ _ _ _
    refine p_weaken [4] rfl ?_
    refine p_ret0 ?_
    try dsimp only [thenQ, inBlockQ]
    try rw [if_pos rfl]
    refine ret_left (B3 ++ M1) (.inr rfl) (.cons (res_tmp rfl) .nil) .auto ?_
    refine ⟨fl', _, q3, cq3, B3, M1, ⟨srt, hl ▸ hp, hs', rfl, perm_iff hM1.nodup (hI.nodup.filter _) fun x => ?_⟩, rfl, hB3, hM1, rfl⟩
    rw [hmem, adv_mem hI (hl ▸ hp), List.mem_filter, Bool.not_eq_true', decide_eq_false_iff_not]
  replace h28 := kn h28
  refine p_skip0 ?_
  change G _ _ _ _
  refine p_weaken [1, 2, 5, 25, 26, 27] rfl ?_
  refine p_seqJ (fun s => ∃ (l2 : List Rec) (q2 : Option Addr) (cq2 : Nat) (B2 : Mem), (l2 = dueBy bd tick' (fl.take (i + 1))) ∧ (OwnL eRec 69 q2 cq2 l2 B2) ∧ Ge s ⟨[], [(1, .int .u64 tick'), (2, .pointer (some ⟨b2, 0, none⟩)), (5, .slice q2 l2.length cq2), (25, .slice pf fl.length cf), (26, .int .i64 fl.length), (27, .int .i64 i)], B2 ++ (capO b2 bc :: cacO bc tick' bd bt pf fl.length cf :: tabO bt bs n fl.length :: slotO bs L :: Af)⟩) (by kernel_rfl) ?_ ?_
  rotate_left
  · rintro s ⟨l2, q2, cq2, B2, hl2, hB2, hs⟩
    refine ge_ok hs ?_
    refine p_plain0 (0 :: 1 :: []) ?_
    refine go_q0 40 (.binOp .add 3 (.tmp 27) (.const (.int .i64 1)) 3) 3 (qv_add rfl rfl (by first | exact IntWalk.i64_in _ (by omega) | exact IntWalk.i64_in _ (by dsimp only; omega) | rfl)) ?_
    refine go_q0 27 (.move (.tmp 40)) 3 (qv_move rfl) ?_
    refine go_nil ?_
    exact ⟨_, ⟨i + 1, l2, q2, cq2, B2, by omega, hl2, hB2, ⟨rfl, ⟨[1, 2, 5, 25, 26, 27], rfl⟩, .auto⟩, rfl⟩, by omega⟩
  refine p_block 1 (by kernel_rfl) ?_
  refine p_seq0 ?_
  obtain ⟨bb, oo, cu, ee, ff, hpe, mm, H⟩ := hO.lst.at_ (i := i) (by omega)
  obtain ⟨x, hx⟩ : ∃ x, fl[i]? = some x := ⟨_, List.getElem?_eq_getElem (by omega)⟩
  have hxw := hI.wf x (List.mem_of_getElem? hx)
  have hsu := dueBy_succ (bd := bd) (tick := tick') hx
  have hll : l.length ≤ fl.length := by rw [hl]; exact Nat.le_trans (List.length_filter_le _ _) (by simp; omega)
  have hD := ct_due (bc := bc) (bt := bt) (nf := fl.length) (cf := cf) (tick := tick') (pf := pf) hbd hxw
  subst hpe
  refine p_plain0 (0 :: 1 :: 2 :: 3 :: []) ?_
  refine go_q0 29 (.indexAddr 55 (.tmp 25) (.tmp 27)) 0 (qv_index un55 sz69 rfl rfl rfl (by omega)) ?_
  refine go_q0 30 (.load 69 (.tmp 29)) 69 (qv_load rfl (At.of_mem (by repeat first | exact mm | exact List.mem_append_left _ mm | apply List.mem_cons_of_mem | apply List.mem_append_right)) (ldv_els H hx (by decide) agg69 rfl)) ?_
  refine go_s0 (some 7) (.alloc 69) 0 ?_
  refine os_allocA rfl ze69 (fun b7 => ?_)
  refine go_s0 none (.store 69 (.tmp 7) (.tmp 30)) 0 ?_
  refine os_store rfl rfl sz69 rfl (one_Rec _) .auto (Nat.le_of_ble_eq_true rfl) (splw_Rec _ _ (siz_Rec _)) ?_
  refine go_nil ?_
  change G _ _ _ _
  refine p_weaken [1, 2, 5, 7, 25, 26, 27] rfl ?_
  refine p_seq0 ?_
  refine p_plain0 (0 :: 1 :: 2 :: 3 :: 4 :: []) ?_
  refine go_q0 31 (.load 43 (.tmp 2)) 43 (qv_load rfl .auto (ldv_sca sc43 (get_one _))) ?_
  refine go_q0 32 (.load 69 (.tmp 7)) 69 (qv_load rfl .auto (ldv_agg agg69 (extw_Rec _) (Nat.le_of_ble_eq_true rfl))) ?_
  refine go_s0 (some 33) (.call { callee := .value (.func 44), args := #[.tmp 31, .tmp 32], argTypes := #[43, 69] }) 23 ?_
  refine os_pv rfl (pv_callR en44 rfl .auto (hD)) ?_
  refine go_q0 34 (.move (.tmp 1)) 23 (qv_move rfl) ?_
  refine go_q0 35 (.binOp .leq 23 (.tmp 33) (.tmp 34) 23) 4 (qv_leq rfl rfl rfl) ?_
  refine go_nil ?_
  change G _ _ _ _
  refine p_weaken [1, 2, 5, 7, 25, 26, 27, 35] rfl ?_
  refine p_cond (.tmp 35) (by kernel_rfl) rfl (fun h35 => ?_) (fun h35 => ?_)
  rotate_left
  · replace h35 := kn h35
    rw [if_neg h35] at hsu
    have hln : l = dueBy bd tick' (fl.take (i + 1)) := by rw [hsu, hl]; simp
    have hBn := hB
    refine p_skip0 ?_
    exact ⟨_, _, _, _, hln, hBn, ⟨rfl, ⟨[1, 2, 5, 25, 26, 27], rfl⟩, .auto⟩⟩
  replace h35 := kn h35
  rw [if_pos h35] at hsu
  refine p_plain0 (0 :: 1 :: 2 :: 3 :: 4 :: []) ?_
  refine go_q0 36 (.move (.tmp 5)) 55 (qv_move rfl) ?_
  refine go_q0 37 (.load 69 (.tmp 7)) 69 (qv_load rfl .auto (ldv_agg agg69 (extw_Rec _) (Nat.le_of_ble_eq_true rfl))) ?_
  refine go_s0 (some 38) (.buildSlice 55 1 #[(0, .tmp 37)]) 55 ?_
  refine os_buildSlice (Nat.le_of_ble_eq_true rfl) rfl (bls55_1 _) (fun b38 => ?_)
  refine go_s0 (some 39) (.call { callee := .builtin .append, args := #[.tmp 36, .tmp 38], argTypes := #[55, 55] }) 55 ?_
  refine os_appendK (E := eRec) (l := l) (l2 := [x]) rfl el55 rfl rfl rfl rfl (hB) .auto .auto (Go.E.holds_one _) (one_Rec) (by simp [maxLen] <;> omega) (by simp <;> omega) (fun p39 c39 A39 h39 => ?_)
  have hBn := h39
  have hln : l ++ [x] = dueBy bd tick' (fl.take (i + 1)) := by rw [hsu, hl]
  refine go_q0 5 (.assign (.tmp 39)) 55 (qv_assign rfl) ?_
  refine go_nil ?_
  exact ⟨_, _, _, _, hln, hBn, ⟨rfl, ⟨[1, 2, 5, 25, 26, 27], rfl⟩, .auto⟩⟩
end Go.Proofs.YtobmcpoejhhemaaGreat

namespace Go.Proofs.YtobmcpoejhhemaaGreat
open Go.E

/-- Who ends as a flow begins; what is left. -/
def BegR (bd : Bnd) (fl fl1 out : List Rec) : Prop :=
  ((fl.length : Int) = bd.flows ∧ ∃ u, u ∈ fl ∧ (∀ x ∈ fl, ¬ cmpLast x u < 0) ∧ out = [{ u with reason := 5 }] ∧ fl.Perm (u :: fl1)) ∨ ((fl.length : Int) < bd.flows ∧ out = [] ∧ fl1 = fl)
theorem BegR.sub {bd : Bnd} {fl fl1 out : List Rec} (h : BegR bd fl fl1 out) : ∀ x ∈ fl1, x ∈ fl := fun x hx => by
  rcases h with ⟨_, _, _, _, _, h⟩ | ⟨_, _, h⟩
  · exact h.mem_iff.2 (.tail _ hx)
  · rw [← h]; exact hx
theorem BegR.less {bd : Bnd} {fl fl1 out : List Rec} (h : BegR bd fl fl1 out) : (fl1.length : Int) < bd.flows := by
  rcases h with ⟨h1, _, _, _, _, h⟩ | ⟨h1, _, h⟩
  · have := h.length_eq
    rw [List.length_cons] at this
    omega
  · rw [h]; exact h1
theorem set_perm {α : Type} {l : List α} {i : Nat} {x : α} (h : l[i]? = some x) (y : α) : (y :: l).Perm (x :: l.set i y) := by
  obtain ⟨hi, rfl⟩ := List.getElem?_eq_some_iff.1 h
  rw [List.set_eq_take_append_cons_drop, if_pos hi]
  have e : l = l.take i ++ l[i] :: l.drop (i + 1) := by simp
  generalize l[i] = x at *
  generalize l.take i = a at *
  generalize l.drop (i + 1) = b at *
  subst e
  classical
  exact List.perm_iff_count.2 fun z => by simp only [List.count_append, List.count_cons]; omega
theorem swapOut_perm {α : Type} {l : List α} {i : Nat} {x : α} (h : l[i]? = some x) : l.Perm (x :: swapOut l i) := by
  have hi := (List.getElem?_eq_some_iff.1 h).1
  obtain ⟨t, y, rfl⟩ : ∃ t y, l = t ++ [y] := ⟨l.dropLast, l.getLast (List.ne_nil_of_length_pos (by omega)), (List.dropLast_concat_getLast _).symm⟩
  have e : swapOut (t ++ [y]) i = ((t ++ [y]).set i y).take t.length := by
    rw [swapOut_eq (x := y) (by simp)]
    simp
  rw [e]
  rcases Nat.lt_or_ge i t.length with h2 | h2
  · rw [List.set_append_left _ _ h2, List.take_append_of_le_length (by simp), List.take_of_length_le (by simp)]
    rw [List.getElem?_append_left h2] at h
    exact (List.perm_append_singleton y t).trans (set_perm h y)
  · simp only [List.length_append, List.length_singleton] at hi
    have : i = t.length := by omega
    subst this
    have : y = x := by simpa using h
    subst this
    rw [List.take_set_of_le (Nat.le_refl _), List.take_left]
    exact List.perm_append_singleton y t
theorem idx_succ (m : Nat) : idx m ++ [(m : Int)] = idx (m + 1) := by
  refine idx_ext (by simp [idx_len]) fun i hi => ?_
  by_cases h : i = m
  · subst h; rw [List.getElem?_append_right (by rw [idx_len]; exact Nat.le_refl _), idx_len]; simp
  · rw [List.getElem?_append_left (by rw [idx_len]; omega), idx_at (by omega)]
theorem z64 : InK .u64 0 := ⟨by decide, by decide⟩
theorem startR_wf {k : Key} {cls tick : Int} (hk : k.Wf) (ht : InK .u64 tick) (hc : InK .u8 cls) : (startR k cls tick).Wf := ⟨hk, z64, z64, ht, ht, z8, z8, hc⟩
theorem perm_beg {α : Type} (A B : List α) (s t l k c : α) : (A ++ s :: t :: l :: (B ++ [k, c])).Perm ((B ++ (c :: t :: l :: A)) ++ [s, k]) := by
  classical
  exact List.perm_iff_count.2 fun x => by simp only [List.count_append, List.count_cons, List.count_nil]; omega
theorem keysOf_app (fl : List Rec) (r : Rec) : keysOf (fl ++ [r]) = keysOf fl ++ [r.key] := by simp [keysOf]
theorem CacI.begin_ {bd : Bnd} {n : Nat} {L L' : List Slot} {fl : List Rec} {k : Key} {cls tick : Int} (h : CacI bd n L fl) (hK : Kp n L' (keysOf fl ++ [k]) (idx fl.length ++ [(fl.length : Int)])) (hk : k.Wf) (hr : k.right = true) (ht : InK .u64 tick) (hc : InK .u8 cls) (hl : (fl.length : Int) < bd.flows) : CacI bd n L' (fl ++ [startR k cls tick]) := by
  refine ⟨h.pow, h.big, ?_, ?_, ?_, by simp; omega, h.bw, h.most, h.least⟩
  · rw [keysOf_app, List.length_append, List.length_singleton, ← idx_succ]; exact hK
  · intro r hr'
    rcases List.mem_append.1 hr' with h1 | h1
    · exact h.wf r h1
    · rw [List.mem_singleton.1 h1]; exact startR_wf hk ht hc
  · intro r hr'
    rcases List.mem_append.1 hr' with h1 | h1
    · exact h.rt r h1
    · rw [List.mem_singleton.1 h1]; exact hr
theorem ct_begin {bc : Nat} {tick cls : Int} {bd : Bnd} {fl : List Rec} {M : Mem} {k : Key} (hM : CacM bc tick bd fl M) (hk : k.Wf) (hr : k.right = true) (hnew : k ∉ keysOf fl) (ht : InK .u64 tick) (hcl : InK .u8 cls) :
    Ct Tryz.prog 56 [.pointer (some ⟨bc, 0, none⟩), .agg k.c, .int .u8 cls].toArray M (fun v M' => ∃ fl1 out q cq B M1, BegR bd fl fl1 out ∧ v = .slice q out.length cq ∧ OwnL eRec 69 q cq out B ∧ CacM bc tick bd (fl1 ++ [startR k cls tick]) M1 ∧ M' = B ++ M1) := by
  have hM0 := hM
  obtain ⟨bt, bs, n, L, pf, cf, Af, hI, hO, rfl⟩ := hM
  have hle := hI.le
  have hmost := hI.most
  refine ct_body (rv := [.tmp 6]) [(0, _), (1, _), (2, _)] Tryz.func56 (by kernel_rfl) Tryz.ntmps56 Tryz.results56 rfl rfl (fun w0 => ?_)
  refine p_seq0 ?_
  refine p_plain0 (0 :: 1 :: []) ?_
  refine go_s0 (some 4) (.box 29 (.tmp 1)) 0 ?_
  refine os_boxA rfl rfl (fun b4 => ?_)
  refine go_q0 6 (.assign (.const (.slice none 0 0))) 55 (qv_assign rfl) ?_
  refine go_nil ?_
  change G _ _ _ _
  refine p_weaken [0, 2, 4, 6] rfl ?_
  refine p_seqK [0, 2, 4] rfl (fun frk Mk s => ∃ (fl1 : List Rec) (out : List Rec) (q : Option Addr) (cq : Nat) (B : Mem) (M1 : Mem), (BegR bd fl fl1 out) ∧ (OwnL eRec 69 q cq out B) ∧ (CacM bc tick bd fl1 M1) ∧ Ge s ⟨[], (6, .slice q out.length cq) :: frk, B ++ ((b4, .cells k.c 29 (0, 0)) :: M1)⟩) (by kernel_rfl) ?_ ?_
  · refine p_seq0 ?_
    refine p_draw (by kernel_rfl) mixed 11 11 _ (fun _ h => h) (by kernel_rfl) ?_
    refine gd_all (0 :: 1 :: 2 :: 3 :: 4 :: 5 :: 6 :: 7 :: 8 :: 9 :: 10 :: []) _ rfl (by kernel_rfl) (by decide) (fun _ h => h) rfl ?_
    refine sq_q0 8 (.move (.tmp 0)) 43 (qv_move rfl) ?_
    refine sq_q0 9 (.nilCheck (.tmp 8)) 0 (qv_nilCheck rfl) ?_
    refine sq_q0 10 (.fieldAddr 84 (.tmp 9) 3) 0 (qv_field rfl fd84_3) ?_
    refine sq_q0 11 (.load 55 (.tmp 10)) 55 (qv_load rfl .auto (ldv_sca sc55 (get_Cac_7 _))) ?_
    refine sq_q0 12 (.call { callee := .builtin .len, args := #[.tmp 11], argTypes := #[55] }) 3 (qv_lenS un55 rfl) ?_
    refine sq_q0 13 (.move (.tmp 0)) 43 (qv_move rfl) ?_
    refine sq_q0 14 (.nilCheck (.tmp 13)) 0 (qv_nilCheck rfl) ?_
    refine sq_q0 15 (.fieldAddr 84 (.tmp 14) 1) 0 (qv_field rfl fd84_1) ?_
    refine sq_q0 16 (.fieldAddr 36 (.tmp 15) 0) 0 (qv_field rfl fd36_0) ?_
    refine sq_q0 17 (.load 3 (.tmp 16)) 3 (qv_load rfl .auto (ldv_sca sc3 (get_Cac_1 _))) ?_
    refine sq_q0 18 (.binOp .eql 3 (.tmp 12) (.tmp 17) 3) 4 (qv_eql rfl rfl rfl) ?_
    refine SeqK.nil (fun β => ?_)
    refine gd_tail [] rfl (by kernel_rfl) (by kernel_rfl) ?_
    refine go_nil ?_
    change G _ _ _ _
    refine p_weaken [0, 2, 4, 6, 18] rfl ?_
    refine p_cond (.tmp 18) (by kernel_rfl) rfl (fun h18 => ?_) (fun h18 => ?_)
    rotate_left
    · replace h18 := kn h18
      have h18' : (fl.length : Int) < bd.flows := by have : ¬ (fl.length : Int) = bd.flows := h18; omega
      have hBn : BegR bd fl fl [] := .inr ⟨h18', rfl, rfl⟩
      have hOn : OwnL eRec 69 none 0 ([] : List Rec) [] := OwnL.nil
      have hMn := hM0
      refine p_skip0 ?_
      exact ⟨_, _, _, _, _, _, hBn, hOn, hMn, ⟨rfl, ⟨[6, 0, 2, 4], rfl⟩, .auto⟩⟩
    replace h18 := kn h18
    have h18' : (fl.length : Int) = bd.flows := h18
    have hf0 : 0 < fl.length := by have := hI.least; omega
    refine p_seq0 ?_
    refine p_plain0 (0 :: 1 :: 2 :: 3 :: 4 :: 5 :: 6 :: []) ?_
    refine go_q0 19 (.move (.tmp 0)) 43 (qv_move rfl) ?_
    refine go_q0 20 (.nilCheck (.tmp 19)) 0 (qv_nilCheck rfl) ?_
    refine go_q0 21 (.fieldAddr 84 (.tmp 20) 3) 0 (qv_field rfl fd84_3) ?_
    refine go_q0 22 (.load 55 (.tmp 21)) 55 (qv_load rfl .auto (ldv_sca sc55 (get_Cac_7 _))) ?_
    refine go_s0 (some 23) (.call { callee := .value (.func 80), args := #[.tmp 22, .func 81], argTypes := #[55, 111] }) 69 ?_
    refine os_call (Nat.le_of_ble_eq_true rfl) en80 rfl .auto (ct_MinFunc hf0 (by omega) (Lst.tail (Lst.tail (Lst.tail hO.lst))) hI.wf (c := cf)) ?_
    rintro v23 A23 ⟨u, rfl, hu, humin, rfl⟩
    try dsimp only [List.nil_append, List.cons_append]
    obtain ⟨j, hjl, hje⟩ := List.getElem_of_mem hu
    have hj : fl[j]? = some u := by rw [List.getElem?_eq_getElem hjl, hje]
    try dsimp only [List.cons_append, List.nil_append]
    refine go_s0 (some 7) (.alloc 69) 0 ?_
    refine os_allocA rfl ze69 (fun b7 => ?_)
    refine go_s0 none (.store 69 (.tmp 7) (.tmp 23)) 0 ?_
    refine os_store rfl rfl sz69 rfl (one_Rec _) .auto (Nat.le_of_ble_eq_true rfl) (splw_Rec _ _ (siz_Rec _)) ?_
    refine go_nil ?_
    change G _ _ _ _
    refine p_weaken [0, 2, 4, 6, 7] rfl ?_
    refine p_plain0 (0 :: 1 :: 2 :: 3 :: 4 :: 5 :: 6 :: 7 :: []) ?_
    refine go_q0 24 (.move (.tmp 6)) 55 (qv_move rfl) ?_
    refine go_q0 25 (.move (.tmp 0)) 43 (qv_move rfl) ?_
    refine go_q0 26 (.fieldAddr 69 (.tmp 7) 0) 0 (qv_field rfl fd69_0) ?_
    refine go_q0 27 (.load 29 (.tmp 26)) 29 (qv_load rfl .auto (ldv_agg agg29 (ext_Rec_0_37 _) (Nat.le_of_ble_eq_true rfl))) ?_
    refine go_s0 (some 28) (.call { callee := .value (.func 59), args := #[.tmp 25, .tmp 27, .const (.int .u8 5)], argTypes := #[43, 29, 5] }) 69 ?_
    refine os_call (Nat.le_of_ble_eq_true rfl) en59 rfl .auto (ct_end 5 hM0 hj) ?_
    rintro v28 A28 ⟨rfl, hMn⟩
    try dsimp only [List.nil_append, List.cons_append]
    refine go_s0 (some 29) (.buildSlice 55 1 #[(0, .tmp 28)]) 55 ?_
    refine os_buildSlice (Nat.le_of_ble_eq_true rfl) rfl (bls55_1 _) (fun b29 => ?_)
    refine go_s0 (some 30) (.call { callee := .builtin .append, args := #[.tmp 24, .tmp 29], argTypes := #[55, 55] }) 55 ?_
    refine os_appendK (E := eRec) (l := []) (l2 := [{ u with reason := 5 }]) rfl el55 rfl rfl rfl rfl (OwnL.nil) .auto .auto (Go.E.holds_one _) (one_Rec) (by simp [maxLen] <;> omega) (by simp <;> omega) (fun p30 c30 A30 h30 => ?_)
    have hOn := h30
    have hBn : BegR bd fl (swapOut fl j) ([] ++ [{ u with reason := 5 }]) := .inl ⟨h18', u, hu, humin, rfl, swapOut_perm hj⟩
    refine go_q0 6 (.assign (.tmp 30)) 55 (qv_assign rfl) ?_
    refine go_nil ?_
    exact ⟨_, _, _, _, _, _, hBn, hOn, hMn, ⟨rfl, ⟨[6, 0, 2, 4], rfl⟩, .auto⟩⟩
  rintro s ⟨fl1, out, q, cq, B, M1, hB, hOo, hM1, hs⟩
  refine ge_ok hs ?_
  refine p_seq0 ?_
  obtain ⟨bt, bs, n, L, pf, cf, Af, hI1, hO1, rfl⟩ := hM1
  have hn := hI1.pow
  have hn2 := hn.le
  have hn1 := hn.pos
  have hless := hB.less
  have hbig := hI1.big
  have hnew1 : k ∉ keysOf fl1 := fun h => by obtain ⟨x, hx, he⟩ := List.mem_map.1 h; exact hnew (List.mem_map.2 ⟨x, hB.sub x hx, he⟩)
  obtain ⟨L', hp, hK'⟩ := hI1.kp.putNew hn hk hnew1 (by rw [keysOf_len]; omega) hr (fl1.length : Int) fl1.length
  have hPut := ct_Put (bt := bt) (bs := bs) (many := fl1.length) (n := (fl1.length : Int)) (L := L) (k := k) hk (by have := hI1.kp.L_len; omega) (by have := hI1.kp.L_len; omega) (by omega) (by omega)
  rw [hI1.kp.L_len, hp, show (fl1.length : Int) + 1 = ((fl1 ++ [startR k cls tick]).length : Int) by simp] at hPut
  have hI2 := hI1.begin_ hK' hk hr ht hcl (by omega)
  refine p_draw (by kernel_rfl) mixed 11 12 _ (fun _ h => h) (by kernel_rfl) ?_
  refine gd_all (0 :: 1 :: 2 :: 3 :: 4 :: 5 :: 6 :: 7 :: 8 :: 9 :: 10 :: []) _ rfl (by kernel_rfl) (by decide) (fun _ h => h) rfl ?_
  refine sq_q0 31 (.move (.tmp 0)) 43 (qv_move rfl) ?_
  refine sq_q0 32 (.nilCheck (.tmp 31)) 0 (qv_nilCheck rfl) ?_
  refine sq_q0 33 (.fieldAddr 84 (.tmp 32) 2) 0 (qv_field rfl fd84_2) ?_
  refine sq_q0 34 (.load 78 (.tmp 33)) 78 (qv_load rfl .auto (ldv_sca sc78 (get_Cac_6 _))) ?_
  refine sq_q0 35 (.load 29 (.tmp 4)) 29 (qv_load rfl .auto (ldv_agg agg29 (extw_Key _) (Nat.le_of_ble_eq_true rfl))) ?_
  refine sq_q0 36 (.move (.tmp 0)) 43 (qv_move rfl) ?_
  refine sq_q0 37 (.nilCheck (.tmp 36)) 0 (qv_nilCheck rfl) ?_
  refine sq_q0 38 (.fieldAddr 84 (.tmp 37) 3) 0 (qv_field rfl fd84_3) ?_
  refine sq_q0 39 (.load 55 (.tmp 38)) 55 (qv_load rfl .auto (ldv_sca sc55 (get_Cac_7 _))) ?_
  refine sq_q0 40 (.call { callee := .builtin .len, args := #[.tmp 39], argTypes := #[55] }) 3 (qv_lenS un55 rfl) ?_
  refine sq_q0 41 (.convert 3 23 (.tmp 40)) 23 (qv_conv un3 un23 rfl (by first | exact IntWalk.u64_in _ (by omega) | rfl)) ?_
  refine SeqK.nil (fun β => ?_)
  refine gd_tail [11] rfl (by kernel_rfl) (by kernel_rfl) ?_
  refine go_s0 (some 42) (.call { callee := .value (.func 82), args := #[.tmp 34, .tmp 35, .tmp 41], argTypes := #[78, 29, 23] }) 44 ?_
  refine os_call (Nat.le_of_ble_eq_true rfl) en82 rfl .auto (hPut) ?_
  rintro v42 A42 ⟨rfl, rfl⟩
  try dsimp only [List.nil_append, List.cons_append]
  refine go_nil ?_
  change G _ _ _ _
  refine p_weaken [0, 2, 4, 6] rfl ?_
  refine p_seq0 ?_
  refine p_draw (by kernel_rfl) mixed 16 17 [(b4, .cells k.c 29 (0, 0)), cacO bc tick bd bt pf fl1.length cf] (by first | (simp; done) | (intro q hq; simp [hq]; done)) (by kernel_rfl) ?_
  refine gd_q (i := 0) (d := 43) (op := .move (.tmp 0)) (ty := 43) (g := none) (by kernel_rfl) trivial rfl (by kernel_rfl) (by kernel_rfl) (by kernel_rfl) (by kernel_rfl) (qv_move rfl) ?_
  refine gd_q (i := 1) (d := 44) (op := .move (.tmp 0)) (ty := 43) (g := none) (by kernel_rfl) trivial rfl (by kernel_rfl) (by kernel_rfl) (by kernel_rfl) (by kernel_rfl) (qv_move rfl) ?_
  refine gd_q (i := 2) (d := 45) (op := .nilCheck (.tmp 44)) (ty := 0) (g := none) (by kernel_rfl) trivial rfl (by kernel_rfl) (by kernel_rfl) (by kernel_rfl) (by kernel_rfl) (qv_nilCheck rfl) ?_
  refine gd_q (i := 3) (d := 46) (op := .fieldAddr 84 (.tmp 45) 3) (ty := 0) (g := none) (by kernel_rfl) trivial rfl (by kernel_rfl) (by kernel_rfl) (by kernel_rfl) (by kernel_rfl) (qv_field rfl fd84_3) ?_
  refine gd_q (i := 4) (d := 47) (op := .load 55 (.tmp 46)) (ty := 55) (g := none) (by kernel_rfl) trivial rfl (by kernel_rfl) (by kernel_rfl) (by kernel_rfl) (by kernel_rfl) (qv_load rfl .auto (ldv_sca sc55 (get_Cac_7 _))) ?_
  refine gd_q (i := 5) (d := 48) (op := .load 29 (.tmp 4)) (ty := 29) (g := none) (by kernel_rfl) trivial rfl (by kernel_rfl) (by kernel_rfl) (by kernel_rfl) (by kernel_rfl) (qv_load rfl .auto (ldv_agg agg29 (extw_Key _) (Nat.le_of_ble_eq_true rfl))) ?_
  refine gd_q (i := 6) (d := 49) (op := .move (.tmp 2)) (ty := 5) (g := none) (by kernel_rfl) trivial rfl (by kernel_rfl) (by kernel_rfl) (by kernel_rfl) (by kernel_rfl) (qv_move rfl) ?_
  refine gd_q (i := 7) (d := 50) (op := .move (.tmp 0)) (ty := 43) (g := none) (by kernel_rfl) trivial rfl (by kernel_rfl) (by kernel_rfl) (by kernel_rfl) (by kernel_rfl) (qv_move rfl) ?_
  refine gd_q (i := 8) (d := 51) (op := .nilCheck (.tmp 50)) (ty := 0) (g := none) (by kernel_rfl) trivial rfl (by kernel_rfl) (by kernel_rfl) (by kernel_rfl) (by kernel_rfl) (qv_nilCheck rfl) ?_
  refine gd_q (i := 9) (d := 52) (op := .fieldAddr 84 (.tmp 51) 0) (ty := 0) (g := none) (by kernel_rfl) trivial rfl (by kernel_rfl) (by kernel_rfl) (by kernel_rfl) (by kernel_rfl) (qv_field rfl fd84_0) ?_
  refine gd_q (i := 10) (d := 53) (op := .load 23 (.tmp 52)) (ty := 23) (g := none) (by kernel_rfl) trivial rfl (by kernel_rfl) (by kernel_rfl) (by kernel_rfl) (by kernel_rfl) (qv_load rfl .auto (ldv_sca sc23 (get_Cac_0 _))) ?_
  refine gd_one (i := 11) (d := some 54) (op := .call { callee := .value (.func 83), args := #[.tmp 48, .tmp 49, .tmp 53], argTypes := #[29, 5, 23] }) (ty := 69) (g := none) (by kernel_rfl) trivial rfl (by kernel_rfl) ?_
  refine os_callP rfl en83 rfl (pu_Start k cls tick) ?_
  refine ⟨fun _ h => by first | exact h | (cases h; done) | exact .tail _ h | exact .tail _ (.tail _ h) | exact List.mem_append_right _ (List.mem_append_right _ h) | exact List.mem_append_right _ h | (simp only [List.mem_cons, List.not_mem_nil, or_false] at h ⊢; first | exact .inl h | exact .inr (.inl h) | exact .inr (.inr (.inl h)) | exact .inr (.inr (.inr (.inl h))) | (subst h; simp; done) | grind), ?_⟩
  refine gd_one (i := 12) (d := some 55) (op := .buildSlice 55 1 #[(0, .tmp 54)]) (ty := 55) (g := none) (by kernel_rfl) trivial rfl (by kernel_rfl) ?_
  refine os_buildSlice (Nat.le_of_ble_eq_true rfl) rfl (bls55_1 _) (fun b55 => ?_)
  refine ⟨fun _ h => by first | exact h | (cases h; done) | exact .tail _ h | exact .tail _ (.tail _ h) | exact List.mem_append_right _ (List.mem_append_right _ h) | exact List.mem_append_right _ h | (simp only [List.mem_cons, List.not_mem_nil, or_false] at h ⊢; first | exact .inl h | exact .inr (.inl h) | exact .inr (.inr (.inl h)) | exact .inr (.inr (.inr (.inl h))) | (subst h; simp; done) | grind), ?_⟩
  refine gd_one (i := 13) (d := some 56) (op := .call { callee := .builtin .append, args := #[.tmp 47, .tmp 55], argTypes := #[55, 55] }) (ty := 55) (g := none) (by kernel_rfl) trivial rfl (by kernel_rfl) ?_
  refine os_appendK (E := eRec) (l := fl1) (l2 := [startR k cls tick]) rfl el55 rfl rfl rfl rfl (hO1) .auto .auto (Go.E.holds_one _) (one_Rec) (by simp [maxLen] <;> omega) (by simp <;> omega) (fun p56 c56 A56 h56 => ?_)
  refine ⟨fun _ h => by first | exact h | (cases h; done) | exact .tail _ h | exact .tail _ (.tail _ h) | exact List.mem_append_right _ (List.mem_append_right _ h) | exact List.mem_append_right _ h | (simp only [List.mem_cons, List.not_mem_nil, or_false] at h ⊢; first | exact .inl h | exact .inr (.inl h) | exact .inr (.inr (.inl h)) | exact .inr (.inr (.inr (.inl h))) | (subst h; simp; done) | grind), ?_⟩
  refine gd_one (i := 14) (d := some 57) (op := .nilCheck (.tmp 43)) (ty := 0) (g := none) (by kernel_rfl) trivial rfl (by kernel_rfl) ?_
  refine os_of_qv (Nat.le_of_ble_eq_true rfl) (qv_nilCheck rfl) ?_
  refine ⟨fun _ h => by first | exact h | (cases h; done) | exact .tail _ h | exact .tail _ (.tail _ h) | exact List.mem_append_right _ (List.mem_append_right _ h) | exact List.mem_append_right _ h | (simp only [List.mem_cons, List.not_mem_nil, or_false] at h ⊢; first | exact .inl h | exact .inr (.inl h) | exact .inr (.inr (.inl h)) | exact .inr (.inr (.inr (.inl h))) | (subst h; simp; done) | grind), ?_⟩
  refine gd_q (i := 15) (d := 58) (op := .fieldAddr 84 (.tmp 57) 3) (ty := 0) (g := none) (by kernel_rfl) trivial rfl (by kernel_rfl) (by kernel_rfl) (by kernel_rfl) (by kernel_rfl) (qv_field rfl fd84_3) ?_
  refine gd_tail [16] rfl (by kernel_rfl) (by kernel_rfl) ?_
  refine go_s0 none (.store 55 (.tmp 58) (.tmp 56)) 0 ?_
  refine os_store1 rfl rfl sz55 rfl rfl .auto (Nat.le_of_ble_eq_true rfl) (set_Cac_7 _ _) ?_
  refine go_nil ?_
  change G _ _ _ _
  refine p_weaken [6] rfl ?_
  refine p_seq0 ?_
  refine p_plain0 (0 :: 1 :: []) ?_
  refine go_q0 59 (.move (.tmp 6)) 55 (qv_move rfl) ?_
  refine go_q0 6 (.assign (.tmp 59)) 55 (qv_assign rfl) ?_
  refine go_nil ?_
  change G _ _ _ _
  refine p_weaken [6] rfl ?_
  refine p_ret0 ?_
  try dsimp only [thenQ, inBlockQ]
  try rw [if_pos rfl]
  refine ret_leftP (B ++ (cacO bc tick bd bt p56 (fl1 ++ [startR k cls tick]).length c56 :: tabO bt bs n (fl1 ++ [startR k cls tick]).length :: slotO bs L' :: A56)) (.inr rfl) (.cons (res_tmp rfl) .nil) (⟨[_, _], perm_beg _ _ _ _ _ _ _⟩) ?_
  exact ⟨fl1, out, q, cq, B, _, hB, rfl, hOo, ⟨bt, bs, n, L', p56, c56, A56, hI2, h56, rfl⟩, rfl⟩
end Go.Proofs.YtobmcpoejhhemaaGreat

namespace Go.Proofs.YtobmcpoejhhemaaGreat
open Go.E

def seenB (p : Pkt) : Bool := decide (p.key.proto = 6) && (!p.fragment && decide (0 < bits .and .u8 p.flags 5))
theorem pu_seen (p : Pkt) : Pu Tryz.prog 58 [.agg p.c] (.bool (seenB p)) := by
  refine ct_body (rv := [.tmp 2]) [(0, _)] Tryz.func58 (by kernel_rfl) Tryz.ntmps58 Tryz.results58 rfl rfl (fun w0 => ?_)
  refine p_seq0 ?_
  refine p_plain0 (0 :: 1 :: []) ?_
  refine go_s0 (some 1) (.box 31 (.tmp 0)) 0 ?_
  refine os_boxA rfl rfl (fun b1 => ?_)
  refine go_q0 2 (.assign (.const (.bool false))) 4 (qv_assign rfl) ?_
  refine go_nil ?_
  change G _ _ _ _
  refine p_weaken [1, 2] rfl ?_
  refine p_seq0 ?_
  refine p_plain0 (0 :: 1 :: 2 :: 3 :: 4 :: 5 :: 6 :: 7 :: 8 :: 9 :: 10 :: 11 :: 12 :: 13 :: 14 :: 15 :: []) ?_
  refine go_q0 3 (.fieldAddr 31 (.tmp 1) 0) 0 (qv_field rfl fd31_0) ?_
  refine go_q0 4 (.fieldAddr 29 (.tmp 3) 2) 0 (qv_field rfl fd29_2) ?_
  refine go_q0 5 (.load 5 (.tmp 4)) 5 (qv_load rfl .auto (ldv_sca sc5 (get_Pkt_34 _))) ?_
  refine go_q0 6 (.binOp .eql 5 (.tmp 5) (.const (.int .u8 6)) 5) 4 (qv_eql rfl rfl rfl) ?_
  refine go_q0 7 (.move (.tmp 6)) 4 (qv_move rfl) ?_
  refine go_case (d := 7) rfl (fun g7 => ?_) (fun g7 => ?_)
  rotate_left
  · replace g7 := kn g7
    refine go_n (d := 8) (op := .fieldAddr 31 (.tmp 1) 3) (ty := 0) (g := some (4, true)) (by kernel_rfl) ⟨7, _, by kernel_rfl, rfl, rfl⟩ rfl ?_
    refine go_n (d := 9) (op := .load 4 (.tmp 8)) (ty := 4) (g := some (4, true)) (by kernel_rfl) ⟨7, _, by kernel_rfl, rfl, rfl⟩ rfl ?_
    refine go_n (d := 10) (op := .unOp .not 4 (.tmp 9)) (ty := 4) (g := some (4, true)) (by kernel_rfl) ⟨7, _, by kernel_rfl, rfl, rfl⟩ rfl ?_
    refine go_q0 11 (.pick (.tmp 7) (.tmp 10) (.const (.bool false))) 4 (qv_pick_f rfl rfl) ?_
    refine go_q0 12 (.move (.tmp 11)) 4 (qv_move rfl) ?_
    refine go_n (d := 13) (op := .fieldAddr 31 (.tmp 1) 2) (ty := 0) (g := some (9, true)) (by kernel_rfl) ⟨12, _, by kernel_rfl, rfl, rfl⟩ rfl ?_
    refine go_n (d := 14) (op := .load 5 (.tmp 13)) (ty := 5) (g := some (9, true)) (by kernel_rfl) ⟨12, _, by kernel_rfl, rfl, rfl⟩ rfl ?_
    refine go_n (d := 15) (op := .binOp .and 5 (.tmp 14) (.const (.int .u8 5)) 5) (ty := 5) (g := some (9, true)) (by kernel_rfl) ⟨12, _, by kernel_rfl, rfl, rfl⟩ rfl ?_
    refine go_n (d := 16) (op := .binOp .gtr 5 (.tmp 15) (.const (.int .u8 0)) 5) (ty := 4) (g := some (9, true)) (by kernel_rfl) ⟨12, _, by kernel_rfl, rfl, rfl⟩ rfl ?_
    refine go_q0 17 (.pick (.tmp 12) (.tmp 16) (.const (.bool false))) 4 (qv_pick_f rfl rfl) ?_
    refine go_q0 2 (.assign (.tmp 17)) 4 (qv_assign rfl) ?_
    refine go_nil ?_
    change G _ _ _ _
    refine p_weaken [2] rfl ?_
    refine p_ret0 ?_
    try dsimp only [thenQ, inBlockQ]
    try rw [if_pos rfl]
    refine ret_now (.inr rfl) (.cons (res_tmp rfl) .nil) (by repeat constructor) ?_
    exact ⟨by unfold seenB; simp [*, E.valOf], rfl⟩
  replace g7 := kn g7
  refine go_q (d := 8) (op := .fieldAddr 31 (.tmp 1) 3) (ty := 0) (g := some (4, true)) (by kernel_rfl) ⟨7, by kernel_rfl, rfl⟩ rfl (qv_field rfl fd31_3) ?_
  refine go_q (d := 9) (op := .load 4 (.tmp 8)) (ty := 4) (g := some (4, true)) (by kernel_rfl) ⟨7, by kernel_rfl, rfl⟩ rfl (qv_load rfl .auto (ldv_sca sc4 (get_Pkt_39 _))) ?_
  refine go_q (d := 10) (op := .unOp .not 4 (.tmp 9)) (ty := 4) (g := some (4, true)) (by kernel_rfl) ⟨7, by kernel_rfl, rfl⟩ rfl (qv_not rfl) ?_
  refine go_q0 11 (.pick (.tmp 7) (.tmp 10) (.const (.bool false))) 4 (qv_pick_t rfl rfl) ?_
  refine go_q0 12 (.move (.tmp 11)) 4 (qv_move rfl) ?_
  refine go_case (d := 12) rfl (fun g12 => ?_) (fun g12 => ?_)
  · replace g12 := kn g12
    refine go_q (d := 13) (op := .fieldAddr 31 (.tmp 1) 2) (ty := 0) (g := some (9, true)) (by kernel_rfl) ⟨12, by kernel_rfl, rfl⟩ rfl (qv_field rfl fd31_2) ?_
    refine go_q (d := 14) (op := .load 5 (.tmp 13)) (ty := 5) (g := some (9, true)) (by kernel_rfl) ⟨12, by kernel_rfl, rfl⟩ rfl (qv_load rfl .auto (ldv_sca sc5 (get_Pkt_38 _))) ?_
    refine go_q (d := 15) (op := .binOp .and 5 (.tmp 14) (.const (.int .u8 5)) 5) (ty := 5) (g := some (9, true)) (by kernel_rfl) ⟨12, by kernel_rfl, rfl⟩ rfl (qv_and rfl rfl (rfl)) ?_
    refine go_q (d := 16) (op := .binOp .gtr 5 (.tmp 15) (.const (.int .u8 0)) 5) (ty := 4) (g := some (9, true)) (by kernel_rfl) ⟨12, by kernel_rfl, rfl⟩ rfl (qv_gtr rfl rfl rfl) ?_
    refine go_q0 17 (.pick (.tmp 12) (.tmp 16) (.const (.bool false))) 4 (qv_pick_t rfl rfl) ?_
    refine go_q0 2 (.assign (.tmp 17)) 4 (qv_assign rfl) ?_
    refine go_nil ?_
    change G _ _ _ _
    refine p_weaken [2] rfl ?_
    refine p_ret0 ?_
    try dsimp only [thenQ, inBlockQ]
    try rw [if_pos rfl]
    refine ret_now (.inr rfl) (.cons (res_tmp rfl) .nil) (by repeat constructor) ?_
    exact ⟨by unfold seenB; simp [*, E.valOf], rfl⟩
  replace g12 := kn g12
  refine go_n (d := 13) (op := .fieldAddr 31 (.tmp 1) 2) (ty := 0) (g := some (9, true)) (by kernel_rfl) ⟨12, _, by kernel_rfl, rfl, rfl⟩ rfl ?_
  refine go_n (d := 14) (op := .load 5 (.tmp 13)) (ty := 5) (g := some (9, true)) (by kernel_rfl) ⟨12, _, by kernel_rfl, rfl, rfl⟩ rfl ?_
  refine go_n (d := 15) (op := .binOp .and 5 (.tmp 14) (.const (.int .u8 5)) 5) (ty := 5) (g := some (9, true)) (by kernel_rfl) ⟨12, _, by kernel_rfl, rfl, rfl⟩ rfl ?_
  refine go_n (d := 16) (op := .binOp .gtr 5 (.tmp 15) (.const (.int .u8 0)) 5) (ty := 4) (g := some (9, true)) (by kernel_rfl) ⟨12, _, by kernel_rfl, rfl, rfl⟩ rfl ?_
  refine go_q0 17 (.pick (.tmp 12) (.tmp 16) (.const (.bool false))) 4 (qv_pick_f rfl rfl) ?_
  refine go_q0 2 (.assign (.tmp 17)) 4 (qv_assign rfl) ?_
  refine go_nil ?_
  change G _ _ _ _
  refine p_weaken [2] rfl ?_
  refine p_ret0 ?_
  try dsimp only [thenQ, inBlockQ]
  try rw [if_pos rfl]
  refine ret_now (.inr rfl) (.cons (res_tmp rfl) .nil) (by repeat constructor) ?_
  exact ⟨by unfold seenB; simp [*, E.valOf], rfl⟩
def AdvAny (bd : Bnd) (tick tick' : Int) (fl fl1 out : List Rec) : Prop := (tick' < tick ∧ out = [] ∧ fl1 = fl) ∨ (tick ≤ tick' ∧ AdvR bd tick' fl fl1 out)
def tickTo (tick tick' : Int) : Int := if tick ≤ tick' then tick' else tick
theorem ct_AdvanceAny {bc : Nat} {tick : Int} (tick' : Int) {bd : Bnd} {fl : List Rec} {M : Mem} (hM : CacM bc tick bd fl M) :
    Ct Tryz.prog 18 [.pointer (some ⟨bc, 0, none⟩), .int .u64 tick'].toArray M (fun v M' => ∃ fl' out q cq B M1, AdvAny bd tick tick' fl fl' out ∧ v = .slice q out.length cq ∧ OwnL eRec 69 q cq out B ∧ CacM bc (tickTo tick tick') bd fl' M1 ∧ M' = B ++ M1) := by
  by_cases h : tick ≤ tick'
  · refine (ct_Advance hM h).mono ?_
    rintro v M' ⟨fl', out, q, cq, B, M1, hA, hv, hO, hM1, hM'⟩
    exact ⟨fl', out, q, cq, B, M1, .inr ⟨h, hA⟩, hv, hO, by unfold tickTo; rw [if_pos h]; exact hM1, hM'⟩
  · refine (ct_AdvanceLow hM (by omega)).mono ?_
    rintro v M' ⟨hv, hM'⟩
    exact ⟨fl, [], none, 0, [], M, .inl ⟨by omega, rfl, rfl⟩, hv, OwnL.nil, by unfold tickTo; rw [if_neg h]; exact hM, hM'⟩
theorem Kp.getAny {n : Nat} {L : List Slot} {ks : List Key} {ns : List Int} (hn : Pow n) (h : Kp n L ks ns) (k : Key) : ∃ v, getV L k = .tuple #[.int .u64 v, .bool (decide (k ∈ ks))] ∧ ∀ (i : Nat), ks[i]? = some k → ns[i]? = some v := by
  by_cases hm : k ∈ ks
  · obtain ⟨i, hi, he⟩ := List.getElem_of_mem hm
    have hi' : ks[i]? = some k := by rw [List.getElem?_eq_getElem hi, he]
    obtain ⟨p, v, _, hv, _⟩ := h.at_ hi'
    refine ⟨v, by rw [decide_eq_true hm]; exact h.get hn hi' hv, fun j hj => ?_⟩
    rw [h.inj j i k hj hi']; exact hv
  · refine ⟨0, ?_, fun i hi => absurd (List.mem_of_getElem? hi) hm⟩
    unfold getV
    rw [h.hasNone hn hm, decide_eq_false hm]
def endZ (bd : Bnd) (p : Pkt) (r : Rec) : Int := if seenB p = true then 3 else if bd.packets ≤ r.packets ∨ bd.bytes ≤ r.bytes then 4 else 0
/-- What accounting a packet does. -/
def AccR (bd : Bnd) (tick tick' : Int) (p : Pkt) (cls : Int) (fl fl' out : List Rec) : Prop :=
  ∃ fl1 out1 fl2 out2 i r, AdvAny bd tick tick' fl fl1 out1 ∧
    ((p.key ∈ keysOf fl1 ∧ fl2 = fl1 ∧ out2 = []) ∨ (p.key ∉ keysOf fl1 ∧ ∃ flb, BegR bd fl1 flb out2 ∧ fl2 = flb ++ [startR p.key cls (tickTo tick tick')])) ∧
    fl2[i]? = some r ∧ r.key = p.key ∧
    ((endZ bd p (r.with_ p (tickTo tick tick')) = 0 ∧ fl' = fl2.set i (r.with_ p (tickTo tick tick')) ∧ out = out1 ++ out2) ∨
     (endZ bd p (r.with_ p (tickTo tick tick')) ≠ 0 ∧ fl' = swapOut (fl2.set i (r.with_ p (tickTo tick tick'))) i ∧ out = out1 ++ out2 ++ [{ r.with_ p (tickTo tick tick') with reason := endZ bd p (r.with_ p (tickTo tick tick')) }]))
theorem with_wf {r : Rec} {p : Pkt} {tick : Int} (h : r.Wf) (hp : p.Wf) (ht : InK .u64 tick) : (r.with_ p tick).Wf := by
  obtain ⟨a, b, c, d, e, f, g, i⟩ := h
  obtain ⟨pk, pl, pf⟩ := hp
  have ho : ∀ x y : Int, InK .u8 x → InK .u8 y → InK .u8 (bits .or .u8 x y) := fun x y _ _ => by
    have hw : ∀ z : Int, InK .u8 (IntKind.u8.wrap z) := fun z => by
      have e : IntKind.u8.wrap z = z % 256 := by simp [IntKind.wrap, IntKind.bits, IntKind.signed]
      rw [e]
      exact ⟨Int.emod_nonneg _ (by decide), by have := Int.emod_lt_of_pos z (show (0 : Int) < 256 by decide); simp [IntKind.max, IntKind.bits, IntKind.signed]; omega⟩
    exact hw _
  have hl : U64 (max 0 p.length) := by
    have h1 : p.length ≤ 9223372036854775807 := pl.2
    unfold U64; omega
  refine ⟨a, sat_ok b (by unfold U64; omega), sat_ok c hl, d, ?_, ho _ _ f pf, g, i⟩
  show InK .u64 (max r.last tick)
  rcases Int.le_total r.last tick with h | h
  · rw [Int.max_eq_right h]; exact ht
  · rw [Int.max_eq_left h]; exact e
theorem keysOf_set {fl : List Rec} {i : Nat} {r r' : Rec} (h : fl[i]? = some r) (hk : r'.key = r.key) : keysOf (fl.set i r') = keysOf fl := by
  unfold keysOf
  rw [List.map_set, hk]
  obtain ⟨hi, rfl⟩ := List.getElem?_eq_some_iff.1 h
  have : fl[i].key = (fl.map (·.key))[i]'(by simpa using hi) := by simp
  rw [this, List.set_getElem_self]
theorem CacI.set {bd : Bnd} {n : Nat} {L : List Slot} {fl : List Rec} {i : Nat} {r r' : Rec} (h : CacI bd n L fl) (hi : fl[i]? = some r) (hk : r'.key = r.key) (hw : r'.Wf) : CacI bd n L (fl.set i r') := by
  have hm : ∀ x ∈ fl.set i r', x ∈ fl ∨ x = r' := fun x hx => List.mem_or_eq_of_mem_set hx
  refine ⟨h.pow, h.big, by rw [keysOf_set hi hk, List.length_set]; exact h.kp, fun x hx => ?_, fun x hx => ?_, by rw [List.length_set]; exact h.le, h.bw, h.most, h.least⟩
  · rcases hm x hx with h1 | rfl
    · exact h.wf x h1
    · exact hw
  · rcases hm x hx with h1 | rfl
    · exact h.rt x h1
    · rw [hk]; exact h.rt r (List.mem_of_getElem? hi)
end Go.Proofs.YtobmcpoejhhemaaGreat

namespace Go.Proofs.YtobmcpoejhhemaaGreat
open Go.E

theorem tickTo_in {a b : Int} (ha : InK .u64 a) (hb : InK .u64 b) : InK .u64 (tickTo a b) := by unfold tickTo; split; exact hb; exact ha
theorem ct_endK {bc : Nat} {tick : Int} {bd : Bnd} {fl : List Rec} {M : Mem} {i : Nat} {r : Rec} {k : Key} (reason : Int) (hM : CacM bc tick bd fl M) (hi : fl[i]? = some r) (hk : k = r.key) :
    Ct Tryz.prog 59 [.pointer (some ⟨bc, 0, none⟩), .agg k.c, .int .u8 reason].toArray M (fun v M' => v = .agg ({ r with reason := reason } : Rec).c ∧ CacM bc tick bd (swapOut fl i) M') := by
  subst hk
  exact ct_end reason hM hi
theorem ct_AccountBad {bc : Nat} {tick tick' cls : Int} {bd : Bnd} {fl : List Rec} {M : Mem} {p : Pkt} (hM : CacM bc tick bd fl M) (hr : p.key.right = false) :
    Ct Tryz.prog 21 [.pointer (some ⟨bc, 0, none⟩), .agg p.c, .int .u8 cls, .int .u64 tick'].toArray M (fun v M' => v = .tuple #[.slice none 0 0, .int .i64 2] ∧ M' = M) := by
  have hR := hr ▸ pu_KeyRight p.key
  refine ct_body (rv := [.tmp 8, .tmp 9]) [(0, _), (1, _), (2, _), (3, _)] Tryz.func21 (by kernel_rfl) Tryz.ntmps21 Tryz.results21 rfl rfl (fun w0 => ?_)
  refine p_seq0 ?_
  refine p_plain0 (0 :: 1 :: 2 :: []) ?_
  refine go_s0 (some 5) (.box 31 (.tmp 1)) 0 ?_
  refine os_boxA rfl rfl (fun b5 => ?_)
  refine go_q0 8 (.assign (.const (.slice none 0 0))) 55 (qv_assign rfl) ?_
  refine go_q0 9 (.assign (.const (.int .i64 0))) 44 (qv_assign rfl) ?_
  refine go_nil ?_
  change G _ _ _ _
  refine p_weaken [0, 2, 3, 5, 8, 9] rfl ?_
  refine p_seq0 ?_
  refine p_block 0 (by kernel_rfl) ?_
  refine p_seq0 ?_
  refine p_plain0 (0 :: 1 :: 2 :: []) ?_
  refine go_q0 17 (.move (.tmp 0)) 43 (qv_move rfl) ?_
  refine go_q0 18 (.binOp .eql 43 (.tmp 17) (.const (.pointer none)) 43) 4 (qv_eqlP un43 rfl) ?_
  refine go_q0 16 (.assign (.tmp 18)) 4 (qv_assign rfl) ?_
  refine go_nil ?_
  change G _ _ _ _
  refine p_weaken [0, 2, 3, 5, 8, 9, 16] rfl ?_
  refine p_condF (.tmp 16) (by kernel_rfl) rfl ?_
  refine p_seq0 ?_
  refine p_plain0 (0 :: 1 :: 2 :: 3 :: 4 :: []) ?_
  refine go_q0 20 (.fieldAddr 31 (.tmp 5) 0) 0 (qv_field rfl fd31_0) ?_
  refine go_q0 21 (.load 29 (.tmp 20)) 29 (qv_load rfl .auto (ldv_agg agg29 (ext_Pkt_0_37 _) (Nat.le_of_ble_eq_true rfl))) ?_
  refine go_s0 (some 22) (.call { callee := .value (.func 20), args := #[.tmp 21], argTypes := #[29] }) 4 ?_
  refine os_callP rfl en20 rfl (hR) ?_
  refine go_q0 23 (.unOp .not 4 (.tmp 22)) 4 (qv_not rfl) ?_
  refine go_q0 19 (.assign (.tmp 23)) 4 (qv_assign rfl) ?_
  refine go_nil ?_
  change G _ _ _ _
  refine p_weaken [0, 2, 3, 5, 8, 9, 19] rfl ?_
  refine p_condT (.tmp 19) (by kernel_rfl) rfl ?_
  refine p_seq0 ?_
  refine p_plain0 (0 :: 1 :: []) ?_
  refine go_q0 8 (.assign (.const (.slice none 0 0))) 55 (qv_assign rfl) ?_
  refine go_q0 9 (.assign (.const (.int .i64 2))) 44 (qv_assign rfl) ?_
  refine go_nil ?_
  change G _ _ _ _
  refine p_weaken [0, 2, 3, 5, 8, 9] rfl ?_
  refine p_ret0 ?_
  try dsimp only [thenQ, inBlockQ]
  try rw [if_pos rfl]
  refine ret_left (M) (.inr rfl) (.cons (res_tmp rfl) (.cons (res_tmp rfl) .nil)) .auto ?_
  exact ⟨rfl, rfl⟩
theorem CacM.le {bc : Nat} {tick : Int} {bd : Bnd} {fl : List Rec} {M : Mem} (hM : CacM bc tick bd fl M) : fl.length ≤ 4096 := by
  obtain ⟨_, _, _, _, _, _, _, hI, _⟩ := hM
  have := hI.le; have := hI.most; omega
theorem AdvAny.out_len {bc : Nat} {tick tick' : Int} {bd : Bnd} {fl fl1 out : List Rec} {M : Mem} (h : AdvAny bd tick tick' fl fl1 out) (hM : CacM bc tick bd fl M) : out.length ≤ 4096 := by
  have hle := hM.le
  rcases h with ⟨_, rfl, _⟩ | ⟨_, srt, hp, _, rfl, _⟩
  · simp
  · unfold told
    rw [List.length_map, hp.length_eq]
    exact Nat.le_trans (List.length_filter_le _ _) hle
theorem BegR.out_len {bd : Bnd} {fl fl1 out : List Rec} (h : BegR bd fl fl1 out) : out.length ≤ 1 := by
  rcases h with ⟨_, _, _, _, rfl, _⟩ | ⟨_, rfl, _⟩ <;> simp
section
variable {bd : Bnd} {tick tick' cls : Int} {p : Pkt} {fl fl1 fl2 fl' out1 o12 : List Rec} {i : Nat} {r : Rec}
theorem acc_len (h : ∃ out2, o12 = out1 ++ out2 ∧ ((p.key ∈ keysOf fl1 ∧ fl2 = fl1 ∧ out2 = []) ∨ (p.key ∉ keysOf fl1 ∧ ∃ flb, BegR bd fl1 flb out2 ∧ fl2 = flb ++ [startR p.key cls (tickTo tick tick')]))) (hl : out1.length ≤ 4096) : o12.length ≤ 4097 := by
  obtain ⟨out2, rfl, h | ⟨_, _, h, _⟩⟩ := h
  · rw [h.2.2]; simp; omega
  · have := h.out_len; simp; omega
theorem acc_find (h : ∃ out2, o12 = out1 ++ out2 ∧ ((p.key ∈ keysOf fl1 ∧ fl2 = fl1 ∧ out2 = []) ∨ (p.key ∉ keysOf fl1 ∧ ∃ flb, BegR bd fl1 flb out2 ∧ fl2 = flb ++ [startR p.key cls (tickTo tick tick')]))) : ∃ (i : Nat) (r : Rec), fl2[i]? = some r ∧ r.key = p.key := by
  obtain ⟨out2, _, ⟨hm, rfl, _⟩ | ⟨_, flb, _, rfl⟩⟩ := h
  · obtain ⟨x, hx, he⟩ := List.mem_map.1 hm
    obtain ⟨i, hi, rfl⟩ := List.getElem_of_mem hx
    exact ⟨i, _, List.getElem?_eq_getElem hi, he⟩
  · exact ⟨flb.length, startR p.key cls (tickTo tick tick'), by rw [List.getElem?_append_right (Nat.le_refl _)]; simp, rfl⟩
theorem endZ4 (h : seenB p = false) (h2 : bd.packets ≤ r.packets ∨ bd.bytes ≤ r.bytes) : endZ bd p r = 4 := by unfold endZ; rw [if_neg (by rw [h]; decide), if_pos h2]
theorem endZ0 (h : seenB p = false) (h2 : ¬ (bd.packets ≤ r.packets ∨ bd.bytes ≤ r.bytes)) : endZ bd p r = 0 := by unfold endZ; rw [if_neg (by rw [h]; decide), if_neg h2]
theorem acc_stay (hA : AdvAny bd tick tick' fl fl1 out1) (h : ∃ out2, o12 = out1 ++ out2 ∧ ((p.key ∈ keysOf fl1 ∧ fl2 = fl1 ∧ out2 = []) ∨ (p.key ∉ keysOf fl1 ∧ ∃ flb, BegR bd fl1 flb out2 ∧ fl2 = flb ++ [startR p.key cls (tickTo tick tick')]))) (hi : fl2[i]? = some r) (hk : r.key = p.key)
    (hz : endZ bd p (r.with_ p (tickTo tick tick')) = 0) (hf : fl' = fl2.set i (r.with_ p (tickTo tick tick'))) : AccR bd tick tick' p cls fl fl' o12 := by
  obtain ⟨out2, rfl, hc⟩ := h
  exact ⟨fl1, out1, fl2, out2, i, r, hA, hc, hi, hk, .inl ⟨hz, hf, rfl⟩⟩
theorem acc_end {z : Int} (hA : AdvAny bd tick tick' fl fl1 out1) (h : ∃ out2, o12 = out1 ++ out2 ∧ ((p.key ∈ keysOf fl1 ∧ fl2 = fl1 ∧ out2 = []) ∨ (p.key ∉ keysOf fl1 ∧ ∃ flb, BegR bd fl1 flb out2 ∧ fl2 = flb ++ [startR p.key cls (tickTo tick tick')]))) (hi : fl2[i]? = some r) (hk : r.key = p.key)
    (hz : endZ bd p (r.with_ p (tickTo tick tick')) = z) (h0 : z ≠ 0) : AccR bd tick tick' p cls fl (swapOut (fl2.set i (r.with_ p (tickTo tick tick'))) i) (o12 ++ [{ r.with_ p (tickTo tick tick') with reason := z }]) := by
  obtain ⟨out2, rfl, hc⟩ := h
  subst hz
  exact ⟨fl1, out1, fl2, out2, i, r, hA, hc, hi, hk, .inr ⟨h0, rfl, rfl⟩⟩
end
theorem ct_Account {bc : Nat} {tick tick' cls : Int} {bd : Bnd} {fl : List Rec} {M : Mem} {p : Pkt} (hM : CacM bc tick bd fl M) (hp : p.Wf) (hr : p.key.right = true) (ht : InK .u64 tick) (ht' : InK .u64 tick') (hcl : InK .u8 cls) :
    Ct Tryz.prog 21 [.pointer (some ⟨bc, 0, none⟩), .agg p.c, .int .u8 cls, .int .u64 tick'].toArray M (fun v M' => ∃ fl' out q cq B M1, AccR bd tick tick' p cls fl fl' out ∧ v = .tuple #[.slice q out.length cq, .int .i64 0] ∧ OwnL eRec 69 q cq out B ∧ CacM bc (tickTo tick tick') bd fl' M1 ∧ M' = B ++ M1) := by
  have hR := hr ▸ pu_KeyRight p.key
  have hT := tickTo_in ht ht'
  refine ct_body (rv := [.tmp 8, .tmp 9]) [(0, _), (1, _), (2, _), (3, _)] Tryz.func21 (by kernel_rfl) Tryz.ntmps21 Tryz.results21 rfl rfl (fun w0 => ?_)
  refine p_seq0 ?_
  refine p_plain0 (0 :: 1 :: 2 :: []) ?_
  refine go_s0 (some 5) (.box 31 (.tmp 1)) 0 ?_
  refine os_boxA rfl rfl (fun b5 => ?_)
  refine go_q0 8 (.assign (.const (.slice none 0 0))) 55 (qv_assign rfl) ?_
  refine go_q0 9 (.assign (.const (.int .i64 0))) 44 (qv_assign rfl) ?_
  refine go_nil ?_
  change G _ _ _ _
  refine p_weaken [0, 2, 3, 5, 8, 9] rfl ?_
  refine p_seq0 ?_
  refine p_block 0 (by kernel_rfl) ?_
  refine p_seq0 ?_
  refine p_plain0 (0 :: 1 :: 2 :: []) ?_
  refine go_q0 17 (.move (.tmp 0)) 43 (qv_move rfl) ?_
  refine go_q0 18 (.binOp .eql 43 (.tmp 17) (.const (.pointer none)) 43) 4 (qv_eqlP un43 rfl) ?_
  refine go_q0 16 (.assign (.tmp 18)) 4 (qv_assign rfl) ?_
  refine go_nil ?_
  change G _ _ _ _
  refine p_weaken [0, 2, 3, 5, 8, 9, 16] rfl ?_
  refine p_condF (.tmp 16) (by kernel_rfl) rfl ?_
  refine p_seq0 ?_
  refine p_plain0 (0 :: 1 :: 2 :: 3 :: 4 :: []) ?_
  refine go_q0 20 (.fieldAddr 31 (.tmp 5) 0) 0 (qv_field rfl fd31_0) ?_
  refine go_q0 21 (.load 29 (.tmp 20)) 29 (qv_load rfl .auto (ldv_agg agg29 (ext_Pkt_0_37 _) (Nat.le_of_ble_eq_true rfl))) ?_
  refine go_s0 (some 22) (.call { callee := .value (.func 20), args := #[.tmp 21], argTypes := #[29] }) 4 ?_
  refine os_callP rfl en20 rfl (hR) ?_
  refine go_q0 23 (.unOp .not 4 (.tmp 22)) 4 (qv_not rfl) ?_
  refine go_q0 19 (.assign (.tmp 23)) 4 (qv_assign rfl) ?_
  refine go_nil ?_
  change G _ _ _ _
  refine p_weaken [0, 2, 3, 5, 8, 9, 19] rfl ?_
  refine p_condF (.tmp 19) (by kernel_rfl) rfl ?_
  refine p_skip0 ?_
  change G _ _ _ _
  refine p_weaken [0, 2, 3, 5, 8, 9] rfl ?_
  refine p_seq0 ?_
  refine p_plain0 (0 :: 1 :: 2 :: 3 :: []) ?_
  refine go_q0 24 (.move (.tmp 0)) 43 (qv_move rfl) ?_
  refine go_q0 25 (.move (.tmp 3)) 23 (qv_move rfl) ?_
  refine go_s0 (some 26) (.call { callee := .value (.func 18), args := #[.tmp 24, .tmp 25], argTypes := #[43, 23] }) 55 ?_
  refine os_call (Nat.le_of_ble_eq_true rfl) en18 rfl .auto (ct_AdvanceAny tick' hM) ?_
  rintro v26 A26 ⟨fl1, out1, q1, c1, B1, M1, hA, rfl, hO1, hM1, rfl⟩
  try dsimp only [List.nil_append, List.cons_append]
  refine go_q0 10 (.assign (.tmp 26)) 55 (qv_assign rfl) ?_
  refine go_nil ?_
  change G _ _ _ _
  refine p_weaken [0, 2, 5, 8, 9, 10] rfl ?_
  refine p_seqK [0, 5, 8, 9] rfl (fun frk Mk s => ∃ (fl2 : List Rec) (o12 : List Rec) (q : Option Addr) (cq : Nat) (B : Mem) (M2 : Mem), (∃ out2, o12 = out1 ++ out2 ∧ ((p.key ∈ keysOf fl1 ∧ fl2 = fl1 ∧ out2 = []) ∨ (p.key ∉ keysOf fl1 ∧ ∃ flb, BegR bd fl1 flb out2 ∧ fl2 = flb ++ [startR p.key cls (tickTo tick tick')]))) ∧ (OwnL eRec 69 q cq o12 B) ∧ (CacM bc (tickTo tick tick') bd fl2 M2) ∧ Ge s ⟨[], (10, .slice q o12.length cq) :: frk, B ++ ((b5, .cells p.c 31 (0, 0)) :: M2)⟩) (by kernel_rfl) ?_ ?_
  · refine p_seq0 ?_
    have hM1c := hM1
    obtain ⟨bt, bs, n, L, pf, cf, Af, hI, hO, rfl⟩ := hM1
    have hn := hI.pow
    have hn1 := hn.pos
    have hn2 := hn.le
    have hle := hI.le
    have hmost := hI.most
    obtain ⟨gv, hgv, _⟩ := hI.kp.getAny hn p.key
    have hG1 := ct_Get (bt := bt) (bs := bs) (many := fl1.length) (L := L) (k := p.key) hp.key_ (by have := hI.kp.L_len; omega) (by have := hI.kp.L_len; omega)
    rw [hI.kp.L_len, hgv] at hG1
    have hol1 := hA.out_len hM
    refine p_drop (B1 ++ ((b5, .cells p.c 31 (0, 0)) :: cacO bc (tickTo tick tick') bd bt pf fl1.length cf :: tabO bt bs n fl1.length :: slotO bs L :: Af)) .auto ?_
    refine p_draw (by kernel_rfl) mixed 11 12 _ (fun _ h => h) (by kernel_rfl) ?_
    refine gd_all (0 :: 1 :: 2 :: 3 :: 4 :: 5 :: 6 :: 7 :: 8 :: 9 :: 10 :: []) _ rfl (by kernel_rfl) (by decide) (fun _ h => h) rfl ?_
    refine sq_q0 28 (.move (.tmp 0)) 43 (qv_move rfl) ?_
    refine sq_q0 29 (.nilCheck (.tmp 28)) 0 (qv_nilCheck rfl) ?_
    refine sq_q0 30 (.fieldAddr 84 (.tmp 29) 2) 0 (qv_field rfl fd84_2) ?_
    refine sq_q0 31 (.load 78 (.tmp 30)) 78 (qv_load rfl .auto (ldv_sca sc78 (get_Cac_6 _))) ?_
    refine sq_q0 32 (.fieldAddr 31 (.tmp 5) 0) 0 (qv_field rfl fd31_0) ?_
    refine sq_q0 33 (.load 29 (.tmp 32)) 29 (qv_load rfl .auto (ldv_agg agg29 (ext_Pkt_0_37 _) (Nat.le_of_ble_eq_true rfl))) ?_
    refine sq_p (d := 34) (op := .call { callee := .value (.func 55), args := #[.tmp 31, .tmp 33], argTypes := #[78, 29] }) (ty := 72) (g := none) (by kernel_rfl) trivial (pv_callR en55 rfl .auto (hG1)) ?_
    refine sq_q0 27 (.move (.tmp 34)) 72 (qv_move rfl) ?_
    refine sq_q0 35 (.extract (.tmp 27) 0) 23 (qv_extract rfl rfl) ?_
    refine sq_q0 36 (.extract (.tmp 27) 1) 4 (qv_extract rfl rfl) ?_
    refine sq_q0 11 (.assign (.tmp 35)) 23 (qv_assign rfl) ?_
    refine SeqK.nil (fun β => ?_)
    refine gd_tail [11] rfl (by kernel_rfl) (by kernel_rfl) ?_
    refine go_q0 12 (.assign (.tmp 36)) 4 (qv_assign rfl) ?_
    refine go_nil ?_
    change G _ _ _ _
    refine p_weaken [0, 2, 5, 8, 9, 10, 12] rfl ?_
    refine p_seq0 ?_
    refine p_plain0 (0 :: 1 :: []) ?_
    refine go_q0 37 (.move (.tmp 12)) 4 (qv_move rfl) ?_
    refine go_q0 38 (.unOp .not 4 (.tmp 37)) 4 (qv_not rfl) ?_
    refine go_nil ?_
    change G _ _ _ _
    refine p_weaken [0, 2, 5, 8, 9, 10, 38] rfl ?_
    refine p_cond (.tmp 38) (by kernel_rfl) rfl (fun h38 => ?_) (fun h38 => ?_)
    rotate_left
    · replace h38 := kn h38
      have hCn : ∃ out2, out1 = out1 ++ out2 ∧ ((p.key ∈ keysOf fl1 ∧ fl1 = fl1 ∧ out2 = []) ∨ (p.key ∉ keysOf fl1 ∧ ∃ flb, BegR bd fl1 flb out2 ∧ fl1 = flb ++ [startR p.key cls (tickTo tick tick')])) := ⟨[], by simp, .inl ⟨h38, rfl, rfl⟩⟩
      have hOn := hO1
      have hMn := hM1c
      refine p_skip0 ?_
      exact ⟨_, _, _, _, _, _, hCn, hOn, hMn, ⟨rfl, ⟨[10, 0, 5, 8, 9], rfl⟩, .auto⟩⟩
    replace h38 := kn h38
    have hBeg := ct_begin hM1c hp.key_ hr h38 hT hcl
    refine p_plain0 (0 :: 1 :: 2 :: 3 :: 4 :: 5 :: 6 :: 7 :: []) ?_
    refine go_q0 39 (.move (.tmp 10)) 55 (qv_move rfl) ?_
    refine go_q0 40 (.move (.tmp 0)) 43 (qv_move rfl) ?_
    refine go_q0 41 (.fieldAddr 31 (.tmp 5) 0) 0 (qv_field rfl fd31_0) ?_
    refine go_q0 42 (.load 29 (.tmp 41)) 29 (qv_load rfl .auto (ldv_agg agg29 (ext_Pkt_0_37 _) (Nat.le_of_ble_eq_true rfl))) ?_
    refine go_q0 43 (.move (.tmp 2)) 5 (qv_move rfl) ?_
    refine go_s0 (some 44) (.call { callee := .value (.func 56), args := #[.tmp 40, .tmp 42, .tmp 43], argTypes := #[43, 29, 5] }) 55 ?_
    refine os_call (Nat.le_of_ble_eq_true rfl) en56 rfl (Sel.skipA (Sel.skip Sel.all)) (hBeg) ?_
    rintro v44 A44 ⟨flb, out2, q2, c2, B2, M2, hBg, rfl, hO2, hM2, rfl⟩
    try dsimp only [List.nil_append, List.cons_append]
    have hol2 := hBg.out_len
    refine go_s0 (some 45) (.call { callee := .builtin .append, args := #[.tmp 39, .tmp 44], argTypes := #[55, 55] }) 55 ?_
    refine os_appendO (E := eRec) (l := out1) (l2 := out2) rfl el55 rfl rfl rfl rfl hO1 (Sel.skipA Sel.app) hO2 (fun q hq => List.mem_append_left _ (List.mem_append_left _ hq)) one_Rec (by simp [maxLen] <;> omega) (by omega) (fun p45 c45 A45 h45 => ?_)
    have hOn := h45
    have hMn := hM2
    have hCn : ∃ o2, out1 ++ out2 = out1 ++ o2 ∧ ((p.key ∈ keysOf fl1 ∧ flb ++ [startR p.key cls (tickTo tick tick')] = fl1 ∧ o2 = []) ∨ (p.key ∉ keysOf fl1 ∧ ∃ flb', BegR bd fl1 flb' o2 ∧ flb ++ [startR p.key cls (tickTo tick tick')] = flb' ++ [startR p.key cls (tickTo tick tick')])) := ⟨out2, rfl, .inr ⟨h38, flb, hBg, rfl⟩⟩
    refine go_q0 10 (.assign (.tmp 45)) 55 (qv_assign rfl) ?_
    refine go_nil ?_
    exact ⟨_, _, _, _, _, _, hCn, hOn, hMn, ⟨rfl, ⟨[10, 0, 5, 8, 9], rfl⟩, .auto⟩⟩
  rintro s ⟨fl2, o12, q, cq, B, M2, hC2, hOo, hM2, hs⟩
  refine ge_ok hs ?_
  refine p_seq0 ?_
  obtain ⟨bt, bs, n, L, pf, cf, Af, hI2, hO2, rfl⟩ := hM2
  have hn' := hI2.pow
  obtain ⟨i, r, hir, hrk⟩ := acc_find hC2
  have hil := (List.getElem?_eq_some_iff.1 hir).1
  have hki := keysOf_at hir
  rw [hrk] at hki
  have hrw := hI2.wf r (List.mem_of_getElem? hir)
  obtain ⟨bf, cur, rfl, rfl, hc1, hc2, hc3, H⟩ := hO2.some_ (by omega)
  have hG2 := ct_GetK (bt := bt) (many := fl2.length) (bs := bs) hn' hI2.kp hki (idx_at hil)
  have hww := with_wf (p := p) hrw hp hT
  have hol := acc_len hC2 (hA.out_len hM)
  refine p_draw (by kernel_rfl) mixed 11 12 _ (fun _ h => h) (by kernel_rfl) ?_
  refine gd_all (0 :: 1 :: 2 :: 3 :: 4 :: 5 :: 6 :: 7 :: 8 :: 9 :: 10 :: []) _ rfl (by kernel_rfl) (by decide) (fun _ h => h) rfl ?_
  refine sq_q0 47 (.move (.tmp 0)) 43 (qv_move rfl) ?_
  refine sq_q0 48 (.nilCheck (.tmp 47)) 0 (qv_nilCheck rfl) ?_
  refine sq_q0 49 (.fieldAddr 84 (.tmp 48) 2) 0 (qv_field rfl fd84_2) ?_
  refine sq_q0 50 (.load 78 (.tmp 49)) 78 (qv_load rfl .auto (ldv_sca sc78 (get_Cac_6 _))) ?_
  refine sq_q0 51 (.fieldAddr 31 (.tmp 5) 0) 0 (qv_field rfl fd31_0) ?_
  refine sq_q0 52 (.load 29 (.tmp 51)) 29 (qv_load rfl .auto (ldv_agg agg29 (ext_Pkt_0_37 _) (Nat.le_of_ble_eq_true rfl))) ?_
  refine sq_p (d := 53) (op := .call { callee := .value (.func 55), args := #[.tmp 50, .tmp 52], argTypes := #[78, 29] }) (ty := 72) (g := none) (by kernel_rfl) trivial (pv_callR en55 rfl .auto (hG2)) ?_
  refine sq_q0 46 (.move (.tmp 53)) 72 (qv_move rfl) ?_
  refine sq_q0 54 (.extract (.tmp 46) 0) 23 (qv_extract rfl rfl) ?_
  refine sq_q0 55 (.extract (.tmp 46) 1) 4 (qv_extract rfl rfl) ?_
  refine sq_q0 13 (.assign (.tmp 54)) 23 (qv_assign rfl) ?_
  refine SeqK.nil (fun β => ?_)
  refine gd_tail [11] rfl (by kernel_rfl) (by kernel_rfl) ?_
  refine go_q0 14 (.assign (.tmp 55)) 4 (qv_assign rfl) ?_
  refine go_nil ?_
  change G _ _ _ _
  refine p_weaken [0, 5, 8, 9, 10, 13] rfl ?_
  refine p_seq0 ?_
  refine p_draw (by kernel_rfl) mixed 14 15 _ (fun _ h => h) (by kernel_rfl) ?_
  refine gd_all (0 :: 1 :: 2 :: 3 :: 4 :: 5 :: 6 :: 7 :: 8 :: 9 :: 10 :: 11 :: 12 :: 13 :: []) _ rfl (by kernel_rfl) (by decide) (fun _ h => h) rfl ?_
  refine sq_q0 56 (.move (.tmp 0)) 43 (qv_move rfl) ?_
  refine sq_q0 57 (.nilCheck (.tmp 56)) 0 (qv_nilCheck rfl) ?_
  refine sq_q0 58 (.fieldAddr 84 (.tmp 57) 3) 0 (qv_field rfl fd84_3) ?_
  refine sq_q0 59 (.load 55 (.tmp 58)) 55 (qv_load rfl .auto (ldv_sca sc55 (get_Cac_7 _))) ?_
  refine sq_q0 60 (.move (.tmp 13)) 23 (qv_move rfl) ?_
  refine sq_q0 61 (.indexAddr 55 (.tmp 59) (.tmp 60)) 0 (qv_index un55 sz69 rfl rfl rfl hil) ?_
  refine sq_q0 62 (.load 69 (.tmp 61)) 69 (qv_load rfl .auto (ldv_els H hir (by decide) agg69 rfl)) ?_
  refine sq_q0 63 (.load 31 (.tmp 5)) 31 (qv_load rfl .auto (ldv_agg agg31 (extw_Pkt _) (Nat.le_of_ble_eq_true rfl))) ?_
  refine sq_q0 64 (.move (.tmp 0)) 43 (qv_move rfl) ?_
  refine sq_q0 65 (.nilCheck (.tmp 64)) 0 (qv_nilCheck rfl) ?_
  refine sq_q0 66 (.fieldAddr 84 (.tmp 65) 0) 0 (qv_field rfl fd84_0) ?_
  refine sq_q0 67 (.load 23 (.tmp 66)) 23 (qv_load rfl .auto (ldv_sca sc23 (get_Cac_0 _))) ?_
  refine sq_p (d := 68) (op := .call { callee := .value (.func 57), args := #[.tmp 62, .tmp 63, .tmp 67], argTypes := #[69, 31, 23] }) (ty := 69) (g := none) (by kernel_rfl) trivial (pv_call en57 rfl (pu_With (p := p) (tick := tickTo tick tick') hrw.packets_ hrw.bytes_ hp.length_)) ?_
  refine sq_a (d := 15) (t := 69) (ty := 0) (by kernel_rfl) ze69 rfl ?_
  refine SeqK.nil (fun β => ?_)
  generalize β 13 = b15
  refine gd_tail [14] rfl (by kernel_rfl) (by kernel_rfl) ?_
  refine go_s0 none (.store 69 (.tmp 15) (.tmp 68)) 0 ?_
  refine os_store rfl rfl sz69 rfl (one_Rec _) .auto (Nat.le_of_ble_eq_true rfl) (splw_Rec _ _ (siz_Rec _)) ?_
  refine go_nil ?_
  change G _ _ _ _
  refine p_weaken [0, 5, 8, 9, 10, 13, 15] rfl ?_
  refine p_seq0 ?_
  refine p_draw (by kernel_rfl) mixed 7 8 _ (fun _ h => h) (by kernel_rfl) ?_
  refine gd_all (0 :: 1 :: 2 :: 3 :: 4 :: 5 :: 6 :: []) _ rfl (by kernel_rfl) (by decide) (fun _ h => h) rfl ?_
  refine sq_q0 69 (.move (.tmp 0)) 43 (qv_move rfl) ?_
  refine sq_q0 70 (.nilCheck (.tmp 69)) 0 (qv_nilCheck rfl) ?_
  refine sq_q0 71 (.fieldAddr 84 (.tmp 70) 3) 0 (qv_field rfl fd84_3) ?_
  refine sq_q0 72 (.load 55 (.tmp 71)) 55 (qv_load rfl .auto (ldv_sca sc55 (get_Cac_7 _))) ?_
  refine sq_q0 73 (.move (.tmp 13)) 23 (qv_move rfl) ?_
  refine sq_q0 74 (.load 69 (.tmp 15)) 69 (qv_load rfl .auto (ldv_agg agg69 (extw_Rec _) (Nat.le_of_ble_eq_true rfl))) ?_
  refine sq_q0 75 (.indexAddr 55 (.tmp 72) (.tmp 73)) 0 (qv_index un55 sz69 rfl rfl rfl hil) ?_
  refine SeqK.nil (fun β => ?_)
  refine gd_tail [7] rfl (by kernel_rfl) (by kernel_rfl) ?_
  refine go_s0 none (.store 69 (.tmp 75) (.tmp 74)) 0 ?_
  refine os_store rfl rfl sz69 rfl (one_Rec _) .auto (own_fit hc1 hc3 hil) rfl ?_
  have hMs : CacM bc (tickTo tick tick') bd (fl2.set i (r.with_ p (tickTo tick tick'))) (cacO bc (tickTo tick tick') bd bt (some ⟨bf, 0, none⟩) fl2.length cf :: tabO bt bs n fl2.length :: slotO bs L :: [_]) := ⟨bt, bs, n, L, _, cf, _, hI2.set hir rfl hww, OwnL.put (e := 69) (b := bf) (r.with_ p (tickTo tick tick')) hc1 hc2 hc3 H hil, by rw [List.length_set]⟩
  have hir' : (fl2.set i (r.with_ p (tickTo tick tick')))[i]? = some (r.with_ p (tickTo tick tick')) := List.getElem?_set_self hil
  refine go_nil ?_
  change G _ _ _ _
  refine p_weaken [0, 5, 8, 9, 10, 15] rfl ?_
  refine p_seqJ (fun s => ∃ (fl' : List Rec) (out : List Rec) (q : Option Addr) (cq : Nat) (B : Mem) (M1 : Mem), (AccR bd tick tick' p cls fl fl' out) ∧ (OwnL eRec 69 q cq out B) ∧ (CacM bc (tickTo tick tick') bd fl' M1) ∧ Ge s ⟨[], [(10, .slice q out.length cq)], B ++ M1⟩) (by kernel_rfl) ?_ ?_
  rotate_left
  · rintro s ⟨fl', out, q, cq, B, M1, hRR, hOO, hMM, hs⟩
    refine ge_ok hs ?_
    refine p_seq0 ?_
    refine p_plain0 (0 :: 1 :: 2 :: []) ?_
    refine go_q0 112 (.move (.tmp 10)) 55 (qv_move rfl) ?_
    refine go_q0 8 (.assign (.tmp 112)) 55 (qv_assign rfl) ?_
    refine go_q0 9 (.assign (.const (.int .i64 0))) 44 (qv_assign rfl) ?_
    refine go_nil ?_
    change G _ _ _ _
    refine p_weaken [8, 9] rfl ?_
    refine p_ret0 ?_
    try dsimp only [thenQ, inBlockQ]
    try rw [if_pos rfl]
    refine ret_left (B ++ M1) (.inr rfl) (.cons (res_tmp rfl) (.cons (res_tmp rfl) .nil)) .auto ?_
    exact ⟨fl', out, q, cq, B, M1, hRR, rfl, hOO, hMM, rfl⟩
  refine p_block 1 (by kernel_rfl) ?_
  refine p_seq0 ?_
  refine p_plain0 (0 :: 1 :: 2 :: []) ?_
  refine go_q0 77 (.load 31 (.tmp 5)) 31 (qv_load rfl .auto (ldv_agg agg31 (extw_Pkt _) (Nat.le_of_ble_eq_true rfl))) ?_
  refine go_s0 (some 78) (.call { callee := .value (.func 58), args := #[.tmp 77], argTypes := #[31] }) 4 ?_
  refine os_callP rfl en58 rfl (pu_seen p) ?_
  refine go_q0 76 (.assign (.tmp 78)) 4 (qv_assign rfl) ?_
  refine go_nil ?_
  change G _ _ _ _
  refine p_weaken [0, 5, 8, 9, 10, 15, 76] rfl ?_
  refine p_cond (.tmp 76) (by kernel_rfl) rfl (fun h76 => ?_) (fun h76 => ?_)
  · replace h76 := kn h76
    have hE := ct_endK 3 hMs hir' (k := p.key) hrk.symm
    have hz : endZ bd p (r.with_ p (tickTo tick tick')) = 3 := by unfold endZ; rw [if_pos h76]
    refine p_plain0 (0 :: 1 :: 2 :: 3 :: 4 :: 5 :: 6 :: 7 :: []) ?_
    refine go_q0 79 (.move (.tmp 10)) 55 (qv_move rfl) ?_
    refine go_q0 80 (.move (.tmp 0)) 43 (qv_move rfl) ?_
    refine go_q0 81 (.fieldAddr 31 (.tmp 5) 0) 0 (qv_field rfl fd31_0) ?_
    refine go_q0 82 (.load 29 (.tmp 81)) 29 (qv_load rfl .auto (ldv_agg agg29 (ext_Pkt_0_37 _) (Nat.le_of_ble_eq_true rfl))) ?_
    refine go_s0 (some 83) (.call { callee := .value (.func 59), args := #[.tmp 80, .tmp 82, .const (.int .u8 3)], argTypes := #[43, 29, 5] }) 69 ?_
    refine os_call (Nat.le_of_ble_eq_true rfl) en59 rfl .auto (hE) ?_
    rintro v83 A83 ⟨rfl, hMn⟩
    try dsimp only [List.nil_append, List.cons_append]
    refine go_s0 (some 84) (.buildSlice 55 1 #[(0, .tmp 83)]) 55 ?_
    refine os_buildSlice (Nat.le_of_ble_eq_true rfl) rfl (bls55_1 _) (fun b84 => ?_)
    refine go_s0 (some 85) (.call { callee := .builtin .append, args := #[.tmp 79, .tmp 84], argTypes := #[55, 55] }) 55 ?_
    refine os_appendK (E := eRec) (l := o12) (l2 := [{ r.with_ p (tickTo tick tick') with reason := 3 }]) rfl el55 rfl rfl rfl rfl (hOo) .auto .auto (Go.E.holds_one _) (one_Rec) (by simp [maxLen] <;> omega) (by simp <;> omega) (fun p85 c85 A85 h85 => ?_)
    have hOn := h85
    have hRn := acc_end hA hC2 hir hrk hz (by decide)
    refine go_q0 10 (.assign (.tmp 85)) 55 (qv_assign rfl) ?_
    refine go_nil ?_
    exact ⟨_, _, _, _, _, _, hRn, hOn, hMn, ⟨rfl, ⟨[10], rfl⟩, .auto⟩⟩
  replace h76 := kn h76
  refine p_seq0 ?_
  refine p_draw (by kernel_rfl) mixed 18 19 _ (fun _ h => h) (by kernel_rfl) ?_
  refine gd_all (0 :: 1 :: 2 :: 3 :: 4 :: 5 :: 6 :: 7 :: 8 :: 9 :: 10 :: 11 :: 12 :: 13 :: 14 :: 15 :: 16 :: 17 :: []) _ rfl (by kernel_rfl) (by decide) (fun _ h => h) rfl ?_
  refine sq_q0 87 (.fieldAddr 69 (.tmp 15) 1) 0 (qv_field rfl fd69_1) ?_
  refine sq_q0 88 (.load 23 (.tmp 87)) 23 (qv_load rfl .auto (ldv_sca sc23 (get_Rec_37 _))) ?_
  refine sq_q0 89 (.move (.tmp 0)) 43 (qv_move rfl) ?_
  refine sq_q0 90 (.nilCheck (.tmp 89)) 0 (qv_nilCheck rfl) ?_
  refine sq_q0 91 (.fieldAddr 84 (.tmp 90) 1) 0 (qv_field rfl fd84_1) ?_
  refine sq_q0 92 (.fieldAddr 36 (.tmp 91) 3) 0 (qv_field rfl fd36_3) ?_
  refine sq_q0 93 (.load 23 (.tmp 92)) 23 (qv_load rfl .auto (ldv_sca sc23 (get_Cac_4 _))) ?_
  refine sq_q0 94 (.binOp .geq 23 (.tmp 88) (.tmp 93) 23) 4 (qv_geq rfl rfl rfl) ?_
  refine sq_q0 95 (.move (.tmp 94)) 4 (qv_move rfl) ?_
  refine sq_case (d := 95) rfl (fun _ => rfl) (fun g95 => ?_) (fun g95 => ?_)
  · replace g95 := kn g95
    refine sq_n (d := 96) (op := .fieldAddr 69 (.tmp 15) 2) (ty := 0) (g := some (8, false)) (by kernel_rfl) ⟨95, _, by kernel_rfl, rfl, rfl⟩ ?_
    refine sq_n (d := 97) (op := .load 23 (.tmp 96)) (ty := 23) (g := some (8, false)) (by kernel_rfl) ⟨95, _, by kernel_rfl, rfl, rfl⟩ ?_
    refine sq_n (d := 98) (op := .move (.tmp 0)) (ty := 43) (g := some (8, false)) (by kernel_rfl) ⟨95, _, by kernel_rfl, rfl, rfl⟩ ?_
    refine sq_n (d := 99) (op := .nilCheck (.tmp 98)) (ty := 0) (g := some (8, false)) (by kernel_rfl) ⟨95, _, by kernel_rfl, rfl, rfl⟩ ?_
    refine sq_n (d := 100) (op := .fieldAddr 84 (.tmp 99) 1) (ty := 0) (g := some (8, false)) (by kernel_rfl) ⟨95, _, by kernel_rfl, rfl, rfl⟩ ?_
    refine sq_n (d := 101) (op := .fieldAddr 36 (.tmp 100) 4) (ty := 0) (g := some (8, false)) (by kernel_rfl) ⟨95, _, by kernel_rfl, rfl, rfl⟩ ?_
    refine sq_n (d := 102) (op := .load 23 (.tmp 101)) (ty := 23) (g := some (8, false)) (by kernel_rfl) ⟨95, _, by kernel_rfl, rfl, rfl⟩ ?_
    refine sq_n (d := 103) (op := .binOp .geq 23 (.tmp 97) (.tmp 102) 23) (ty := 4) (g := some (8, false)) (by kernel_rfl) ⟨95, _, by kernel_rfl, rfl, rfl⟩ ?_
    refine sq_q0 104 (.pick (.tmp 95) (.const (.bool true)) (.tmp 103)) 4 (qv_pick_t rfl rfl) ?_
    refine SeqK.nil (fun β => ?_)
    refine gd_tail [18] rfl (by kernel_rfl) (by kernel_rfl) ?_
    refine go_q0 86 (.assign (.tmp 104)) 4 (qv_assign rfl) ?_
    refine go_nil ?_
    change G _ _ _ _
    refine p_weaken [0, 5, 8, 9, 10, 86] rfl ?_
    refine p_condT (.tmp 86) (by kernel_rfl) rfl ?_
    have hE := ct_endK 4 hMs hir' (k := p.key) hrk.symm
    have hz : endZ bd p (r.with_ p (tickTo tick tick')) = 4 := endZ4 h76 (by first | exact .inl g95 | exact .inr h86)
    refine p_plain0 (0 :: 1 :: 2 :: 3 :: 4 :: 5 :: 6 :: 7 :: []) ?_
    refine go_q0 105 (.move (.tmp 10)) 55 (qv_move rfl) ?_
    refine go_q0 106 (.move (.tmp 0)) 43 (qv_move rfl) ?_
    refine go_q0 107 (.fieldAddr 31 (.tmp 5) 0) 0 (qv_field rfl fd31_0) ?_
    refine go_q0 108 (.load 29 (.tmp 107)) 29 (qv_load rfl .auto (ldv_agg agg29 (ext_Pkt_0_37 _) (Nat.le_of_ble_eq_true rfl))) ?_
    refine go_s0 (some 109) (.call { callee := .value (.func 59), args := #[.tmp 106, .tmp 108, .const (.int .u8 4)], argTypes := #[43, 29, 5] }) 69 ?_
    refine os_call (Nat.le_of_ble_eq_true rfl) en59 rfl .auto (hE) ?_
    rintro v109 A109 ⟨rfl, hMn⟩
    try dsimp only [List.nil_append, List.cons_append]
    refine go_s0 (some 110) (.buildSlice 55 1 #[(0, .tmp 109)]) 55 ?_
    refine os_buildSlice (Nat.le_of_ble_eq_true rfl) rfl (bls55_1 _) (fun b110 => ?_)
    refine go_s0 (some 111) (.call { callee := .builtin .append, args := #[.tmp 105, .tmp 110], argTypes := #[55, 55] }) 55 ?_
    refine os_appendK (E := eRec) (l := o12) (l2 := [{ r.with_ p (tickTo tick tick') with reason := 4 }]) rfl el55 rfl rfl rfl rfl (hOo) .auto .auto (Go.E.holds_one _) (one_Rec) (by simp [maxLen] <;> omega) (by simp <;> omega) (fun p111 c111 A111 h111 => ?_)
    have hOn := h111
    have hRn := acc_end hA hC2 hir hrk hz (by decide)
    refine go_q0 10 (.assign (.tmp 111)) 55 (qv_assign rfl) ?_
    refine go_nil ?_
    exact ⟨_, _, _, _, _, _, hRn, hOn, hMn, ⟨rfl, ⟨[10], rfl⟩, .auto⟩⟩
  replace g95 := kn g95
  refine sq_q (d := 96) (op := .fieldAddr 69 (.tmp 15) 2) (ty := 0) (g := some (8, false)) (by kernel_rfl) ⟨95, by kernel_rfl, rfl⟩ (fun _ h => nomatch h) (qv_field rfl fd69_2) ?_
  refine sq_q (d := 97) (op := .load 23 (.tmp 96)) (ty := 23) (g := some (8, false)) (by kernel_rfl) ⟨95, by kernel_rfl, rfl⟩ (fun _ h => nomatch h) (qv_load rfl .auto (ldv_sca sc23 (get_Rec_38 _))) ?_
  refine sq_q (d := 98) (op := .move (.tmp 0)) (ty := 43) (g := some (8, false)) (by kernel_rfl) ⟨95, by kernel_rfl, rfl⟩ (fun _ h => nomatch h) (qv_move rfl) ?_
  refine sq_q (d := 99) (op := .nilCheck (.tmp 98)) (ty := 0) (g := some (8, false)) (by kernel_rfl) ⟨95, by kernel_rfl, rfl⟩ (fun _ h => nomatch h) (qv_nilCheck rfl) ?_
  refine sq_q (d := 100) (op := .fieldAddr 84 (.tmp 99) 1) (ty := 0) (g := some (8, false)) (by kernel_rfl) ⟨95, by kernel_rfl, rfl⟩ (fun _ h => nomatch h) (qv_field rfl fd84_1) ?_
  refine sq_q (d := 101) (op := .fieldAddr 36 (.tmp 100) 4) (ty := 0) (g := some (8, false)) (by kernel_rfl) ⟨95, by kernel_rfl, rfl⟩ (fun _ h => nomatch h) (qv_field rfl fd36_4) ?_
  refine sq_q (d := 102) (op := .load 23 (.tmp 101)) (ty := 23) (g := some (8, false)) (by kernel_rfl) ⟨95, by kernel_rfl, rfl⟩ (fun _ h => nomatch h) (qv_load rfl .auto (ldv_sca sc23 (get_Cac_5 _))) ?_
  refine sq_q (d := 103) (op := .binOp .geq 23 (.tmp 97) (.tmp 102) 23) (ty := 4) (g := some (8, false)) (by kernel_rfl) ⟨95, by kernel_rfl, rfl⟩ (fun _ h => nomatch h) (qv_geq rfl rfl rfl) ?_
  refine sq_q0 104 (.pick (.tmp 95) (.const (.bool true)) (.tmp 103)) 4 (qv_pick_f rfl rfl) ?_
  refine SeqK.nil (fun β => ?_)
  refine gd_tail [18] rfl (by kernel_rfl) (by kernel_rfl) ?_
  refine go_q0 86 (.assign (.tmp 104)) 4 (qv_assign rfl) ?_
  refine go_nil ?_
  change G _ _ _ _
  refine p_weaken [0, 5, 8, 9, 10, 86] rfl ?_
  refine p_cond (.tmp 86) (by kernel_rfl) rfl (fun h86 => ?_) (fun h86 => ?_)
  rotate_left
  · replace h86 := kn h86
    have hz : endZ bd p (r.with_ p (tickTo tick tick')) = 0 := endZ0 h76 (fun h => h.elim g95 h86)
    have hRn := acc_stay (fl' := fl2.set i (r.with_ p (tickTo tick tick'))) hA hC2 hir hrk hz rfl
    have hOn := hOo
    have hMn := hMs
    refine p_skip0 ?_
    exact ⟨_, _, _, _, _, _, hRn, hOn, hMn, ⟨rfl, ⟨[10], rfl⟩, .auto⟩⟩
  replace h86 := kn h86
  have hE := ct_endK 4 hMs hir' (k := p.key) hrk.symm
  have hz : endZ bd p (r.with_ p (tickTo tick tick')) = 4 := endZ4 h76 (by first | exact .inl g95 | exact .inr h86)
  refine p_plain0 (0 :: 1 :: 2 :: 3 :: 4 :: 5 :: 6 :: 7 :: []) ?_
  refine go_q0 105 (.move (.tmp 10)) 55 (qv_move rfl) ?_
  refine go_q0 106 (.move (.tmp 0)) 43 (qv_move rfl) ?_
  refine go_q0 107 (.fieldAddr 31 (.tmp 5) 0) 0 (qv_field rfl fd31_0) ?_
  refine go_q0 108 (.load 29 (.tmp 107)) 29 (qv_load rfl .auto (ldv_agg agg29 (ext_Pkt_0_37 _) (Nat.le_of_ble_eq_true rfl))) ?_
  refine go_s0 (some 109) (.call { callee := .value (.func 59), args := #[.tmp 106, .tmp 108, .const (.int .u8 4)], argTypes := #[43, 29, 5] }) 69 ?_
  refine os_call (Nat.le_of_ble_eq_true rfl) en59 rfl .auto (hE) ?_
  rintro v109 A109 ⟨rfl, hMn⟩
  try dsimp only [List.nil_append, List.cons_append]
  refine go_s0 (some 110) (.buildSlice 55 1 #[(0, .tmp 109)]) 55 ?_
  refine os_buildSlice (Nat.le_of_ble_eq_true rfl) rfl (bls55_1 _) (fun b110 => ?_)
  refine go_s0 (some 111) (.call { callee := .builtin .append, args := #[.tmp 105, .tmp 110], argTypes := #[55, 55] }) 55 ?_
  refine os_appendK (E := eRec) (l := o12) (l2 := [{ r.with_ p (tickTo tick tick') with reason := 4 }]) rfl el55 rfl rfl rfl rfl (hOo) .auto .auto (Go.E.holds_one _) (one_Rec) (by simp [maxLen] <;> omega) (by simp <;> omega) (fun p111 c111 A111 h111 => ?_)
  have hOn := h111
  have hRn := acc_end hA hC2 hir hrk hz (by decide)
  refine go_q0 10 (.assign (.tmp 111)) 55 (qv_assign rfl) ?_
  refine go_nil ?_
  exact ⟨_, _, _, _, _, _, hRn, hOn, hMn, ⟨rfl, ⟨[10], rfl⟩, .auto⟩⟩
end Go.Proofs.YtobmcpoejhhemaaGreat

namespace Go.Proofs.YtobmcpoejhhemaaGreat
open Go.E

/-- The captured variable that holds a slice of records. -/
def boxR (bv : Nat) (p : Option Addr) (n c : Nat) : Nat × Obj := (bv, .cells #[.slice p n c] 55 (0, 0))
theorem ct_Values1 {g : Rg} {bv c : Nat} {p : Option Addr} {l : List Rec} {Ml M0 : Mem} (T : Nat → Mem → Prop) (hps : g.ps.size = 1) (hl : Lst eRec p l Ml) (hm : l.length ≤ 1000000) (h0 : T 0 M0)
    (hr : ∀ (i : Nat) (x : Rec) (Mi : Mem), l[i]? = some x → T i Mi → RCt Tryz.prog g [.agg x.c] (g.o .ready none :: (g.D, .deferred (some [])) :: Mi) (fun u M' => u = .bool true ∧ ∃ Mi', T (i + 1) Mi' ∧ M' = g.o .ready none :: (g.D, .deferred (some [])) :: Mi')) :
    Ct Tryz.prog 87 [.func (.yield g.l) #[] #[], .pointer (some ⟨bv, 0, none⟩)].toArray (g.o .ready none :: (g.D, .deferred (some [])) :: (M0 ++ (boxR bv p l.length c :: Ml)))
      (fun _ M' => ∃ Mn, T l.length Mn ∧ M' = g.o .ready none :: (g.D, .deferred (some [])) :: (Mn ++ (boxR bv p l.length c :: Ml))) := by
  refine ct_body (rv := []) [(0, _), (1, _)] Tryz.func87 (by kernel_rfl) Tryz.ntmps87 Tryz.results87 rfl rfl (fun w0 => ?_)
  refine p_seq0 ?_
  refine p_plain0 (0 :: 1 :: 2 :: []) ?_
  refine go_q0 5 (.load 55 (.tmp 1)) 55 (qv_load rfl .auto (ldv_sca sc55 (get_one _))) ?_
  refine go_q0 6 (.call { callee := .builtin .len, args := #[.tmp 5], argTypes := #[55] }) 3 (qv_lenS un55 rfl) ?_
  refine go_q0 7 (.move (.const (.int .i64 0))) 3 (qv_move rfl) ?_
  refine go_nil ?_
  change G _ _ _ _
  refine p_weaken [0, 5, 6, 7] rfl ?_
  refine p_block 0 (by kernel_rfl) ?_
  refine p_loopE (by kernel_rfl) (fun s m => ∃ (i : Nat) (Mi : Mem), (i ≤ l.length) ∧ (T i Mi) ∧ Ge s ⟨[], [(0, .func (.yield g.l) #[] #[]), (5, .slice p l.length c), (6, .int .i64 l.length), (7, .int .i64 i)], g.o .ready none :: (g.D, .deferred (some [])) :: (Mi ++ (boxR bv p l.length c :: Ml))⟩ ∧ m = l.length + 1 - i) ?_ ?_
  · exact ⟨_, ⟨0, M0, by omega, h0, ⟨rfl, ⟨[0, 5, 6, 7], rfl⟩, .auto⟩, rfl⟩⟩
  rintro s m ⟨i, Mi, hi, hT, hs, rfl⟩
  refine ge_ok hs ?_
  refine p_seq0 ?_
  refine p_plain0 (0 :: []) ?_
  refine go_q0 8 (.binOp .lss 3 (.tmp 7) (.tmp 6) 3) 0 (qv_lss rfl rfl rfl) ?_
  refine go_nil ?_
  change G _ _ _ _
  refine p_seq0 ?_
  refine p_cond (.tmp 8) (by kernel_rfl) rfl (fun h8 => ?_) (fun h8 => ?_)
  rotate_left
  · replace h8 := kn h8
    refine p_exit 0 (by kernel_rfl) ?_
    try dsimp only [thenQ, inBlockQ]
    try rw [if_pos rfl]
    have hie : i = l.length := by omega
    subst hie
    refine ret_left _ (.inl rfl) .nil .refl ?_
    exact ⟨Mi, hT, rfl⟩
  replace h8 := kn h8
  refine p_skip0 ?_
  change G _ _ _ _
  refine p_weaken [0, 5, 6, 7] rfl ?_
  refine p_seq0 ?_
  refine p_block 1 (by kernel_rfl) ?_
  refine p_seq0 ?_
  obtain ⟨b, o, cu, e, f, hpe, mm, H⟩ := hl.at_ (i := i) (by omega)
  subst hpe
  obtain ⟨x, hx⟩ : ∃ x, l[i]? = some x := ⟨_, List.getElem?_eq_getElem (by omega)⟩
  refine p_plain0 (0 :: 1 :: 2 :: 3 :: []) ?_
  refine go_q0 9 (.indexAddr 55 (.tmp 5) (.tmp 7)) 0 (qv_index un55 sz69 rfl rfl rfl (by omega)) ?_
  refine go_q0 10 (.load 69 (.tmp 9)) 69 (qv_load rfl (At.of_mem (by repeat first | exact mm | exact List.mem_append_left _ mm | apply List.mem_cons_of_mem | apply List.mem_append_right)) (ldv_els H hx (by decide) agg69 rfl)) ?_
  refine go_s0 (some 4) (.alloc 69) 0 ?_
  refine os_allocA rfl ze69 (fun b4 => ?_)
  refine go_s0 none (.store 69 (.tmp 4) (.tmp 10)) 0 ?_
  refine os_store rfl rfl sz69 rfl (one_Rec _) .auto (Nat.le_of_ble_eq_true rfl) (splw_Rec _ _ (siz_Rec _)) ?_
  refine go_nil ?_
  change G _ _ _ _
  refine p_weaken [0, 4, 5, 6, 7] rfl ?_
  refine p_seq0 ?_
  refine p_plain0 (0 :: 1 :: 2 :: 3 :: []) ?_
  refine go_q0 11 (.move (.tmp 0)) 153 (qv_move rfl) ?_
  refine go_q0 12 (.load 69 (.tmp 4)) 69 (qv_load rfl .auto (ldv_agg agg69 (extw_Rec _) (Nat.le_of_ble_eq_true rfl))) ?_
  refine go_s0 (some 13) (.call { callee := .value (.tmp 11), args := #[.tmp 12], argTypes := #[69] }) 4 ?_
  refine os_yield (g := g) (A := g.o .ready none :: (g.D, .deferred (some [])) :: Mi) rfl rfl rfl hps.symm (Sel.skip (Sel.cons .here (Sel.cons .here Sel.app))) (by simp) (hr i x Mi hx hT) (fun u A' hR => ?_)
  obtain ⟨rfl, Mi', hT', rfl⟩ := hR
  refine go_q0 14 (.unOp .not 4 (.tmp 13)) 4 (qv_not rfl) ?_
  refine go_nil ?_
  change G _ _ _ _
  refine p_weaken [0, 5, 6, 7, 14] rfl ?_
  refine p_condF (.tmp 14) (by kernel_rfl) rfl ?_
  refine p_skip0 ?_
  change G _ _ _ _
  refine p_weaken [0, 5, 6, 7] rfl ?_
  refine p_plain0 (0 :: 1 :: []) ?_
  refine go_q0 15 (.binOp .add 3 (.tmp 7) (.const (.int .i64 1)) 3) 3 (qv_add rfl rfl (by first | exact IntWalk.i64_in _ (by omega) | exact IntWalk.i64_in _ (by dsimp only; omega) | rfl)) ?_
  refine go_q0 7 (.move (.tmp 15)) 3 (qv_move rfl) ?_
  refine go_nil ?_
  exact ⟨_, ⟨i + 1, Mi', by omega, hT', ⟨rfl, ⟨[0, 5, 6, 7], rfl⟩, .auto⟩, rfl⟩, by omega⟩
def appT (b2 : Nat) (l : List Rec) (i : Nat) (Mi : Mem) : Prop := ∃ q cq A, OwnL eRec 69 q cq (l.take i) A ∧ Mi = boxR b2 q (l.take i).length cq :: A
theorem perm_app {α : Type} (A : List α) (a g b d c : α) : (A ++ [a, g, b, d, c]).Perm (g :: ((d :: c :: A) ++ [a, b])) := by
  classical
  exact List.perm_iff_count.2 fun x => by simp only [List.count_append, List.count_cons, List.count_nil]; omega
theorem perm_cons_end {α : Type} (a : α) (l : List α) : (a :: l).Perm (l ++ [a]) := List.perm_append_comm (l₁ := [a])
theorem ct_AppendSeq {bv c : Nat} {p : Option Addr} {l : List Rec} {Ml : Mem} (hl : Lst eRec p l Ml) (hm : l.length ≤ 10000) :
    Ct Tryz.prog 107 [.slice none 0 0, .func (.func 87) #[] #[.pointer (some ⟨bv, 0, none⟩)]].toArray (boxR bv p l.length c :: Ml) (fun v M' => ∃ q cq A, v = .slice q l.length cq ∧ OwnL eRec 69 q cq l A ∧ M' = A ++ (boxR bv p l.length c :: Ml)) := by
  refine ct_body (rv := [.tmp 4]) [(0, _), (1, _)] Tryz.func107 (by kernel_rfl) Tryz.ntmps107 Tryz.results107 rfl rfl (fun w0 => ?_)
  refine p_seq0 ?_
  refine p_plain0 (0 :: 1 :: []) ?_
  refine go_s0 (some 2) (.box 55 (.tmp 0)) 0 ?_
  refine os_box1 rfl rfl rfl (fun b2 => ?_)
  refine go_q0 4 (.assign (.const (.slice none 0 0))) 55 (qv_assign rfl) ?_
  refine go_nil ?_
  change G _ _ _ _
  refine p_weaken [1, 2, 4] rfl ?_
  refine p_seq0 ?_
  refine p_seq0 ?_
  refine p_plain0 (0 :: []) ?_
  refine go_q0 6 (.move (.tmp 1)) 122 (qv_move rfl) ?_
  refine go_nil ?_
  change G _ _ _ _
  refine p_weaken [2, 4, 6] rfl ?_
  refine p_block 0 (by kernel_rfl) ?_
  refine p_range (gop := .tmp 6) (ps := #[7]) (A := ([boxR b2 none 0 0] ++ (boxR bv p l.length c :: Ml))) (by kernel_rfl) rfl rfl en87 (Sel.all : Sel ([boxR b2 none 0 0] ++ (boxR bv p l.length c :: Ml)) _ _) (fun g hps hga hgb hsz hfr => ?_)
  have hfr := hfr.pickT [2] rfl
  have hround : ∀ (i : Nat) (x : Rec) (Mi : Mem), l[i]? = some x → appT b2 l i Mi → RCt Tryz.prog g [.agg x.c] (g.o .ready none :: (g.D, .deferred (some [])) :: Mi) (fun u M' => u = .bool true ∧ ∃ Mi', appT b2 l (i + 1) Mi' ∧ M' = g.o .ready none :: (g.D, .deferred (some [])) :: Mi') := by
    intro i x Mi hx hT
    obtain ⟨q, cq, A, hO, rfl⟩ := hT
    have hlt : (l.take i).length ≤ 10000 := Nat.le_trans (by simp; omega) hm
    refine rct_of hps hsz rfl hfr (fun w0 => ?_)
    rw [hga, hgb]
    refine p_plain0 (0 :: 1 :: []) ?_
    refine go_s0 (some 5) (.alloc 69) 0 ?_
    refine os_allocA rfl ze69 (fun b5 => ?_)
    refine go_s0 none (.store 69 (.tmp 5) (.tmp 7)) 0 ?_
    refine os_store rfl rfl sz69 rfl (one_Rec _) .auto (Nat.le_of_ble_eq_true rfl) (splw_Rec _ _ (siz_Rec _)) ?_
    refine go_nil ?_
    refine ⟨rfl, _, List.Perm.swap _ _ _, ?_⟩
    refine p_block 1 (by kernel_rfl) ?_
    refine p_plain0 (0 :: 1 :: 2 :: 3 :: 4 :: []) ?_
    refine go_q0 8 (.load 55 (.tmp 2)) 55 (qv_load rfl .auto (ldv_sca sc55 (get_one _))) ?_
    refine go_q0 9 (.load 69 (.tmp 5)) 69 (qv_load rfl .auto (ldv_agg agg69 (extw_Rec _) (Nat.le_of_ble_eq_true rfl))) ?_
    refine go_s0 (some 10) (.buildSlice 55 1 #[(0, .tmp 9)]) 55 ?_
    refine os_buildSlice (Nat.le_of_ble_eq_true rfl) rfl (bls55_1 _) (fun b10 => ?_)
    refine go_s0 (some 11) (.call { callee := .builtin .append, args := #[.tmp 8, .tmp 10], argTypes := #[55, 55] }) 55 ?_
    refine os_appendK (E := eRec) (l := l.take i) (l2 := [x]) rfl el55 rfl rfl rfl rfl (hO) .auto .auto (Go.E.holds_one _) (one_Rec) (by simp [maxLen] <;> omega) (by simp <;> omega) (fun p11 c11 A11 h11 => ?_)
    refine go_s0 none (.store 55 (.tmp 2) (.tmp 11)) 0 ?_
    refine os_store1 rfl rfl sz55 rfl rfl .auto (Nat.le_of_ble_eq_true rfl) (set_one _ _) ?_
    refine go_nil ?_
    exact ⟨(g.D, _) :: (b2, _) :: A11, [_, _], perm_app _ _ _ _ _ _, rfl, _, ⟨p11, c11, A11, by rw [List.take_add_one, hx]; exact h11, by rw [List.take_add_one, hx]; rfl⟩, rfl⟩
  refine (ct_Values1 (appT b2 l) (by rw [hps]; rfl) hl (by omega) ⟨none, 0, [], OwnL.nil, rfl⟩ hround).mono ?_
  rintro _ M' ⟨Mn, ⟨q, cq, A, hO, rfl⟩, rfl⟩
  · refine ⟨_, _, _, rfl, by decide, ?_⟩
    dsimp only [aftQ]
    change G _ _ _ _
    refine p_weaken [2, 4] rfl ?_
    refine p_seq0 ?_
    refine p_plain0 (0 :: 1 :: []) ?_
    refine go_q0 12 (.load 55 (.tmp 2)) 55 (qv_load rfl .auto (ldv_sca sc55 (get_one _))) ?_
    refine go_q0 4 (.assign (.tmp 12)) 55 (qv_assign rfl) ?_
    refine go_nil ?_
    change G _ _ _ _
    refine p_weaken [4] rfl ?_
    refine p_ret0 ?_
    try dsimp only [thenQ, inBlockQ]
    try rw [if_pos rfl]
    refine ret_mark (A ++ (boxR bv p l.length c :: Ml)) (.inr rfl) ⟨_, _, List.Perm.refl _, by rw [List.append_nil]; exact perm_cons_end _ _, (.cons (res_tmp rfl) .nil)⟩ ?_
    rw [List.take_length] at hO
    exact ⟨q, cq, A, by rw [List.take_length]; rfl, hO, rfl⟩
end Go.Proofs.YtobmcpoejhhemaaGreat

namespace Go.Proofs.YtobmcpoejhhemaaGreat
open Go.E

theorem ct_Collect {bv c : Nat} {p : Option Addr} {l : List Rec} {Ml : Mem} (hl : Lst eRec p l Ml) (hm : l.length ≤ 10000) :
    Ct Tryz.prog 86 [.func (.func 87) #[] #[.pointer (some ⟨bv, 0, none⟩)]].toArray (boxR bv p l.length c :: Ml) (fun v M' => ∃ q cq A, v = .slice q l.length cq ∧ OwnL eRec 69 q cq l A ∧ M' = A ++ (boxR bv p l.length c :: Ml)) := by
  refine ct_body (rv := [.tmp 2]) [(0, _)] Tryz.func86 (by kernel_rfl) Tryz.ntmps86 Tryz.results86 rfl rfl (fun w0 => ?_)
  refine p_seq0 ?_
  refine p_plain0 (0 :: []) ?_
  refine go_q0 2 (.assign (.const (.slice none 0 0))) 55 (qv_assign rfl) ?_
  refine go_nil ?_
  change G _ _ _ _
  refine p_seq0 ?_
  refine p_plain0 (0 :: 1 :: 2 :: []) ?_
  refine go_q0 3 (.move (.tmp 0)) 122 (qv_move rfl) ?_
  refine go_s0 (some 4) (.call { callee := .value (.func 107), args := #[.const (.slice none 0 0), .tmp 3], argTypes := #[55, 122] }) 55 ?_
  refine os_call (Nat.le_of_ble_eq_true rfl) en107 rfl .auto (ct_AppendSeq hl hm (bv := bv) (c := c)) ?_
  rintro v4 A4 ⟨q, cq, A, rfl, hO, rfl⟩
  try dsimp only [List.nil_append, List.cons_append]
  refine go_q0 2 (.assign (.tmp 4)) 55 (qv_assign rfl) ?_
  refine go_nil ?_
  change G _ _ _ _
  refine p_weaken [2] rfl ?_
  refine p_ret0 ?_
  try dsimp only [thenQ, inBlockQ]
  try rw [if_pos rfl]
  refine ret_left (A ++ (boxR bv p l.length c :: Ml)) (.inr rfl) (.cons (res_tmp rfl) .nil) .auto ?_
  exact ⟨q, cq, A, rfl, hO, rfl⟩
def cmpKey (a b : Rec) : Int := cmpK a.key b.key
theorem swo_key : Go.Sort.SWO (fun x y : {r : Rec // r.Wf} => decide (cmpKey x.1 y.1 < 0)) := swo_cb (fun r : {r : Rec // r.Wf} => kb r.1.key)
theorem ct_SortedRec {bv c : Nat} {p : Option Addr} {l : List Rec} {Ml : Mem} (hl : Lst eRec p l Ml) (hm : l.length ≤ 10000) (hw : ∀ r ∈ l, r.Wf) :
    Ct Tryz.prog 61 [.func (.func 87) #[] #[.pointer (some ⟨bv, 0, none⟩)], .func (.func 49) #[] #[]].toArray (boxR bv p l.length c :: Ml) (fun v M' => ∃ q cq l' A, l'.Perm l ∧ l'.Pairwise (fun x y => ¬ ltK y.key x.key) ∧ v = .slice q l'.length cq ∧ OwnL eRec 69 q cq l' A ∧ M' = A ++ (boxR bv p l.length c :: Ml)) := by
  refine ct_body (rv := [.tmp 4]) [(0, _), (1, _)] Tryz.func61 (by kernel_rfl) Tryz.ntmps61 Tryz.results61 rfl rfl (fun w0 => ?_)
  refine p_seq0 ?_
  refine p_plain0 (0 :: []) ?_
  refine go_q0 4 (.assign (.const (.slice none 0 0))) 55 (qv_assign rfl) ?_
  refine go_nil ?_
  change G _ _ _ _
  refine p_seq0 ?_
  refine p_plain0 (0 :: 1 :: 2 :: []) ?_
  refine go_q0 6 (.move (.tmp 0)) 122 (qv_move rfl) ?_
  refine go_s0 (some 7) (.call { callee := .value (.func 86), args := #[.tmp 6], argTypes := #[122] }) 55 ?_
  refine os_call (Nat.le_of_ble_eq_true rfl) en86 rfl .auto (ct_Collect hl hm (bv := bv) (c := c)) ?_
  rintro v7 A7 ⟨q, cq, A, rfl, hO, rfl⟩
  try dsimp only [List.nil_append, List.cons_append]
  refine go_q0 5 (.assign (.tmp 7)) 55 (qv_assign rfl) ?_
  refine go_nil ?_
  change G _ _ _ _
  refine p_weaken [1, 4, 5] rfl ?_
  refine p_seq0 ?_
  refine p_plain0 (0 :: 1 :: 2 :: []) ?_
  refine go_q0 8 (.move (.tmp 5)) 55 (qv_move rfl) ?_
  refine go_q0 9 (.move (.tmp 1)) 111 (qv_move rfl) ?_
  refine go_s0 (some 10) (.call { callee := .value (.func 45), args := #[.tmp 8, .tmp 9], argTypes := #[55, 111] }) 0 ?_
  refine os_call (Nat.le_of_ble_eq_true rfl) en45 rfl (Sel.append (A := A) (A' := []) (by rw [List.append_assoc]; exact Sel.app) .nil) (ct_SortRecO cmpKey swo_key (cb := []) (A := []) (A0 := A) en49 (fun x y hx hy => pu_byKey hx hy) hO hw (by omega)) ?_
  rintro v10 A10 ⟨rfl, l', A1, hp, hs', hO1, rfl⟩
  try dsimp only [List.nil_append, List.cons_append]
  refine go_nil ?_
  change G _ _ _ _
  refine p_weaken [4, 5] rfl ?_
  refine p_seq0 ?_
  refine p_plain0 (0 :: 1 :: []) ?_
  refine go_q0 11 (.move (.tmp 5)) 55 (qv_move rfl) ?_
  refine go_q0 4 (.assign (.tmp 11)) 55 (qv_assign rfl) ?_
  refine go_nil ?_
  change G _ _ _ _
  refine p_weaken [4] rfl ?_
  refine p_ret0 ?_
  try dsimp only [thenQ, inBlockQ]
  try rw [if_pos rfl]
  refine ret_left (A1 ++ (boxR bv p l.length c :: Ml)) (.inr rfl) (.cons (res_tmp rfl) .nil) .auto ?_
  exact ⟨q, cq, l', A1, hp, hs', by rw [hp.length_eq]; rfl, hO1, rfl⟩
/-- All flows, in the order of their keys. -/
def AllR (fl out : List Rec) : Prop := out.Perm fl ∧ out.Pairwise fun x y => ¬ ltK y.key x.key
theorem ct_Values (p : Option Addr) (n c : Nat) : Ct Tryz.prog 62 [.slice p n c].toArray [] (fun v A => ∃ bv, v = .func (.func 87) #[] #[.pointer (some ⟨bv, 0, none⟩)] ∧ A = [boxR bv p n c]) := by
  refine ct_body (rv := [.tmp 2]) [(0, _)] Tryz.func62 (by kernel_rfl) Tryz.ntmps62 Tryz.results62 rfl rfl (fun w0 => ?_)
  refine p_seq0 ?_
  refine p_plain0 (0 :: 1 :: []) ?_
  refine go_s0 (some 1) (.box 55 (.tmp 0)) 0 ?_
  refine os_box1 rfl rfl rfl (fun b1 => ?_)
  refine go_q0 2 (.assign (.const .nilFunc)) 122 (qv_assign rfl) ?_
  refine go_nil ?_
  change G _ _ _ _
  refine p_weaken [1, 2] rfl ?_
  refine p_seq0 ?_
  refine p_plain0 (0 :: 1 :: []) ?_
  refine go_q0 3 (.makeFunc (.func 87) #[] #[.tmp 1]) 121 (qv_makeFunc rfl) ?_
  refine go_q0 2 (.assign (.tmp 3)) 122 (qv_assign rfl) ?_
  refine go_nil ?_
  change G _ _ _ _
  refine p_weaken [2] rfl ?_
  refine p_ret0 ?_
  try dsimp only [thenQ, inBlockQ]
  try rw [if_pos rfl]
  refine ret_left ([boxR b1 p n c]) (.inr rfl) (.cons (res_tmp rfl) .nil) .auto ?_
  exact ⟨b1, rfl, rfl⟩
theorem ct_All {bc : Nat} {tick : Int} {bd : Bnd} {fl : List Rec} {M : Mem} (hM : CacM bc tick bd fl M) :
    Ct Tryz.prog 24 [.pointer (some ⟨bc, 0, none⟩)].toArray M (fun v M' => ∃ out q cq B, AllR fl out ∧ v = .slice q out.length cq ∧ OwnL eRec 69 q cq out B ∧ M' = B ++ M) := by
  have hle := hM.le
  obtain ⟨bt, bs, n, L, pf, cf, Af, hI, hO, rfl⟩ := hM
  refine ct_body (rv := [.tmp 2]) [(0, _)] Tryz.func24 (by kernel_rfl) Tryz.ntmps24 Tryz.results24 rfl rfl (fun w0 => ?_)
  refine p_seq0 ?_
  refine p_plain0 (0 :: []) ?_
  refine go_q0 2 (.assign (.const (.slice none 0 0))) 55 (qv_assign rfl) ?_
  refine go_nil ?_
  change G _ _ _ _
  refine p_seq0 ?_
  refine p_seq0 ?_
  refine p_plain0 (0 :: 1 :: []) ?_
  refine go_q0 3 (.move (.tmp 0)) 43 (qv_move rfl) ?_
  refine go_q0 4 (.binOp .eql 43 (.tmp 3) (.const (.pointer none)) 43) 4 (qv_eqlP un43 rfl) ?_
  refine go_nil ?_
  change G _ _ _ _
  refine p_weaken [0, 2, 4] rfl ?_
  refine p_condF (.tmp 4) (by kernel_rfl) rfl ?_
  refine p_skip0 ?_
  change G _ _ _ _
  refine p_weaken [0, 2] rfl ?_
  refine p_seq0 ?_
  refine p_plain0 (0 :: 1 :: 2 :: 3 :: 4 :: 5 :: 6 :: []) ?_
  refine go_q0 5 (.move (.tmp 0)) 43 (qv_move rfl) ?_
  refine go_q0 6 (.nilCheck (.tmp 5)) 0 (qv_nilCheck rfl) ?_
  refine go_q0 7 (.fieldAddr 84 (.tmp 6) 3) 0 (qv_field rfl fd84_3) ?_
  refine go_q0 8 (.load 55 (.tmp 7)) 55 (qv_load rfl .auto (ldv_sca sc55 (get_Cac_7 _))) ?_
  refine go_s0 (some 9) (.call { callee := .value (.func 62), args := #[.tmp 8], argTypes := #[55] }) 122 ?_
  refine os_call (Nat.le_of_ble_eq_true rfl) en62 rfl .auto (ct_Values pf fl.length cf) ?_
  rintro v9 A9 ⟨bv, rfl, rfl⟩
  try dsimp only [List.nil_append, List.cons_append]
  refine go_s0 (some 10) (.call { callee := .value (.func 61), args := #[.tmp 9, .func 49], argTypes := #[122, 111] }) 55 ?_
  refine os_call (Nat.le_of_ble_eq_true rfl) en61 rfl (by exact Sel.all) (ct_SortedRec (bv := bv) (c := cf) (Lst.tail (Lst.tail (Lst.tail hO.lst))) (by omega) hI.wf) ?_
  rintro v10 A10 ⟨q, cq, l', A, hp, hs', rfl, hO1, rfl⟩
  try dsimp only [List.nil_append, List.cons_append]
  refine go_q0 2 (.assign (.tmp 10)) 55 (qv_assign rfl) ?_
  refine go_nil ?_
  change G _ _ _ _
  refine p_weaken [2] rfl ?_
  refine p_ret0 ?_
  try dsimp only [thenQ, inBlockQ]
  try rw [if_pos rfl]
  refine ret_left (A ++ (cacO bc tick bd bt pf fl.length cf :: tabO bt bs n fl.length :: slotO bs L :: Af)) (.inr rfl) (.cons (res_tmp rfl) .nil) .auto ?_
  exact ⟨l', q, cq, A, ⟨hp, hs'⟩, rfl, hO1, rfl⟩
theorem sel_swap {A B C : Mem} : Sel (A ++ B ++ C) (B ++ A) C := Sel.append (by rw [List.append_assoc]; exact Sel.skipA Sel.app) Sel.app
theorem flush_ends {bc : Nat} {tick : Int} {bd : Bnd} {fl srt : List Rec} {M B : Mem} {q : Option Addr} {c : Nat} (hM : CacM bc tick bd fl M) (hA : AllR fl srt) (hl : Lst eRec q srt B) :
    Ct Tryz.prog 42 [.pointer (some ⟨bc, 0, none⟩), .func (.func 43) #[] #[], .slice q srt.length c].toArray (M ++ B) (fun v M' => ∃ q cq B1 M1, v = .slice q (told (fun _ => 4) srt).length cq ∧ OwnL eRec 69 q cq (told (fun _ => 4) srt) B1 ∧ CacM bc tick bd [] M1 ∧ M' = B1 ++ (M1 ++ B)) := by
  have hle := hM.le
  have hM0 := hM
  obtain ⟨bt, bs, n, L, pf, cf, Af, hI, hO, rfl⟩ := hM
  have h := ct_ends (c := c) (l := srt) (Ag := []) (Al := B) (cb := []) (fun _ => 4) en43 hM0 hl (by rw [hA.1.length_eq]; exact hle) (fun r hr bt pf nf cf => Pu.any (pu_forced r)) (fun r hr => hA.1.mem_iff.1 hr) ((hA.1.pairwise_iff (fun {a b} h => Ne.symm h)).2 hI.dist)
  rw [List.nil_append] at h
  refine h.mono ?_
  rintro v M' ⟨fl', q, cq, B1, M1, hmem, hv, hB1, hM1, hM'⟩
  have hnil : fl' = [] := by
    cases fl' with
    | nil => rfl
    | cons x t =>
      exfalso
      obtain ⟨h1, h2⟩ := (hmem x).1 (by simp)
      exact h2 (List.mem_map.2 ⟨x, hA.1.mem_iff.2 h1, rfl⟩)
  subst hnil
  exact ⟨q, cq, B1, M1, hv, hB1, hM1, hM'⟩
theorem ct_Flush {bc : Nat} {tick : Int} {bd : Bnd} {fl : List Rec} {M : Mem} (hM : CacM bc tick bd fl M) :
    Ct Tryz.prog 16 [.pointer (some ⟨bc, 0, none⟩)].toArray M (fun v M' => ∃ srt q cq B M1, AllR fl srt ∧ v = .slice q (told (fun _ => 4) srt).length cq ∧ OwnL eRec 69 q cq (told (fun _ => 4) srt) B ∧ CacM bc tick bd [] M1 ∧ M' = B ++ M1) := by
  have hle := hM.le
  refine ct_body (rv := [.tmp 2]) [(0, _)] Tryz.func16 (by kernel_rfl) Tryz.ntmps16 Tryz.results16 rfl rfl (fun w0 => ?_)
  refine p_seq0 ?_
  refine p_plain0 (0 :: []) ?_
  refine go_q0 2 (.assign (.const (.slice none 0 0))) 55 (qv_assign rfl) ?_
  refine go_nil ?_
  change G _ _ _ _
  refine p_seq0 ?_
  refine p_seq0 ?_
  refine p_plain0 (0 :: 1 :: []) ?_
  refine go_q0 3 (.move (.tmp 0)) 43 (qv_move rfl) ?_
  refine go_q0 4 (.binOp .eql 43 (.tmp 3) (.const (.pointer none)) 43) 4 (qv_eqlP un43 rfl) ?_
  refine go_nil ?_
  change G _ _ _ _
  refine p_weaken [0, 2, 4] rfl ?_
  refine p_condF (.tmp 4) (by kernel_rfl) rfl ?_
  refine p_skip0 ?_
  change G _ _ _ _
  refine p_weaken [0, 2] rfl ?_
  refine p_seq0 ?_
  refine p_plain0 (0 :: 1 :: 2 :: 3 :: 4 :: []) ?_
  refine go_q0 5 (.move (.tmp 0)) 43 (qv_move rfl) ?_
  refine go_q0 6 (.move (.tmp 0)) 43 (qv_move rfl) ?_
  refine go_s0 (some 7) (.call { callee := .value (.func 24), args := #[.tmp 6], argTypes := #[43] }) 55 ?_
  refine os_call (Nat.le_of_ble_eq_true rfl) en24 rfl .auto (ct_All hM) ?_
  rintro v7 A7 ⟨srt, q, cq, B, hA, rfl, hB, rfl⟩
  try dsimp only [List.nil_append, List.cons_append]
  refine go_s0 (some 8) (.call { callee := .value (.func 42), args := #[.tmp 5, .func 43, .tmp 7], argTypes := #[43, 106, 55] }) 55 ?_
  refine os_call (Nat.le_of_ble_eq_true rfl) en42 rfl (sel_swap) (flush_ends hM hA hB.lst (c := cq)) ?_
  rintro v8 A8 ⟨q2, cq2, B2, M1, rfl, hB2, hM1, rfl⟩
  try dsimp only [List.nil_append, List.cons_append]
  refine go_q0 2 (.assign (.tmp 8)) 55 (qv_assign rfl) ?_
  refine go_nil ?_
  change G _ _ _ _
  refine p_weaken [2] rfl ?_
  refine p_ret0 ?_
  try dsimp only [thenQ, inBlockQ]
  try rw [if_pos rfl]
  refine ret_left (B2 ++ M1) (.inr rfl) (.cons (res_tmp rfl) .nil) .auto ?_
  exact ⟨srt, q2, cq2, B2, M1, hA, rfl, hB2, hM1, rfl⟩
end Go.Proofs.YtobmcpoejhhemaaGreat

namespace Go.Proofs.YtobmcpoejhhemaaGreat
open Go.E

theorem ct_Tick {bc : Nat} {tick : Int} {bd : Bnd} {fl : List Rec} {M : Mem} (hM : CacM bc tick bd fl M) :
    Ct Tryz.prog 17 [.pointer (some ⟨bc, 0, none⟩)].toArray M (fun v M' => v = .int .u64 tick ∧ M' = M) := by
  obtain ⟨bt, bs, n, L, pf, cf, Af, hI, hO, rfl⟩ := hM
  refine ct_body (rv := [.tmp 2]) [(0, _)] Tryz.func17 (by kernel_rfl) Tryz.ntmps17 Tryz.results17 rfl rfl (fun w0 => ?_)
  refine p_seq0 ?_
  refine p_plain0 (0 :: []) ?_
  refine go_q0 2 (.assign (.const (.int .u64 0))) 23 (qv_assign rfl) ?_
  refine go_nil ?_
  change G _ _ _ _
  refine p_seq0 ?_
  refine p_seq0 ?_
  refine p_plain0 (0 :: 1 :: []) ?_
  refine go_q0 3 (.move (.tmp 0)) 43 (qv_move rfl) ?_
  refine go_q0 4 (.binOp .eql 43 (.tmp 3) (.const (.pointer none)) 43) 4 (qv_eqlP un43 rfl) ?_
  refine go_nil ?_
  change G _ _ _ _
  refine p_weaken [0, 2, 4] rfl ?_
  refine p_condF (.tmp 4) (by kernel_rfl) rfl ?_
  refine p_skip0 ?_
  change G _ _ _ _
  refine p_weaken [0, 2] rfl ?_
  refine p_seq0 ?_
  refine p_plain0 (0 :: 1 :: 2 :: 3 :: 4 :: []) ?_
  refine go_q0 5 (.move (.tmp 0)) 43 (qv_move rfl) ?_
  refine go_q0 6 (.nilCheck (.tmp 5)) 0 (qv_nilCheck rfl) ?_
  refine go_q0 7 (.fieldAddr 84 (.tmp 6) 0) 0 (qv_field rfl fd84_0) ?_
  refine go_q0 8 (.load 23 (.tmp 7)) 23 (qv_load rfl .auto (ldv_sca sc23 (get_Cac_0 _))) ?_
  refine go_q0 2 (.assign (.tmp 8)) 23 (qv_assign rfl) ?_
  refine go_nil ?_
  change G _ _ _ _
  refine p_weaken [2] rfl ?_
  refine p_ret0 ?_
  try dsimp only [thenQ, inBlockQ]
  try rw [if_pos rfl]
  refine ret_left (cacO bc tick bd bt pf fl.length cf :: tabO bt bs n fl.length :: slotO bs L :: Af) (.inr rfl) (.cons (res_tmp rfl) .nil) .auto ?_
  exact ⟨rfl, rfl⟩
/-- The least due tick. -/
def nextS (bd : Bnd) (fl : List Rec) : Option Int := fl.foldl (fun s r => match s with | none => some (dueR bd r) | some a => if dueR bd r < a then some (dueR bd r) else some a) none
theorem nextS_succ {bd : Bnd} {fl : List Rec} {i : Nat} {x : Rec} (h : fl[i]? = some x) : nextS bd (fl.take (i + 1)) = match nextS bd (fl.take i) with | none => some (dueR bd x) | some a => if dueR bd x < a then some (dueR bd x) else some a := by
  unfold nextS
  rw [List.take_add_one, h, List.foldl_append]
  rfl
theorem ct_Next {bc : Nat} {tick : Int} {bd : Bnd} {fl : List Rec} {M : Mem} (hM : CacM bc tick bd fl M) :
    Ct Tryz.prog 27 [.pointer (some ⟨bc, 0, none⟩)].toArray M (fun v M' => v = .tuple #[.int .u64 ((nextS bd fl).getD 0), .bool (nextS bd fl).isSome] ∧ M' = M) := by
  have hle := hM.le
  obtain ⟨bt, bs, n, L, pf, cf, Af, hI, hO, rfl⟩ := hM
  have hbd := hI.bw
  refine ct_body (rv := [.tmp 2, .tmp 3]) [(0, _)] Tryz.func27 (by kernel_rfl) Tryz.ntmps27 Tryz.results27 rfl rfl (fun w0 => ?_)
  refine p_seq0 ?_
  refine p_plain0 (0 :: 1 :: []) ?_
  refine go_q0 2 (.assign (.const (.int .u64 0))) 23 (qv_assign rfl) ?_
  refine go_q0 3 (.assign (.const (.bool false))) 4 (qv_assign rfl) ?_
  refine go_nil ?_
  change G _ _ _ _
  refine p_seq0 ?_
  refine p_seq0 ?_
  refine p_plain0 (0 :: 1 :: []) ?_
  refine go_q0 7 (.move (.tmp 0)) 43 (qv_move rfl) ?_
  refine go_q0 8 (.binOp .eql 43 (.tmp 7) (.const (.pointer none)) 43) 4 (qv_eqlP un43 rfl) ?_
  refine go_nil ?_
  change G _ _ _ _
  refine p_weaken [0, 2, 3, 8] rfl ?_
  refine p_condF (.tmp 8) (by kernel_rfl) rfl ?_
  refine p_skip0 ?_
  change G _ _ _ _
  refine p_weaken [0, 2, 3] rfl ?_
  refine p_seq0 ?_
  refine p_seq0 ?_
  refine p_plain0 (0 :: 1 :: 2 :: 3 :: 4 :: 5 :: []) ?_
  refine go_q0 9 (.move (.tmp 0)) 43 (qv_move rfl) ?_
  refine go_q0 10 (.nilCheck (.tmp 9)) 0 (qv_nilCheck rfl) ?_
  refine go_q0 11 (.fieldAddr 84 (.tmp 10) 3) 0 (qv_field rfl fd84_3) ?_
  refine go_q0 12 (.load 55 (.tmp 11)) 55 (qv_load rfl .auto (ldv_sca sc55 (get_Cac_7 _))) ?_
  refine go_q0 13 (.call { callee := .builtin .len, args := #[.tmp 12], argTypes := #[55] }) 3 (qv_lenS un55 rfl) ?_
  refine go_q0 14 (.move (.const (.int .i64 0))) 3 (qv_move rfl) ?_
  refine go_nil ?_
  change G _ _ _ _
  refine p_weaken [0, 2, 3, 12, 13, 14] rfl ?_
  refine p_block 0 (by kernel_rfl) ?_
  refine p_loopE (by kernel_rfl) (fun s m => ∃ (i : Nat), (i ≤ fl.length) ∧ Ge s ⟨[], [(0, .pointer (some ⟨bc, 0, none⟩)), (2, .int .u64 ((nextS bd (fl.take i)).getD 0)), (3, .bool (nextS bd (fl.take i)).isSome), (12, .slice pf fl.length cf), (13, .int .i64 fl.length), (14, .int .i64 i)], cacO bc tick bd bt pf fl.length cf :: tabO bt bs n fl.length :: slotO bs L :: Af⟩ ∧ m = fl.length + 1 - i) ?_ ?_
  · exact ⟨_, ⟨0, by omega, ⟨rfl, ⟨[0, 2, 3, 12, 13, 14], rfl⟩, .auto⟩, rfl⟩⟩
  rintro s m ⟨i, hi, hs, rfl⟩
  refine ge_ok hs ?_
  refine p_seq0 ?_
  refine p_plain0 (0 :: []) ?_
  refine go_q0 15 (.binOp .lss 3 (.tmp 14) (.tmp 13) 3) 0 (qv_lss rfl rfl rfl) ?_
  refine go_nil ?_
  change G _ _ _ _
  refine p_seq0 ?_
  refine p_cond (.tmp 15) (by kernel_rfl) rfl (fun h15 => ?_) (fun h15 => ?_)
  rotate_left
  · replace h15 := kn h15
    refine p_exit 0 (by kernel_rfl) ?_
    change G _ _ _ _
    refine p_weaken [2, 3] rfl ?_
    refine p_seq0 ?_
    refine p_plain0 (0 :: 1 :: 2 :: 3 :: []) ?_
    refine go_q0 30 (.move (.tmp 2)) 23 (qv_move rfl) ?_
    refine go_q0 31 (.move (.tmp 3)) 4 (qv_move rfl) ?_
    refine go_q0 2 (.assign (.tmp 30)) 23 (qv_assign rfl) ?_
    refine go_q0 3 (.assign (.tmp 31)) 4 (qv_assign rfl) ?_
    refine go_nil ?_
    change G _ _ _ _
    refine p_weaken [2, 3] rfl ?_
    refine p_ret0 ?_
    try dsimp only [thenQ, inBlockQ]
    try rw [if_pos rfl]
    refine ret_left (cacO bc tick bd bt pf fl.length cf :: tabO bt bs n fl.length :: slotO bs L :: Af) (.inr rfl) (.cons (res_tmp rfl) (.cons (res_tmp rfl) .nil)) .auto ?_
    have hie : i = fl.length := by omega
    subst hie
    exact ⟨by rw [List.take_length]; rfl, rfl⟩
  replace h15 := kn h15
  refine p_skip0 ?_
  change G _ _ _ _
  refine p_weaken [0, 2, 3, 12, 13, 14] rfl ?_
  refine p_seqJ (fun s => Ge s ⟨[], [(0, .pointer (some ⟨bc, 0, none⟩)), (2, .int .u64 ((nextS bd (fl.take (i + 1))).getD 0)), (3, .bool (nextS bd (fl.take (i + 1))).isSome), (12, .slice pf fl.length cf), (13, .int .i64 fl.length), (14, .int .i64 i)], cacO bc tick bd bt pf fl.length cf :: tabO bt bs n fl.length :: slotO bs L :: Af⟩) (by kernel_rfl) ?_ ?_
  rotate_left
  · rintro s hs
    refine ge_ok hs ?_
    refine p_plain0 (0 :: 1 :: []) ?_
    refine go_q0 29 (.binOp .add 3 (.tmp 14) (.const (.int .i64 1)) 3) 3 (qv_add rfl rfl (by first | exact IntWalk.i64_in _ (by omega) | exact IntWalk.i64_in _ (by dsimp only; omega) | rfl)) ?_
    refine go_q0 14 (.move (.tmp 29)) 3 (qv_move rfl) ?_
    refine go_nil ?_
    exact ⟨_, ⟨i + 1, by omega, ⟨rfl, ⟨[0, 2, 3, 12, 13, 14], rfl⟩, .auto⟩, rfl⟩, by omega⟩
  refine p_block 1 (by kernel_rfl) ?_
  refine p_seq0 ?_
  obtain ⟨bb, oo, cu, ee, ff, hpe, mm, H⟩ := hO.lst.at_ (i := i) (by omega)
  obtain ⟨x, hx⟩ : ∃ x, fl[i]? = some x := ⟨_, List.getElem?_eq_getElem (by omega)⟩
  have hD := ct_due (bc := bc) (bt := bt) (nf := fl.length) (cf := cf) (tick := tick) (pf := pf) hbd (hI.wf x (List.mem_of_getElem? hx))
  have hsu := nextS_succ (bd := bd) hx
  generalize hst : nextS bd (fl.take i) = st at *
  subst hpe
  refine p_plain0 (0 :: 1 :: 2 :: 3 :: []) ?_
  refine go_q0 16 (.indexAddr 55 (.tmp 12) (.tmp 14)) 0 (qv_index un55 sz69 rfl rfl rfl (by omega)) ?_
  refine go_q0 17 (.load 69 (.tmp 16)) 69 (qv_load rfl (At.of_mem (by repeat first | exact mm | exact List.mem_append_left _ mm | apply List.mem_cons_of_mem | apply List.mem_append_right)) (ldv_els H hx (by decide) agg69 rfl)) ?_
  refine go_s0 (some 5) (.alloc 69) 0 ?_
  refine os_allocA rfl ze69 (fun b5 => ?_)
  refine go_s0 none (.store 69 (.tmp 5) (.tmp 17)) 0 ?_
  refine os_store rfl rfl sz69 rfl (one_Rec _) .auto (Nat.le_of_ble_eq_true rfl) (splw_Rec _ _ (siz_Rec _)) ?_
  refine go_nil ?_
  change G _ _ _ _
  refine p_weaken [0, 2, 3, 5, 12, 13, 14] rfl ?_
  refine p_seq0 ?_
  refine p_plain0 (0 :: 1 :: 2 :: 3 :: []) ?_
  refine go_q0 18 (.move (.tmp 0)) 43 (qv_move rfl) ?_
  refine go_q0 19 (.load 69 (.tmp 5)) 69 (qv_load rfl .auto (ldv_agg agg69 (extw_Rec _) (Nat.le_of_ble_eq_true rfl))) ?_
  refine go_s0 (some 20) (.call { callee := .value (.func 44), args := #[.tmp 18, .tmp 19], argTypes := #[43, 69] }) 23 ?_
  refine os_pv rfl (pv_callR en44 rfl .auto (hD)) ?_
  refine go_q0 6 (.assign (.tmp 20)) 23 (qv_assign rfl) ?_
  refine go_nil ?_
  change G _ _ _ _
  refine p_weaken [0, 2, 3, 6, 12, 13, 14] rfl ?_
  refine p_seq0 ?_
  refine p_plain0 (0 :: 1 :: 2 :: 3 :: 4 :: 5 :: 6 :: []) ?_
  refine go_q0 21 (.move (.tmp 3)) 4 (qv_move rfl) ?_
  refine go_q0 22 (.unOp .not 4 (.tmp 21)) 4 (qv_not rfl) ?_
  refine go_q0 23 (.move (.tmp 22)) 4 (qv_move rfl) ?_
  refine go_case (d := 23) rfl (fun g23 => ?_) (fun g23 => ?_)
  · replace g23 := kn g23
    have hsn : nextS bd (fl.take (i + 1)) = some (dueR bd x) := by rw [hsu]; cases st with | none => rfl | some a => cases g23
    refine go_n (d := 24) (op := .move (.tmp 6)) (ty := 23) (g := some (2, false)) (by kernel_rfl) ⟨23, _, by kernel_rfl, rfl, rfl⟩ rfl ?_
    refine go_n (d := 25) (op := .move (.tmp 2)) (ty := 23) (g := some (2, false)) (by kernel_rfl) ⟨23, _, by kernel_rfl, rfl, rfl⟩ rfl ?_
    refine go_n (d := 26) (op := .binOp .lss 23 (.tmp 24) (.tmp 25) 23) (ty := 4) (g := some (2, false)) (by kernel_rfl) ⟨23, _, by kernel_rfl, rfl, rfl⟩ rfl ?_
    refine go_q0 27 (.pick (.tmp 23) (.const (.bool true)) (.tmp 26)) 4 (qv_pick_t rfl rfl) ?_
    refine go_nil ?_
    change G _ _ _ _
    refine p_weaken [0, 2, 3, 6, 12, 13, 14, 27] rfl ?_
    refine p_condT (.tmp 27) (by kernel_rfl) rfl ?_
    refine p_plain0 (0 :: 1 :: 2 :: []) ?_
    refine go_q0 28 (.move (.tmp 6)) 23 (qv_move rfl) ?_
    refine go_q0 2 (.assign (.tmp 28)) 23 (qv_assign rfl) ?_
    refine go_q0 3 (.assign (.const (.bool true))) 4 (qv_assign rfl) ?_
    refine go_nil ?_
    rw [hsn]
    exact ⟨rfl, ⟨[0, 2, 3, 12, 13, 14], rfl⟩, .auto⟩
  replace g23 := kn g23
  refine go_q (d := 24) (op := .move (.tmp 6)) (ty := 23) (g := some (2, false)) (by kernel_rfl) ⟨23, by kernel_rfl, rfl⟩ rfl (qv_move rfl) ?_
  refine go_q (d := 25) (op := .move (.tmp 2)) (ty := 23) (g := some (2, false)) (by kernel_rfl) ⟨23, by kernel_rfl, rfl⟩ rfl (qv_move rfl) ?_
  refine go_q (d := 26) (op := .binOp .lss 23 (.tmp 24) (.tmp 25) 23) (ty := 4) (g := some (2, false)) (by kernel_rfl) ⟨23, by kernel_rfl, rfl⟩ rfl (qv_lss rfl rfl rfl) ?_
  refine go_q0 27 (.pick (.tmp 23) (.const (.bool true)) (.tmp 26)) 4 (qv_pick_f rfl rfl) ?_
  refine go_nil ?_
  change G _ _ _ _
  refine p_weaken [0, 2, 3, 6, 12, 13, 14, 27] rfl ?_
  refine p_cond (.tmp 27) (by kernel_rfl) rfl (fun h27 => ?_) (fun h27 => ?_)
  rotate_left
  · replace h27 := kn h27
    obtain ⟨a, rfl⟩ : ∃ a, st = some a := by cases st with | none => cases g23 | some a => exact ⟨a, rfl⟩
    have hsn : nextS bd (fl.take (i + 1)) = some a := by rw [hsu]; exact if_neg h27
    refine p_skip0 ?_
    rw [hsn]
    exact ⟨rfl, ⟨[0, 2, 3, 12, 13, 14], rfl⟩, .auto⟩
  replace h27 := kn h27
  have hsn : nextS bd (fl.take (i + 1)) = some (dueR bd x) := by rw [hsu]; cases st with | none => rfl | some a => exact if_pos h27
  refine p_plain0 (0 :: 1 :: 2 :: []) ?_
  refine go_q0 28 (.move (.tmp 6)) 23 (qv_move rfl) ?_
  refine go_q0 2 (.assign (.tmp 28)) 23 (qv_assign rfl) ?_
  refine go_q0 3 (.assign (.const (.bool true))) 4 (qv_assign rfl) ?_
  refine go_nil ?_
  rw [hsn]
  exact ⟨rfl, ⟨[0, 2, 3, 12, 13, 14], rfl⟩, .auto⟩
theorem perm_clr {α : Type} (t s c : α) (A : List α) : (t :: s :: c :: A).Perm ([c, t, s] ++ A) := by
  classical
  exact List.perm_iff_count.2 fun x => by simp only [List.count_append, List.count_cons, List.count_nil]; omega
theorem CacI.empty {bd : Bnd} {n : Nat} {L : List Slot} {fl : List Rec} (h : CacI bd n L fl) : CacI bd n (List.replicate n zeroS) [] :=
  ⟨h.pow, h.big, Kp.new n, by simp, by simp, by have := h.least; simp; omega, h.bw, h.most, h.least⟩
theorem ct_CClear {bc : Nat} {tick : Int} {bd : Bnd} {fl : List Rec} {M : Mem} (hM : CacM bc tick bd fl M) :
    Ct Tryz.prog 29 [.pointer (some ⟨bc, 0, none⟩)].toArray M (fun v M' => v = .int .i64 fl.length ∧ CacM bc tick bd [] M') := by
  obtain ⟨bt, bs, n, L, pf, cf, Af, hI, hO, rfl⟩ := hM
  have hn := hI.pow
  have hC := ct_Clear (bt := bt) (bs := bs) (many := fl.length) hI.kp.L_len hn.pos
  refine ct_body (rv := [.tmp 2]) [(0, _)] Tryz.func29 (by kernel_rfl) Tryz.ntmps29 Tryz.results29 rfl rfl (fun w0 => ?_)
  refine p_seq0 ?_
  refine p_plain0 (0 :: []) ?_
  refine go_q0 2 (.assign (.const (.int .i64 0))) 3 (qv_assign rfl) ?_
  refine go_nil ?_
  change G _ _ _ _
  refine p_seq0 ?_
  refine p_seq0 ?_
  refine p_plain0 (0 :: 1 :: []) ?_
  refine go_q0 4 (.move (.tmp 0)) 43 (qv_move rfl) ?_
  refine go_q0 5 (.binOp .eql 43 (.tmp 4) (.const (.pointer none)) 43) 4 (qv_eqlP un43 rfl) ?_
  refine go_nil ?_
  change G _ _ _ _
  refine p_weaken [0, 2, 5] rfl ?_
  refine p_condF (.tmp 5) (by kernel_rfl) rfl ?_
  refine p_skip0 ?_
  change G _ _ _ _
  refine p_weaken [0, 2] rfl ?_
  refine p_seq0 ?_
  refine p_plain0 (0 :: 1 :: 2 :: 3 :: 4 :: 5 :: []) ?_
  refine go_q0 6 (.move (.tmp 0)) 43 (qv_move rfl) ?_
  refine go_q0 7 (.nilCheck (.tmp 6)) 0 (qv_nilCheck rfl) ?_
  refine go_q0 8 (.fieldAddr 84 (.tmp 7) 3) 0 (qv_field rfl fd84_3) ?_
  refine go_q0 9 (.load 55 (.tmp 8)) 55 (qv_load rfl .auto (ldv_sca sc55 (get_Cac_7 _))) ?_
  refine go_q0 10 (.call { callee := .builtin .len, args := #[.tmp 9], argTypes := #[55] }) 3 (qv_lenS un55 rfl) ?_
  refine go_q0 3 (.assign (.tmp 10)) 3 (qv_assign rfl) ?_
  refine go_nil ?_
  change G _ _ _ _
  refine p_weaken [0, 2, 3] rfl ?_
  refine p_seq0 ?_
  refine p_plain0 (0 :: 1 :: 2 :: 3 :: 4 :: []) ?_
  refine go_q0 11 (.move (.tmp 0)) 43 (qv_move rfl) ?_
  refine go_q0 12 (.nilCheck (.tmp 11)) 0 (qv_nilCheck rfl) ?_
  refine go_q0 13 (.fieldAddr 84 (.tmp 12) 2) 0 (qv_field rfl fd84_2) ?_
  refine go_q0 14 (.load 78 (.tmp 13)) 78 (qv_load rfl .auto (ldv_sca sc78 (get_Cac_6 _))) ?_
  refine go_s0 (some 15) (.call { callee := .value (.func 63), args := #[.tmp 14], argTypes := #[78] }) 0 ?_
  refine os_call (Nat.le_of_ble_eq_true rfl) en63 rfl .auto (hC) ?_
  rintro v15 A15 ⟨rfl, rfl⟩
  try dsimp only [List.nil_append, List.cons_append]
  refine go_nil ?_
  change G _ _ _ _
  refine p_weaken [0, 2, 3] rfl ?_
  refine p_seq0 ?_
  refine p_plain0 (0 :: 1 :: 2 :: 3 :: []) ?_
  refine go_q0 16 (.move (.tmp 0)) 43 (qv_move rfl) ?_
  refine go_q0 17 (.nilCheck (.tmp 16)) 0 (qv_nilCheck rfl) ?_
  refine go_q0 18 (.fieldAddr 84 (.tmp 17) 3) 0 (qv_field rfl fd84_3) ?_
  refine go_s0 none (.store 55 (.tmp 18) (.const (.slice none 0 0))) 0 ?_
  refine os_store1 rfl rfl sz55 rfl rfl .auto (Nat.le_of_ble_eq_true rfl) (set_Cac_7 _ _) ?_
  refine go_nil ?_
  change G _ _ _ _
  refine p_weaken [2, 3] rfl ?_
  refine p_seq0 ?_
  refine p_plain0 (0 :: 1 :: []) ?_
  refine go_q0 19 (.move (.tmp 3)) 3 (qv_move rfl) ?_
  refine go_q0 2 (.assign (.tmp 19)) 3 (qv_assign rfl) ?_
  refine go_nil ?_
  change G _ _ _ _
  refine p_weaken [2] rfl ?_
  refine p_ret0 ?_
  try dsimp only [thenQ, inBlockQ]
  try rw [if_pos rfl]
  refine ret_leftP ([cacO bc tick bd bt none 0 0, tabO bt bs n 0, slotO bs (List.replicate n zeroS)]) (.inr rfl) (.cons (res_tmp rfl) .nil) (⟨Af, perm_clr _ _ _ _⟩) ?_
  exact ⟨rfl, bt, bs, n, _, none, 0, [], hI.empty, OwnL.nil, rfl⟩
theorem ct_CGet {bc : Nat} {tick : Int} {bd : Bnd} {fl : List Rec} {M : Mem} {k : Key} (hM : CacM bc tick bd fl M) (hk : k.Wf) {i : Nat} {r : Rec} (hi : fl[i]? = some r) (hrk : r.key = k) :
    Ct Tryz.prog 28 [.pointer (some ⟨bc, 0, none⟩), .agg k.c].toArray M (fun v M' => v = .tuple #[.agg r.c, .bool true] ∧ M' = M) := by
  obtain ⟨bt, bs, n, L, pf, cf, Af, hI, hO, rfl⟩ := hM
  have hn := hI.pow
  have hil := (List.getElem?_eq_some_iff.1 hi).1
  have hki := keysOf_at hi
  rw [hrk] at hki
  have hG := ct_GetK (bt := bt) (many := fl.length) (bs := bs) hn hI.kp hki (idx_at hil)
  obtain ⟨bf, cur, rfl, rfl, hc1, hc2, hc3, H⟩ := hO.some_ (by omega)
  refine ct_body (rv := [.cell 4 69, .tmp 5]) [(0, _), (1, _)] Tryz.func28 (by kernel_rfl) Tryz.ntmps28 Tryz.results28 rfl rfl (fun w0 => ?_)
  refine p_seq0 ?_
  refine p_plain0 (0 :: 1 :: 2 :: []) ?_
  refine go_s0 (some 3) (.box 29 (.tmp 1)) 0 ?_
  refine os_boxA rfl rfl (fun b3 => ?_)
  refine go_s0 (some 4) (.alloc 69) 0 ?_
  refine os_allocA rfl ze69 (fun b4 => ?_)
  refine go_q0 5 (.assign (.const (.bool false))) 4 (qv_assign rfl) ?_
  refine go_nil ?_
  change G _ _ _ _
  refine p_weaken [0, 3, 4, 5] rfl ?_
  refine p_seq0 ?_
  refine p_seq0 ?_
  refine p_plain0 (0 :: 1 :: []) ?_
  refine go_q0 8 (.move (.tmp 0)) 43 (qv_move rfl) ?_
  refine go_q0 9 (.binOp .eql 43 (.tmp 8) (.const (.pointer none)) 43) 4 (qv_eqlP un43 rfl) ?_
  refine go_nil ?_
  change G _ _ _ _
  refine p_weaken [0, 3, 4, 5, 9] rfl ?_
  refine p_condF (.tmp 9) (by kernel_rfl) rfl ?_
  refine p_skip0 ?_
  change G _ _ _ _
  refine p_weaken [0, 3, 4, 5] rfl ?_
  refine p_seq0 ?_
  refine p_draw (by kernel_rfl) mixed 10 11 _ (fun _ h => h) (by kernel_rfl) ?_
  refine gd_all (0 :: 1 :: 2 :: 3 :: 4 :: 5 :: 6 :: 7 :: 8 :: 9 :: []) _ rfl (by kernel_rfl) (by decide) (fun _ h => h) rfl ?_
  refine sq_q0 12 (.move (.tmp 0)) 43 (qv_move rfl) ?_
  refine sq_q0 13 (.nilCheck (.tmp 12)) 0 (qv_nilCheck rfl) ?_
  refine sq_q0 14 (.fieldAddr 84 (.tmp 13) 2) 0 (qv_field rfl fd84_2) ?_
  refine sq_q0 15 (.load 78 (.tmp 14)) 78 (qv_load rfl .auto (ldv_sca sc78 (get_Cac_6 _))) ?_
  refine sq_q0 16 (.load 29 (.tmp 3)) 29 (qv_load rfl .auto (ldv_agg agg29 (extw_Key _) (Nat.le_of_ble_eq_true rfl))) ?_
  refine sq_p (d := 17) (op := .call { callee := .value (.func 55), args := #[.tmp 15, .tmp 16], argTypes := #[78, 29] }) (ty := 72) (g := none) (by kernel_rfl) trivial (pv_callR en55 rfl .auto (hG)) ?_
  refine sq_q0 11 (.move (.tmp 17)) 72 (qv_move rfl) ?_
  refine sq_q0 18 (.extract (.tmp 11) 0) 23 (qv_extract rfl rfl) ?_
  refine sq_q0 19 (.extract (.tmp 11) 1) 4 (qv_extract rfl rfl) ?_
  refine sq_q0 6 (.assign (.tmp 18)) 23 (qv_assign rfl) ?_
  refine SeqK.nil (fun β => ?_)
  refine gd_tail [10] rfl (by kernel_rfl) (by kernel_rfl) ?_
  refine go_q0 7 (.assign (.tmp 19)) 4 (qv_assign rfl) ?_
  refine go_nil ?_
  change G _ _ _ _
  refine p_weaken [0, 4, 5, 6, 7] rfl ?_
  refine p_seq0 ?_
  refine p_seq0 ?_
  refine p_plain0 (0 :: 1 :: []) ?_
  refine go_q0 20 (.move (.tmp 7)) 4 (qv_move rfl) ?_
  refine go_q0 21 (.unOp .not 4 (.tmp 20)) 4 (qv_not rfl) ?_
  refine go_nil ?_
  change G _ _ _ _
  refine p_weaken [0, 4, 5, 6, 21] rfl ?_
  refine p_condF (.tmp 21) (by kernel_rfl) rfl ?_
  refine p_skip0 ?_
  change G _ _ _ _
  refine p_weaken [0, 4, 5, 6] rfl ?_
  refine p_seq0 ?_
  refine p_plain0 (0 :: 1 :: 2 :: 3 :: 4 :: 5 :: 6 :: 7 :: 8 :: []) ?_
  refine go_q0 23 (.move (.tmp 0)) 43 (qv_move rfl) ?_
  refine go_q0 24 (.nilCheck (.tmp 23)) 0 (qv_nilCheck rfl) ?_
  refine go_q0 25 (.fieldAddr 84 (.tmp 24) 3) 0 (qv_field rfl fd84_3) ?_
  refine go_q0 26 (.load 55 (.tmp 25)) 55 (qv_load rfl .auto (ldv_sca sc55 (get_Cac_7 _))) ?_
  refine go_q0 27 (.move (.tmp 6)) 23 (qv_move rfl) ?_
  refine go_q0 28 (.indexAddr 55 (.tmp 26) (.tmp 27)) 0 (qv_index un55 sz69 rfl rfl rfl hil) ?_
  refine go_q0 29 (.load 69 (.tmp 28)) 69 (qv_load rfl .auto (ldv_els H hi (by decide) agg69 rfl)) ?_
  refine go_s0 none (.store 69 (.tmp 4) (.tmp 29)) 0 ?_
  refine os_store rfl rfl sz69 rfl (one_Rec _) .auto (Nat.le_of_ble_eq_true rfl) (splw_Rec _ _ (siz_Rec _)) ?_
  refine go_q0 5 (.assign (.const (.bool true))) 4 (qv_assign rfl) ?_
  refine go_nil ?_
  change G _ _ _ _
  refine p_weaken [4, 5] rfl ?_
  refine p_ret0 ?_
  try dsimp only [thenQ, inBlockQ]
  try rw [if_pos rfl]
  refine ret_left (cacO bc tick bd bt (some ⟨bf, 0, none⟩) fl.length cf :: tabO bt bs n fl.length :: slotO bs L :: [(bf, .cells cur 69 (0, 0))]) (.inr rfl) (.cons (res_cell rfl (At.mem .auto) (ldv_agg agg69 (extw_Rec _) (Nat.le_of_ble_eq_true rfl))) (.cons (res_tmp rfl) .nil)) .auto ?_
  exact ⟨rfl, rfl⟩
theorem ct_CGetN {bc : Nat} {tick : Int} {bd : Bnd} {fl : List Rec} {M : Mem} {k : Key} (hM : CacM bc tick bd fl M) (hk : k.Wf) (hno : k ∉ keysOf fl) :
    Ct Tryz.prog 28 [.pointer (some ⟨bc, 0, none⟩), .agg k.c].toArray M (fun v M' => v = .tuple #[.agg zeroR.c, .bool false] ∧ M' = M) := by
  obtain ⟨bt, bs, n, L, pf, cf, Af, hI, hO, rfl⟩ := hM
  have hn := hI.pow
  have hn1 := hn.pos
  have hn2 := hn.le
  obtain ⟨gv, hgv, _⟩ := hI.kp.getAny hn k
  have hG := ct_Get (bt := bt) (bs := bs) (many := fl.length) (L := L) (k := k) hk (by have := hI.kp.L_len; omega) (by have := hI.kp.L_len; omega)
  rw [hI.kp.L_len, hgv, decide_eq_false hno] at hG
  refine ct_body (rv := [.cell 4 69, .tmp 5]) [(0, _), (1, _)] Tryz.func28 (by kernel_rfl) Tryz.ntmps28 Tryz.results28 rfl rfl (fun w0 => ?_)
  refine p_seq0 ?_
  refine p_plain0 (0 :: 1 :: 2 :: []) ?_
  refine go_s0 (some 3) (.box 29 (.tmp 1)) 0 ?_
  refine os_boxA rfl rfl (fun b3 => ?_)
  refine go_s0 (some 4) (.alloc 69) 0 ?_
  refine os_allocA rfl ze69 (fun b4 => ?_)
  refine go_q0 5 (.assign (.const (.bool false))) 4 (qv_assign rfl) ?_
  refine go_nil ?_
  change G _ _ _ _
  refine p_weaken [0, 3, 4, 5] rfl ?_
  refine p_seq0 ?_
  refine p_seq0 ?_
  refine p_plain0 (0 :: 1 :: []) ?_
  refine go_q0 8 (.move (.tmp 0)) 43 (qv_move rfl) ?_
  refine go_q0 9 (.binOp .eql 43 (.tmp 8) (.const (.pointer none)) 43) 4 (qv_eqlP un43 rfl) ?_
  refine go_nil ?_
  change G _ _ _ _
  refine p_weaken [0, 3, 4, 5, 9] rfl ?_
  refine p_condF (.tmp 9) (by kernel_rfl) rfl ?_
  refine p_skip0 ?_
  change G _ _ _ _
  refine p_weaken [0, 3, 4, 5] rfl ?_
  refine p_seq0 ?_
  refine p_draw (by kernel_rfl) mixed 10 11 _ (fun _ h => h) (by kernel_rfl) ?_
  refine gd_all (0 :: 1 :: 2 :: 3 :: 4 :: 5 :: 6 :: 7 :: 8 :: 9 :: []) _ rfl (by kernel_rfl) (by decide) (fun _ h => h) rfl ?_
  refine sq_q0 12 (.move (.tmp 0)) 43 (qv_move rfl) ?_
  refine sq_q0 13 (.nilCheck (.tmp 12)) 0 (qv_nilCheck rfl) ?_
  refine sq_q0 14 (.fieldAddr 84 (.tmp 13) 2) 0 (qv_field rfl fd84_2) ?_
  refine sq_q0 15 (.load 78 (.tmp 14)) 78 (qv_load rfl .auto (ldv_sca sc78 (get_Cac_6 _))) ?_
  refine sq_q0 16 (.load 29 (.tmp 3)) 29 (qv_load rfl .auto (ldv_agg agg29 (extw_Key _) (Nat.le_of_ble_eq_true rfl))) ?_
  refine sq_p (d := 17) (op := .call { callee := .value (.func 55), args := #[.tmp 15, .tmp 16], argTypes := #[78, 29] }) (ty := 72) (g := none) (by kernel_rfl) trivial (pv_callR en55 rfl .auto (hG)) ?_
  refine sq_q0 11 (.move (.tmp 17)) 72 (qv_move rfl) ?_
  refine sq_q0 18 (.extract (.tmp 11) 0) 23 (qv_extract rfl rfl) ?_
  refine sq_q0 19 (.extract (.tmp 11) 1) 4 (qv_extract rfl rfl) ?_
  refine sq_q0 6 (.assign (.tmp 18)) 23 (qv_assign rfl) ?_
  refine SeqK.nil (fun β => ?_)
  refine gd_tail [10] rfl (by kernel_rfl) (by kernel_rfl) ?_
  refine go_q0 7 (.assign (.tmp 19)) 4 (qv_assign rfl) ?_
  refine go_nil ?_
  change G _ _ _ _
  refine p_weaken [0, 4, 5, 6, 7] rfl ?_
  refine p_seq0 ?_
  refine p_seq0 ?_
  refine p_plain0 (0 :: 1 :: []) ?_
  refine go_q0 20 (.move (.tmp 7)) 4 (qv_move rfl) ?_
  refine go_q0 21 (.unOp .not 4 (.tmp 20)) 4 (qv_not rfl) ?_
  refine go_nil ?_
  change G _ _ _ _
  refine p_weaken [0, 4, 5, 6, 21] rfl ?_
  refine p_condT (.tmp 21) (by kernel_rfl) rfl ?_
  refine p_seq0 ?_
  refine p_plain0 (0 :: 1 :: 2 :: []) ?_
  refine go_q0 22 (.build 69 #[]) 69 (qv_build rfl (bld69_)) ?_
  refine go_s0 none (.store 69 (.tmp 4) (.tmp 22)) 0 ?_
  refine os_store rfl rfl sz69 rfl (one_Rec _) .auto (Nat.le_of_ble_eq_true rfl) (splw_Rec _ _ (siz_Rec _)) ?_
  refine go_q0 5 (.assign (.const (.bool false))) 4 (qv_assign rfl) ?_
  refine go_nil ?_
  change G _ _ _ _
  refine p_weaken [0, 4, 5, 6] rfl ?_
  refine p_ret0 ?_
  try dsimp only [thenQ, inBlockQ]
  try rw [if_pos rfl]
  refine ret_left (cacO bc tick bd bt pf fl.length cf :: tabO bt bs n fl.length :: slotO bs L :: Af) (.inr rfl) (.cons (res_cell rfl (At.mem .auto) (ldv_agg agg69 (extw_Rec _) (Nat.le_of_ble_eq_true rfl))) (.cons (res_tmp rfl) .nil)) .auto ?_
  exact ⟨rfl, rfl⟩

theorem pu_bitsLen (x : Int) (h0 : 0 ≤ x) (h1 : x ≤ 18446744073709551615) : Pu Tryz.prog 32 [.int .u64 x] (.int .i64 (Lib.bitLen x.toNat : Nat)) := fun w hn hM =>
  (Any.bits_Len (SlLaysF0.n15.bits (P := Tryz.prog) (ρ := laySortRec_ren) { laySortRec with }) x w h0 h1).mono fun e w' ⟨he, hw⟩ => by subst hw; exact ⟨_, [], he, ⟨rfl, rfl⟩, Chg.refl hn hM⟩
def okBnd (b : Bnd) : Bool := decide (1 ≤ b.flows) && decide (b.flows ≤ 4096) && decide (b.idle ≠ 0) && decide (b.active ≠ 0) && decide (b.packets ≠ 0) && decide (b.bytes ≠ 0)
set_option maxRecDepth 100000 in
theorem bitLen_le13 : ∀ m : Fin 4097, Lib.bitLen m.val ≤ 13 ∧ m.val < p2 (Lib.bitLen m.val) := by decide +kernel
theorem p2_pow : ∀ e : Fin 17, 0 < p2 e.val ∧ p2 e.val ≤ 65536 ∧ (p2 e.val : Int) ∣ 18446744073709551616 := by decide +kernel
theorem shl_p2 : ∀ e : Fin 17, IntKind.i64.wrap (1 * 2 ^ min ((e.val : Nat) : Int).toNat IntKind.i64.bits) = (p2 e.val : Int) := by decide +kernel
theorem pu_CNewBad (tick : Int) (b : Bnd) (h : okBnd b = false) : Pu Tryz.prog 10 [.int .u64 tick, .agg b.c] (.tuple #[.pointer none, .int .i64 2]) := by
  refine ct_body (rv := [.tmp 4, .tmp 5]) [(0, _), (1, _)] Tryz.func10 (by kernel_rfl) Tryz.ntmps10 Tryz.results10 rfl rfl (fun w0 => ?_)
  refine p_seq0 ?_
  refine p_plain0 (0 :: 1 :: 2 :: []) ?_
  refine go_s0 (some 3) (.box 36 (.tmp 1)) 0 ?_
  refine os_boxA rfl rfl (fun b3 => ?_)
  refine go_q0 4 (.assign (.const (.pointer none))) 43 (qv_assign rfl) ?_
  refine go_q0 5 (.assign (.const (.int .i64 0))) 44 (qv_assign rfl) ?_
  refine go_nil ?_
  change G _ _ _ _
  refine p_weaken [0, 3, 4, 5] rfl ?_
  refine p_seq0 ?_
  refine p_seq0 ?_
  refine p_plain0 (0 :: 1 :: 2 :: 3 :: 4 :: 5 :: 6 :: 7 :: 8 :: 9 :: 10 :: 11 :: 12 :: 13 :: 14 :: 15 :: 16 :: 17 :: 18 :: 19 :: 20 :: 21 :: 22 :: 23 :: 24 :: 25 :: 26 :: 27 :: []) ?_
  refine go_q0 8 (.fieldAddr 36 (.tmp 3) 0) 0 (qv_field rfl fd36_0) ?_
  refine go_q0 9 (.load 3 (.tmp 8)) 3 (qv_load rfl .auto (ldv_sca sc3 (get_Bnd_0 _))) ?_
  refine go_q0 10 (.binOp .lss 3 (.tmp 9) (.const (.int .i64 1)) 3) 4 (qv_lss rfl rfl rfl) ?_
  refine go_q0 11 (.move (.tmp 10)) 4 (qv_move rfl) ?_
  refine go_case (d := 11) rfl (fun g11 => ?_) (fun g11 => ?_)
  · replace g11 := kn g11
    refine go_n (d := 12) (op := .fieldAddr 36 (.tmp 3) 0) (ty := 0) (g := some (3, false)) (by kernel_rfl) ⟨11, _, by kernel_rfl, rfl, rfl⟩ rfl ?_
    refine go_n (d := 13) (op := .load 3 (.tmp 12)) (ty := 3) (g := some (3, false)) (by kernel_rfl) ⟨11, _, by kernel_rfl, rfl, rfl⟩ rfl ?_
    refine go_n (d := 14) (op := .binOp .gtr 3 (.tmp 13) (.const (.int .i64 4096)) 3) (ty := 4) (g := some (3, false)) (by kernel_rfl) ⟨11, _, by kernel_rfl, rfl, rfl⟩ rfl ?_
    refine go_q0 15 (.pick (.tmp 11) (.const (.bool true)) (.tmp 14)) 4 (qv_pick_t rfl rfl) ?_
    refine go_q0 16 (.move (.tmp 15)) 4 (qv_move rfl) ?_
    refine go_n (d := 17) (op := .fieldAddr 36 (.tmp 3) 1) (ty := 0) (g := some (8, false)) (by kernel_rfl) ⟨16, _, by kernel_rfl, rfl, rfl⟩ rfl ?_
    refine go_n (d := 18) (op := .load 23 (.tmp 17)) (ty := 23) (g := some (8, false)) (by kernel_rfl) ⟨16, _, by kernel_rfl, rfl, rfl⟩ rfl ?_
    refine go_n (d := 19) (op := .binOp .eql 23 (.tmp 18) (.const (.int .u64 0)) 23) (ty := 4) (g := some (8, false)) (by kernel_rfl) ⟨16, _, by kernel_rfl, rfl, rfl⟩ rfl ?_
    refine go_q0 20 (.pick (.tmp 16) (.const (.bool true)) (.tmp 19)) 4 (qv_pick_t rfl rfl) ?_
    refine go_q0 21 (.move (.tmp 20)) 4 (qv_move rfl) ?_
    refine go_n (d := 22) (op := .fieldAddr 36 (.tmp 3) 2) (ty := 0) (g := some (13, false)) (by kernel_rfl) ⟨21, _, by kernel_rfl, rfl, rfl⟩ rfl ?_
    refine go_n (d := 23) (op := .load 23 (.tmp 22)) (ty := 23) (g := some (13, false)) (by kernel_rfl) ⟨21, _, by kernel_rfl, rfl, rfl⟩ rfl ?_
    refine go_n (d := 24) (op := .binOp .eql 23 (.tmp 23) (.const (.int .u64 0)) 23) (ty := 4) (g := some (13, false)) (by kernel_rfl) ⟨21, _, by kernel_rfl, rfl, rfl⟩ rfl ?_
    refine go_q0 25 (.pick (.tmp 21) (.const (.bool true)) (.tmp 24)) 4 (qv_pick_t rfl rfl) ?_
    refine go_q0 26 (.move (.tmp 25)) 4 (qv_move rfl) ?_
    refine go_n (d := 27) (op := .fieldAddr 36 (.tmp 3) 3) (ty := 0) (g := some (18, false)) (by kernel_rfl) ⟨26, _, by kernel_rfl, rfl, rfl⟩ rfl ?_
    refine go_n (d := 28) (op := .load 23 (.tmp 27)) (ty := 23) (g := some (18, false)) (by kernel_rfl) ⟨26, _, by kernel_rfl, rfl, rfl⟩ rfl ?_
    refine go_n (d := 29) (op := .binOp .eql 23 (.tmp 28) (.const (.int .u64 0)) 23) (ty := 4) (g := some (18, false)) (by kernel_rfl) ⟨26, _, by kernel_rfl, rfl, rfl⟩ rfl ?_
    refine go_q0 30 (.pick (.tmp 26) (.const (.bool true)) (.tmp 29)) 4 (qv_pick_t rfl rfl) ?_
    refine go_q0 31 (.move (.tmp 30)) 4 (qv_move rfl) ?_
    refine go_n (d := 32) (op := .fieldAddr 36 (.tmp 3) 4) (ty := 0) (g := some (23, false)) (by kernel_rfl) ⟨31, _, by kernel_rfl, rfl, rfl⟩ rfl ?_
    refine go_n (d := 33) (op := .load 23 (.tmp 32)) (ty := 23) (g := some (23, false)) (by kernel_rfl) ⟨31, _, by kernel_rfl, rfl, rfl⟩ rfl ?_
    refine go_n (d := 34) (op := .binOp .eql 23 (.tmp 33) (.const (.int .u64 0)) 23) (ty := 4) (g := some (23, false)) (by kernel_rfl) ⟨31, _, by kernel_rfl, rfl, rfl⟩ rfl ?_
    refine go_q0 35 (.pick (.tmp 31) (.const (.bool true)) (.tmp 34)) 4 (qv_pick_t rfl rfl) ?_
    refine go_nil ?_
    change G _ _ _ _
    refine p_weaken [0, 3, 4, 5, 35] rfl ?_
    refine p_condT (.tmp 35) (by kernel_rfl) rfl ?_
    refine p_seq0 ?_
    refine p_plain0 (0 :: 1 :: []) ?_
    refine go_q0 4 (.assign (.const (.pointer none))) 43 (qv_assign rfl) ?_
    refine go_q0 5 (.assign (.const (.int .i64 2))) 44 (qv_assign rfl) ?_
    refine go_nil ?_
    change G _ _ _ _
    refine p_weaken [0, 3, 4, 5] rfl ?_
    refine p_ret0 ?_
    try dsimp only [thenQ, inBlockQ]
    try rw [if_pos rfl]
    refine ret_now (.inr rfl) (.cons (res_tmp rfl) (.cons (res_tmp rfl) .nil)) (by repeat constructor) ?_
    exact ⟨rfl, rfl⟩
  replace g11 := kn g11
  refine go_q (d := 12) (op := .fieldAddr 36 (.tmp 3) 0) (ty := 0) (g := some (3, false)) (by kernel_rfl) ⟨11, by kernel_rfl, rfl⟩ rfl (qv_field rfl fd36_0) ?_
  refine go_q (d := 13) (op := .load 3 (.tmp 12)) (ty := 3) (g := some (3, false)) (by kernel_rfl) ⟨11, by kernel_rfl, rfl⟩ rfl (qv_load rfl .auto (ldv_sca sc3 (get_Bnd_0 _))) ?_
  refine go_q (d := 14) (op := .binOp .gtr 3 (.tmp 13) (.const (.int .i64 4096)) 3) (ty := 4) (g := some (3, false)) (by kernel_rfl) ⟨11, by kernel_rfl, rfl⟩ rfl (qv_gtr rfl rfl rfl) ?_
  refine go_q0 15 (.pick (.tmp 11) (.const (.bool true)) (.tmp 14)) 4 (qv_pick_f rfl rfl) ?_
  refine go_q0 16 (.move (.tmp 15)) 4 (qv_move rfl) ?_
  refine go_case (d := 16) rfl (fun g16 => ?_) (fun g16 => ?_)
  · replace g16 := kn g16
    refine go_n (d := 17) (op := .fieldAddr 36 (.tmp 3) 1) (ty := 0) (g := some (8, false)) (by kernel_rfl) ⟨16, _, by kernel_rfl, rfl, rfl⟩ rfl ?_
    refine go_n (d := 18) (op := .load 23 (.tmp 17)) (ty := 23) (g := some (8, false)) (by kernel_rfl) ⟨16, _, by kernel_rfl, rfl, rfl⟩ rfl ?_
    refine go_n (d := 19) (op := .binOp .eql 23 (.tmp 18) (.const (.int .u64 0)) 23) (ty := 4) (g := some (8, false)) (by kernel_rfl) ⟨16, _, by kernel_rfl, rfl, rfl⟩ rfl ?_
    refine go_q0 20 (.pick (.tmp 16) (.const (.bool true)) (.tmp 19)) 4 (qv_pick_t rfl rfl) ?_
    refine go_q0 21 (.move (.tmp 20)) 4 (qv_move rfl) ?_
    refine go_n (d := 22) (op := .fieldAddr 36 (.tmp 3) 2) (ty := 0) (g := some (13, false)) (by kernel_rfl) ⟨21, _, by kernel_rfl, rfl, rfl⟩ rfl ?_
    refine go_n (d := 23) (op := .load 23 (.tmp 22)) (ty := 23) (g := some (13, false)) (by kernel_rfl) ⟨21, _, by kernel_rfl, rfl, rfl⟩ rfl ?_
    refine go_n (d := 24) (op := .binOp .eql 23 (.tmp 23) (.const (.int .u64 0)) 23) (ty := 4) (g := some (13, false)) (by kernel_rfl) ⟨21, _, by kernel_rfl, rfl, rfl⟩ rfl ?_
    refine go_q0 25 (.pick (.tmp 21) (.const (.bool true)) (.tmp 24)) 4 (qv_pick_t rfl rfl) ?_
    refine go_q0 26 (.move (.tmp 25)) 4 (qv_move rfl) ?_
    refine go_n (d := 27) (op := .fieldAddr 36 (.tmp 3) 3) (ty := 0) (g := some (18, false)) (by kernel_rfl) ⟨26, _, by kernel_rfl, rfl, rfl⟩ rfl ?_
    refine go_n (d := 28) (op := .load 23 (.tmp 27)) (ty := 23) (g := some (18, false)) (by kernel_rfl) ⟨26, _, by kernel_rfl, rfl, rfl⟩ rfl ?_
    refine go_n (d := 29) (op := .binOp .eql 23 (.tmp 28) (.const (.int .u64 0)) 23) (ty := 4) (g := some (18, false)) (by kernel_rfl) ⟨26, _, by kernel_rfl, rfl, rfl⟩ rfl ?_
    refine go_q0 30 (.pick (.tmp 26) (.const (.bool true)) (.tmp 29)) 4 (qv_pick_t rfl rfl) ?_
    refine go_q0 31 (.move (.tmp 30)) 4 (qv_move rfl) ?_
    refine go_n (d := 32) (op := .fieldAddr 36 (.tmp 3) 4) (ty := 0) (g := some (23, false)) (by kernel_rfl) ⟨31, _, by kernel_rfl, rfl, rfl⟩ rfl ?_
    refine go_n (d := 33) (op := .load 23 (.tmp 32)) (ty := 23) (g := some (23, false)) (by kernel_rfl) ⟨31, _, by kernel_rfl, rfl, rfl⟩ rfl ?_
    refine go_n (d := 34) (op := .binOp .eql 23 (.tmp 33) (.const (.int .u64 0)) 23) (ty := 4) (g := some (23, false)) (by kernel_rfl) ⟨31, _, by kernel_rfl, rfl, rfl⟩ rfl ?_
    refine go_q0 35 (.pick (.tmp 31) (.const (.bool true)) (.tmp 34)) 4 (qv_pick_t rfl rfl) ?_
    refine go_nil ?_
    change G _ _ _ _
    refine p_weaken [0, 3, 4, 5, 35] rfl ?_
    refine p_condT (.tmp 35) (by kernel_rfl) rfl ?_
    refine p_seq0 ?_
    refine p_plain0 (0 :: 1 :: []) ?_
    refine go_q0 4 (.assign (.const (.pointer none))) 43 (qv_assign rfl) ?_
    refine go_q0 5 (.assign (.const (.int .i64 2))) 44 (qv_assign rfl) ?_
    refine go_nil ?_
    change G _ _ _ _
    refine p_weaken [0, 3, 4, 5] rfl ?_
    refine p_ret0 ?_
    try dsimp only [thenQ, inBlockQ]
    try rw [if_pos rfl]
    refine ret_now (.inr rfl) (.cons (res_tmp rfl) (.cons (res_tmp rfl) .nil)) (by repeat constructor) ?_
    exact ⟨rfl, rfl⟩
  replace g16 := kn g16
  refine go_q (d := 17) (op := .fieldAddr 36 (.tmp 3) 1) (ty := 0) (g := some (8, false)) (by kernel_rfl) ⟨16, by kernel_rfl, rfl⟩ rfl (qv_field rfl fd36_1) ?_
  refine go_q (d := 18) (op := .load 23 (.tmp 17)) (ty := 23) (g := some (8, false)) (by kernel_rfl) ⟨16, by kernel_rfl, rfl⟩ rfl (qv_load rfl .auto (ldv_sca sc23 (get_Bnd_1 _))) ?_
  refine go_q (d := 19) (op := .binOp .eql 23 (.tmp 18) (.const (.int .u64 0)) 23) (ty := 4) (g := some (8, false)) (by kernel_rfl) ⟨16, by kernel_rfl, rfl⟩ rfl (qv_eql rfl rfl rfl) ?_
  refine go_q0 20 (.pick (.tmp 16) (.const (.bool true)) (.tmp 19)) 4 (qv_pick_f rfl rfl) ?_
  refine go_q0 21 (.move (.tmp 20)) 4 (qv_move rfl) ?_
  refine go_case (d := 21) rfl (fun g21 => ?_) (fun g21 => ?_)
  · replace g21 := kn g21
    refine go_n (d := 22) (op := .fieldAddr 36 (.tmp 3) 2) (ty := 0) (g := some (13, false)) (by kernel_rfl) ⟨21, _, by kernel_rfl, rfl, rfl⟩ rfl ?_
    refine go_n (d := 23) (op := .load 23 (.tmp 22)) (ty := 23) (g := some (13, false)) (by kernel_rfl) ⟨21, _, by kernel_rfl, rfl, rfl⟩ rfl ?_
    refine go_n (d := 24) (op := .binOp .eql 23 (.tmp 23) (.const (.int .u64 0)) 23) (ty := 4) (g := some (13, false)) (by kernel_rfl) ⟨21, _, by kernel_rfl, rfl, rfl⟩ rfl ?_
    refine go_q0 25 (.pick (.tmp 21) (.const (.bool true)) (.tmp 24)) 4 (qv_pick_t rfl rfl) ?_
    refine go_q0 26 (.move (.tmp 25)) 4 (qv_move rfl) ?_
    refine go_n (d := 27) (op := .fieldAddr 36 (.tmp 3) 3) (ty := 0) (g := some (18, false)) (by kernel_rfl) ⟨26, _, by kernel_rfl, rfl, rfl⟩ rfl ?_
    refine go_n (d := 28) (op := .load 23 (.tmp 27)) (ty := 23) (g := some (18, false)) (by kernel_rfl) ⟨26, _, by kernel_rfl, rfl, rfl⟩ rfl ?_
    refine go_n (d := 29) (op := .binOp .eql 23 (.tmp 28) (.const (.int .u64 0)) 23) (ty := 4) (g := some (18, false)) (by kernel_rfl) ⟨26, _, by kernel_rfl, rfl, rfl⟩ rfl ?_
    refine go_q0 30 (.pick (.tmp 26) (.const (.bool true)) (.tmp 29)) 4 (qv_pick_t rfl rfl) ?_
    refine go_q0 31 (.move (.tmp 30)) 4 (qv_move rfl) ?_
    refine go_n (d := 32) (op := .fieldAddr 36 (.tmp 3) 4) (ty := 0) (g := some (23, false)) (by kernel_rfl) ⟨31, _, by kernel_rfl, rfl, rfl⟩ rfl ?_
    refine go_n (d := 33) (op := .load 23 (.tmp 32)) (ty := 23) (g := some (23, false)) (by kernel_rfl) ⟨31, _, by kernel_rfl, rfl, rfl⟩ rfl ?_
    refine go_n (d := 34) (op := .binOp .eql 23 (.tmp 33) (.const (.int .u64 0)) 23) (ty := 4) (g := some (23, false)) (by kernel_rfl) ⟨31, _, by kernel_rfl, rfl, rfl⟩ rfl ?_
    refine go_q0 35 (.pick (.tmp 31) (.const (.bool true)) (.tmp 34)) 4 (qv_pick_t rfl rfl) ?_
    refine go_nil ?_
    change G _ _ _ _
    refine p_weaken [0, 3, 4, 5, 35] rfl ?_
    refine p_condT (.tmp 35) (by kernel_rfl) rfl ?_
    refine p_seq0 ?_
    refine p_plain0 (0 :: 1 :: []) ?_
    refine go_q0 4 (.assign (.const (.pointer none))) 43 (qv_assign rfl) ?_
    refine go_q0 5 (.assign (.const (.int .i64 2))) 44 (qv_assign rfl) ?_
    refine go_nil ?_
    change G _ _ _ _
    refine p_weaken [0, 3, 4, 5] rfl ?_
    refine p_ret0 ?_
    try dsimp only [thenQ, inBlockQ]
    try rw [if_pos rfl]
    refine ret_now (.inr rfl) (.cons (res_tmp rfl) (.cons (res_tmp rfl) .nil)) (by repeat constructor) ?_
    exact ⟨rfl, rfl⟩
  replace g21 := kn g21
  refine go_q (d := 22) (op := .fieldAddr 36 (.tmp 3) 2) (ty := 0) (g := some (13, false)) (by kernel_rfl) ⟨21, by kernel_rfl, rfl⟩ rfl (qv_field rfl fd36_2) ?_
  refine go_q (d := 23) (op := .load 23 (.tmp 22)) (ty := 23) (g := some (13, false)) (by kernel_rfl) ⟨21, by kernel_rfl, rfl⟩ rfl (qv_load rfl .auto (ldv_sca sc23 (get_Bnd_2 _))) ?_
  refine go_q (d := 24) (op := .binOp .eql 23 (.tmp 23) (.const (.int .u64 0)) 23) (ty := 4) (g := some (13, false)) (by kernel_rfl) ⟨21, by kernel_rfl, rfl⟩ rfl (qv_eql rfl rfl rfl) ?_
  refine go_q0 25 (.pick (.tmp 21) (.const (.bool true)) (.tmp 24)) 4 (qv_pick_f rfl rfl) ?_
  refine go_q0 26 (.move (.tmp 25)) 4 (qv_move rfl) ?_
  refine go_case (d := 26) rfl (fun g26 => ?_) (fun g26 => ?_)
  · replace g26 := kn g26
    refine go_n (d := 27) (op := .fieldAddr 36 (.tmp 3) 3) (ty := 0) (g := some (18, false)) (by kernel_rfl) ⟨26, _, by kernel_rfl, rfl, rfl⟩ rfl ?_
    refine go_n (d := 28) (op := .load 23 (.tmp 27)) (ty := 23) (g := some (18, false)) (by kernel_rfl) ⟨26, _, by kernel_rfl, rfl, rfl⟩ rfl ?_
    refine go_n (d := 29) (op := .binOp .eql 23 (.tmp 28) (.const (.int .u64 0)) 23) (ty := 4) (g := some (18, false)) (by kernel_rfl) ⟨26, _, by kernel_rfl, rfl, rfl⟩ rfl ?_
    refine go_q0 30 (.pick (.tmp 26) (.const (.bool true)) (.tmp 29)) 4 (qv_pick_t rfl rfl) ?_
    refine go_q0 31 (.move (.tmp 30)) 4 (qv_move rfl) ?_
    refine go_n (d := 32) (op := .fieldAddr 36 (.tmp 3) 4) (ty := 0) (g := some (23, false)) (by kernel_rfl) ⟨31, _, by kernel_rfl, rfl, rfl⟩ rfl ?_
    refine go_n (d := 33) (op := .load 23 (.tmp 32)) (ty := 23) (g := some (23, false)) (by kernel_rfl) ⟨31, _, by kernel_rfl, rfl, rfl⟩ rfl ?_
    refine go_n (d := 34) (op := .binOp .eql 23 (.tmp 33) (.const (.int .u64 0)) 23) (ty := 4) (g := some (23, false)) (by kernel_rfl) ⟨31, _, by kernel_rfl, rfl, rfl⟩ rfl ?_
    refine go_q0 35 (.pick (.tmp 31) (.const (.bool true)) (.tmp 34)) 4 (qv_pick_t rfl rfl) ?_
    refine go_nil ?_
    change G _ _ _ _
    refine p_weaken [0, 3, 4, 5, 35] rfl ?_
    refine p_condT (.tmp 35) (by kernel_rfl) rfl ?_
    refine p_seq0 ?_
    refine p_plain0 (0 :: 1 :: []) ?_
    refine go_q0 4 (.assign (.const (.pointer none))) 43 (qv_assign rfl) ?_
    refine go_q0 5 (.assign (.const (.int .i64 2))) 44 (qv_assign rfl) ?_
    refine go_nil ?_
    change G _ _ _ _
    refine p_weaken [0, 3, 4, 5] rfl ?_
    refine p_ret0 ?_
    try dsimp only [thenQ, inBlockQ]
    try rw [if_pos rfl]
    refine ret_now (.inr rfl) (.cons (res_tmp rfl) (.cons (res_tmp rfl) .nil)) (by repeat constructor) ?_
    exact ⟨rfl, rfl⟩
  replace g26 := kn g26
  refine go_q (d := 27) (op := .fieldAddr 36 (.tmp 3) 3) (ty := 0) (g := some (18, false)) (by kernel_rfl) ⟨26, by kernel_rfl, rfl⟩ rfl (qv_field rfl fd36_3) ?_
  refine go_q (d := 28) (op := .load 23 (.tmp 27)) (ty := 23) (g := some (18, false)) (by kernel_rfl) ⟨26, by kernel_rfl, rfl⟩ rfl (qv_load rfl .auto (ldv_sca sc23 (get_Bnd_3 _))) ?_
  refine go_q (d := 29) (op := .binOp .eql 23 (.tmp 28) (.const (.int .u64 0)) 23) (ty := 4) (g := some (18, false)) (by kernel_rfl) ⟨26, by kernel_rfl, rfl⟩ rfl (qv_eql rfl rfl rfl) ?_
  refine go_q0 30 (.pick (.tmp 26) (.const (.bool true)) (.tmp 29)) 4 (qv_pick_f rfl rfl) ?_
  refine go_q0 31 (.move (.tmp 30)) 4 (qv_move rfl) ?_
  refine go_case (d := 31) rfl (fun g31 => ?_) (fun g31 => ?_)
  · replace g31 := kn g31
    refine go_n (d := 32) (op := .fieldAddr 36 (.tmp 3) 4) (ty := 0) (g := some (23, false)) (by kernel_rfl) ⟨31, _, by kernel_rfl, rfl, rfl⟩ rfl ?_
    refine go_n (d := 33) (op := .load 23 (.tmp 32)) (ty := 23) (g := some (23, false)) (by kernel_rfl) ⟨31, _, by kernel_rfl, rfl, rfl⟩ rfl ?_
    refine go_n (d := 34) (op := .binOp .eql 23 (.tmp 33) (.const (.int .u64 0)) 23) (ty := 4) (g := some (23, false)) (by kernel_rfl) ⟨31, _, by kernel_rfl, rfl, rfl⟩ rfl ?_
    refine go_q0 35 (.pick (.tmp 31) (.const (.bool true)) (.tmp 34)) 4 (qv_pick_t rfl rfl) ?_
    refine go_nil ?_
    change G _ _ _ _
    refine p_weaken [0, 3, 4, 5, 35] rfl ?_
    refine p_condT (.tmp 35) (by kernel_rfl) rfl ?_
    refine p_seq0 ?_
    refine p_plain0 (0 :: 1 :: []) ?_
    refine go_q0 4 (.assign (.const (.pointer none))) 43 (qv_assign rfl) ?_
    refine go_q0 5 (.assign (.const (.int .i64 2))) 44 (qv_assign rfl) ?_
    refine go_nil ?_
    change G _ _ _ _
    refine p_weaken [0, 3, 4, 5] rfl ?_
    refine p_ret0 ?_
    try dsimp only [thenQ, inBlockQ]
    try rw [if_pos rfl]
    refine ret_now (.inr rfl) (.cons (res_tmp rfl) (.cons (res_tmp rfl) .nil)) (by repeat constructor) ?_
    exact ⟨rfl, rfl⟩
  replace g31 := kn g31
  refine go_q (d := 32) (op := .fieldAddr 36 (.tmp 3) 4) (ty := 0) (g := some (23, false)) (by kernel_rfl) ⟨31, by kernel_rfl, rfl⟩ rfl (qv_field rfl fd36_4) ?_
  refine go_q (d := 33) (op := .load 23 (.tmp 32)) (ty := 23) (g := some (23, false)) (by kernel_rfl) ⟨31, by kernel_rfl, rfl⟩ rfl (qv_load rfl .auto (ldv_sca sc23 (get_Bnd_4 _))) ?_
  refine go_q (d := 34) (op := .binOp .eql 23 (.tmp 33) (.const (.int .u64 0)) 23) (ty := 4) (g := some (23, false)) (by kernel_rfl) ⟨31, by kernel_rfl, rfl⟩ rfl (qv_eql rfl rfl rfl) ?_
  refine go_q0 35 (.pick (.tmp 31) (.const (.bool true)) (.tmp 34)) 4 (qv_pick_f rfl rfl) ?_
  refine go_nil ?_
  change G _ _ _ _
  refine p_weaken [0, 3, 4, 5, 35] rfl ?_
  refine p_cond (.tmp 35) (by kernel_rfl) rfl (fun h35 => ?_) (fun h35 => ?_)
  rotate_left
  · replace h35 := kn h35
    exfalso
    rw [show okBnd b = true by unfold okBnd; simp [*]; omega] at h
    cases h
  replace h35 := kn h35
  refine p_seq0 ?_
  refine p_plain0 (0 :: 1 :: []) ?_
  refine go_q0 4 (.assign (.const (.pointer none))) 43 (qv_assign rfl) ?_
  refine go_q0 5 (.assign (.const (.int .i64 2))) 44 (qv_assign rfl) ?_
  refine go_nil ?_
  change G _ _ _ _
  refine p_weaken [0, 3, 4, 5] rfl ?_
  refine p_ret0 ?_
  try dsimp only [thenQ, inBlockQ]
  try rw [if_pos rfl]
  refine ret_now (.inr rfl) (.cons (res_tmp rfl) (.cons (res_tmp rfl) .nil)) (by repeat constructor) ?_
  exact ⟨rfl, rfl⟩
theorem ct_CNew {tick : Int} {b : Bnd} (h : okBnd b = true) (hb : b.Wf) : Ct Tryz.prog 10 [.int .u64 tick, .agg b.c].toArray [] (fun v M' => ∃ bc, v = .tuple #[.pointer (some ⟨bc, 0, none⟩), .int .i64 0] ∧ CacM bc tick b [] M') := by
  unfold okBnd at h
  simp only [Bool.and_eq_true, decide_eq_true_eq] at h
  obtain ⟨⟨⟨⟨⟨h1, h2⟩, h3⟩, h4⟩, h5⟩, h6⟩ := h
  obtain ⟨m, hm⟩ : ∃ m : Nat, b.flows = m := ⟨b.flows.toNat, by omega⟩
  obtain ⟨e1, e2⟩ := bitLen_le13 ⟨m, by omega⟩
  simp only at e1 e2
  generalize hE : Lib.bitLen m = e at *
  obtain ⟨g1, g2, g3⟩ := p2_pow ⟨e, by omega⟩
  have g4 := shl_p2 ⟨e, by omega⟩
  have hok := okSize_pos (ok_pow ⟨e, by omega⟩)
  simp only at g1 g2 g3 g4 hok
  have hL := pu_bitsLen b.flows (by omega) (by omega)
  rw [show b.flows.toNat = m by omega, hE] at hL
  refine ct_body (rv := [.tmp 4, .tmp 5]) [(0, _), (1, _)] Tryz.func10 (by kernel_rfl) Tryz.ntmps10 Tryz.results10 rfl rfl (fun w0 => ?_)
  refine p_seq0 ?_
  refine p_plain0 (0 :: 1 :: 2 :: []) ?_
  refine go_s0 (some 3) (.box 36 (.tmp 1)) 0 ?_
  refine os_boxA rfl rfl (fun b3 => ?_)
  refine go_q0 4 (.assign (.const (.pointer none))) 43 (qv_assign rfl) ?_
  refine go_q0 5 (.assign (.const (.int .i64 0))) 44 (qv_assign rfl) ?_
  refine go_nil ?_
  change G _ _ _ _
  refine p_weaken [0, 3, 4, 5] rfl ?_
  refine p_seq0 ?_
  refine p_seq0 ?_
  refine p_plain0 (0 :: 1 :: 2 :: 3 :: 4 :: 5 :: 6 :: 7 :: 8 :: 9 :: 10 :: 11 :: 12 :: 13 :: 14 :: 15 :: 16 :: 17 :: 18 :: 19 :: 20 :: 21 :: 22 :: 23 :: 24 :: 25 :: 26 :: 27 :: []) ?_
  refine go_q0 8 (.fieldAddr 36 (.tmp 3) 0) 0 (qv_field rfl fd36_0) ?_
  refine go_q0 9 (.load 3 (.tmp 8)) 3 (qv_load rfl .auto (ldv_sca sc3 (get_Bnd_0 _))) ?_
  refine go_q0 10 (.binOp .lss 3 (.tmp 9) (.const (.int .i64 1)) 3) 4 (qv_lss (b := false) rfl rfl (decide_eq_false (by omega))) ?_
  refine go_q0 11 (.move (.tmp 10)) 4 (qv_move rfl) ?_
  refine go_q (d := 12) (op := .fieldAddr 36 (.tmp 3) 0) (ty := 0) (g := some (3, false)) (by kernel_rfl) ⟨11, by kernel_rfl, rfl⟩ rfl (qv_field rfl fd36_0) ?_
  refine go_q (d := 13) (op := .load 3 (.tmp 12)) (ty := 3) (g := some (3, false)) (by kernel_rfl) ⟨11, by kernel_rfl, rfl⟩ rfl (qv_load rfl .auto (ldv_sca sc3 (get_Bnd_0 _))) ?_
  refine go_q (d := 14) (op := .binOp .gtr 3 (.tmp 13) (.const (.int .i64 4096)) 3) (ty := 4) (g := some (3, false)) (by kernel_rfl) ⟨11, by kernel_rfl, rfl⟩ rfl (qv_gtr (b := false) rfl rfl (decide_eq_false (by omega))) ?_
  refine go_q0 15 (.pick (.tmp 11) (.const (.bool true)) (.tmp 14)) 4 (qv_pick_f rfl rfl) ?_
  refine go_q0 16 (.move (.tmp 15)) 4 (qv_move rfl) ?_
  refine go_q (d := 17) (op := .fieldAddr 36 (.tmp 3) 1) (ty := 0) (g := some (8, false)) (by kernel_rfl) ⟨16, by kernel_rfl, rfl⟩ rfl (qv_field rfl fd36_1) ?_
  refine go_q (d := 18) (op := .load 23 (.tmp 17)) (ty := 23) (g := some (8, false)) (by kernel_rfl) ⟨16, by kernel_rfl, rfl⟩ rfl (qv_load rfl .auto (ldv_sca sc23 (get_Bnd_1 _))) ?_
  refine go_q (d := 19) (op := .binOp .eql 23 (.tmp 18) (.const (.int .u64 0)) 23) (ty := 4) (g := some (8, false)) (by kernel_rfl) ⟨16, by kernel_rfl, rfl⟩ rfl (qv_eql (b := false) rfl rfl (beq_eq_false_iff_ne.2 (by omega))) ?_
  refine go_q0 20 (.pick (.tmp 16) (.const (.bool true)) (.tmp 19)) 4 (qv_pick_f rfl rfl) ?_
  refine go_q0 21 (.move (.tmp 20)) 4 (qv_move rfl) ?_
  refine go_q (d := 22) (op := .fieldAddr 36 (.tmp 3) 2) (ty := 0) (g := some (13, false)) (by kernel_rfl) ⟨21, by kernel_rfl, rfl⟩ rfl (qv_field rfl fd36_2) ?_
  refine go_q (d := 23) (op := .load 23 (.tmp 22)) (ty := 23) (g := some (13, false)) (by kernel_rfl) ⟨21, by kernel_rfl, rfl⟩ rfl (qv_load rfl .auto (ldv_sca sc23 (get_Bnd_2 _))) ?_
  refine go_q (d := 24) (op := .binOp .eql 23 (.tmp 23) (.const (.int .u64 0)) 23) (ty := 4) (g := some (13, false)) (by kernel_rfl) ⟨21, by kernel_rfl, rfl⟩ rfl (qv_eql (b := false) rfl rfl (beq_eq_false_iff_ne.2 (by omega))) ?_
  refine go_q0 25 (.pick (.tmp 21) (.const (.bool true)) (.tmp 24)) 4 (qv_pick_f rfl rfl) ?_
  refine go_q0 26 (.move (.tmp 25)) 4 (qv_move rfl) ?_
  refine go_q (d := 27) (op := .fieldAddr 36 (.tmp 3) 3) (ty := 0) (g := some (18, false)) (by kernel_rfl) ⟨26, by kernel_rfl, rfl⟩ rfl (qv_field rfl fd36_3) ?_
  refine go_q (d := 28) (op := .load 23 (.tmp 27)) (ty := 23) (g := some (18, false)) (by kernel_rfl) ⟨26, by kernel_rfl, rfl⟩ rfl (qv_load rfl .auto (ldv_sca sc23 (get_Bnd_3 _))) ?_
  refine go_q (d := 29) (op := .binOp .eql 23 (.tmp 28) (.const (.int .u64 0)) 23) (ty := 4) (g := some (18, false)) (by kernel_rfl) ⟨26, by kernel_rfl, rfl⟩ rfl (qv_eql (b := false) rfl rfl (beq_eq_false_iff_ne.2 (by omega))) ?_
  refine go_q0 30 (.pick (.tmp 26) (.const (.bool true)) (.tmp 29)) 4 (qv_pick_f rfl rfl) ?_
  refine go_q0 31 (.move (.tmp 30)) 4 (qv_move rfl) ?_
  refine go_q (d := 32) (op := .fieldAddr 36 (.tmp 3) 4) (ty := 0) (g := some (23, false)) (by kernel_rfl) ⟨31, by kernel_rfl, rfl⟩ rfl (qv_field rfl fd36_4) ?_
  refine go_q (d := 33) (op := .load 23 (.tmp 32)) (ty := 23) (g := some (23, false)) (by kernel_rfl) ⟨31, by kernel_rfl, rfl⟩ rfl (qv_load rfl .auto (ldv_sca sc23 (get_Bnd_4 _))) ?_
  refine go_q (d := 34) (op := .binOp .eql 23 (.tmp 33) (.const (.int .u64 0)) 23) (ty := 4) (g := some (23, false)) (by kernel_rfl) ⟨31, by kernel_rfl, rfl⟩ rfl (qv_eql (b := false) rfl rfl (beq_eq_false_iff_ne.2 (by omega))) ?_
  refine go_q0 35 (.pick (.tmp 31) (.const (.bool true)) (.tmp 34)) 4 (qv_pick_f rfl rfl) ?_
  refine go_nil ?_
  change G _ _ _ _
  refine p_weaken [0, 3, 4, 5, 35] rfl ?_
  refine p_condF (.tmp 35) (by kernel_rfl) rfl ?_
  refine p_skip0 ?_
  change G _ _ _ _
  refine p_weaken [0, 3, 4, 5] rfl ?_
  refine p_seq0 ?_
  refine p_plain0 (0 :: 1 :: 2 :: 3 :: 4 :: 5 :: 6 :: 7 :: 8 :: 9 :: 10 :: []) ?_
  refine go_q0 37 (.fieldAddr 36 (.tmp 3) 0) 0 (qv_field rfl fd36_0) ?_
  refine go_q0 38 (.load 3 (.tmp 37)) 3 (qv_load rfl .auto (ldv_sca sc3 (get_Bnd_0 _))) ?_
  refine go_q0 39 (.convert 3 82 (.tmp 38)) 82 (qv_conv un3 un82 rfl (IntWalk.u64_in _ (by omega))) ?_
  refine go_s0 (some 40) (.call { callee := .value (.func 32), args := #[.tmp 39], argTypes := #[82] }) 3 ?_
  refine os_callP rfl en32 rfl (hL) ?_
  refine go_q0 41 (.binOp .shl 3 (.const (.int .i64 1)) (.tmp 40) 3) 3 (qv_shl rfl rfl (by omega) (g4)) ?_
  refine go_s0 (some 42) (.call { callee := .value (.func 31), args := #[.tmp 41], argTypes := #[3] }) 79 ?_
  refine os_call (Nat.le_of_ble_eq_true rfl) en31 rfl .auto (ct_New (p2 e) g1 g2 hok.2.2) ?_
  rintro v42 A42 ⟨bt, bs, rfl, rfl⟩
  try dsimp only [List.nil_append, List.cons_append]
  refine go_q0 36 (.move (.tmp 42)) 79 (qv_move rfl) ?_
  refine go_q0 43 (.extract (.tmp 36) 0) 78 (qv_extract rfl rfl) ?_
  refine go_q0 44 (.extract (.tmp 36) 1) 44 (qv_extract rfl rfl) ?_
  refine go_q0 6 (.assign (.tmp 43)) 78 (qv_assign rfl) ?_
  refine go_q0 7 (.assign (.tmp 44)) 44 (qv_assign rfl) ?_
  refine go_nil ?_
  change G _ _ _ _
  refine p_weaken [0, 3, 4, 5, 6, 7] rfl ?_
  refine p_seq0 ?_
  refine p_seq0 ?_
  refine p_plain0 (0 :: 1 :: []) ?_
  refine go_q0 45 (.move (.tmp 7)) 44 (qv_move rfl) ?_
  refine go_q0 46 (.binOp .neq 44 (.tmp 45) (.const (.int .i64 0)) 44) 4 (qv_neq (b := false) rfl rfl (by decide)) ?_
  refine go_nil ?_
  change G _ _ _ _
  refine p_weaken [0, 3, 4, 5, 6, 7, 46] rfl ?_
  refine p_condF (.tmp 46) (by kernel_rfl) rfl ?_
  refine p_skip0 ?_
  change G _ _ _ _
  refine p_weaken [0, 3, 4, 5, 6] rfl ?_
  refine p_seq0 ?_
  refine p_plain0 (0 :: 1 :: 2 :: 3 :: 4 :: 5 :: 6 :: []) ?_
  refine go_q0 48 (.move (.tmp 0)) 23 (qv_move rfl) ?_
  refine go_q0 49 (.load 36 (.tmp 3)) 36 (qv_load rfl .auto (ldv_agg agg36 (extw_Bnd _) (Nat.le_of_ble_eq_true rfl))) ?_
  refine go_q0 50 (.move (.tmp 6)) 78 (qv_move rfl) ?_
  refine go_q0 51 (.build 84 #[(0, .tmp 48), (1, .tmp 49), (2, .tmp 50)]) 84 (qv_build (v := .agg (⟨tick, b, .pointer (some ⟨bt, 0, none⟩), .slice none 0 0⟩ : Cac).c) rfl (fun w => by kernel_rfl)) ?_
  refine go_s0 (some 52) (.box 84 (.tmp 51)) 43 ?_
  refine os_boxA rfl rfl (fun b52 => ?_)
  refine go_q0 4 (.assign (.tmp 52)) 43 (qv_assign rfl) ?_
  refine go_q0 5 (.assign (.const (.int .i64 0))) 44 (qv_assign rfl) ?_
  refine go_nil ?_
  change G _ _ _ _
  refine p_weaken [4, 5] rfl ?_
  refine p_ret0 ?_
  try dsimp only [thenQ, inBlockQ]
  try rw [if_pos rfl]
  refine ret_left ([cacO b52 tick b bt none 0 0, tabO bt bs (p2 e) 0, slotO bs (List.replicate (p2 e) zeroS)]) (.inr rfl) (.cons (res_tmp rfl) (.cons (res_tmp rfl) .nil)) .auto ?_
  exact ⟨b52, rfl, bt, bs, p2 e, _, none, 0, [], ⟨⟨g1, g2, g3⟩, by omega, Kp.new _, by simp, by simp, by simp; omega, hb, h2, h1⟩, OwnL.nil, rfl⟩
end Go.Proofs.YtobmcpoejhhemaaGreat
