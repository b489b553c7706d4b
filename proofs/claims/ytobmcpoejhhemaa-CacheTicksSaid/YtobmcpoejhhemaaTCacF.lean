import Derived.Test.YtobmcpoejhhemaaTCacE
import Derived.Test.YtobmcpoejhhemaaTNone2
namespace Go.Proofs.Ytobmcpoejhhemaa
open Go.E

theorem zeroR_wf : zeroR.Wf := ⟨zeroS_wf, ⟨by decide, by decide⟩, ⟨by decide, by decide⟩, ⟨by decide, by decide⟩, ⟨by decide, by decide⟩, ⟨by decide, by decide⟩, ⟨by decide, by decide⟩, ⟨by decide, by decide⟩⟩
theorem pu_beginCmp {a b : Rec} (ha : a.Wf) (hb : b.Wf) : Pu Try.prog 150 [.agg a.c, .agg b.c] (.int .i64 (cmpLast a b)) := by
  refine ct_body (rv := [.tmp 4]) [(0, _), (1, _)] Try.func150 (by kernel_rfl) Try.ntmps150 Try.results150 rfl rfl (fun w0 => ?_)
  refine p_seq0 ?_
  refine p_plain0 (0 :: 1 :: 2 :: []) ?_
  refine go_s0 (some 2) (.box 35 (.tmp 0)) 0 ?_
  refine os_boxA rfl rfl (fun b2 => ?_)
  refine go_s0 (some 3) (.box 35 (.tmp 1)) 0 ?_
  refine os_boxA rfl rfl (fun b3 => ?_)
  refine go_q0 4 (.assign (.const (.int .i64 0))) 3 (qv_assign rfl) ?_
  refine go_nil ?_
  change G _ _ _ _
  refine p_weaken [2, 3, 4] rfl ?_
  refine p_seq0 ?_
  refine p_draw (by kernel_rfl) mixed 8 11 _ (fun _ h => h) (by kernel_rfl) ?_
  refine gd_all (0 :: 1 :: 2 :: 3 :: 4 :: 5 :: 6 :: 7 :: []) _ rfl (by kernel_rfl) (by decide) (fun _ h => h) rfl ?_
  refine sq_q0 5 (.fieldAddr 35 (.tmp 2) 4) 0 (qv_field rfl fd35_4) ?_
  refine sq_q0 6 (.load 30 (.tmp 5)) 30 (qv_load rfl .auto (ldv_sca sc30 (get_Rec_40 _))) ?_
  refine sq_q0 7 (.fieldAddr 35 (.tmp 3) 4) 0 (qv_field rfl fd35_4) ?_
  refine sq_q0 8 (.load 30 (.tmp 7)) 30 (qv_load rfl .auto (ldv_sca sc30 (get_Rec_40 _))) ?_
  refine sq_p (d := 9) (op := .call { callee := .value (.func 105), args := #[.tmp 6, .tmp 8], argTypes := #[30, 30] }) (ty := 3) (g := none) (by kernel_rfl) trivial (pv_call en105 rfl (pu_CompareU a.last b.last)) ?_
  refine sq_q0 10 (.load 35 (.tmp 2)) 35 (qv_load rfl .auto (ldv_agg agg35 (extw_Rec _) (Nat.le_of_ble_eq_true rfl))) ?_
  refine sq_q0 11 (.load 35 (.tmp 3)) 35 (qv_load rfl .auto (ldv_agg agg35 (extw_Rec _) (Nat.le_of_ble_eq_true rfl))) ?_
  refine sq_p (d := 12) (op := .call { callee := .value (.func 106), args := #[.tmp 10, .tmp 11], argTypes := #[35, 35] }) (ty := 3) (g := none) (by kernel_rfl) trivial (pv_call en106 rfl (pu_byKey ha hb)) ?_
  refine SeqK.nil (fun β => ?_)
  refine gd_tail [8, 9, 10] rfl (by kernel_rfl) (by kernel_rfl) ?_
  refine go_s0 (some 13) (.buildSlice 89 2 #[(0, .tmp 9), (1, .tmp 12)]) 89 ?_
  refine os_buildSlice (Nat.le_of_ble_eq_true rfl) rfl (bls89_2 _ _) (fun b13 => ?_)
  refine go_s0 (some 14) (.call { callee := .value (.func 104), args := #[.tmp 13], argTypes := #[89] }) 3 ?_
  refine os_call (Nat.le_of_ble_eq_true rfl) en104 rfl .auto (ct_Or2 (cmpI a.last b.last) (cmpK a.key b.key)) ?_
  rintro v14 A14 ⟨rfl, rfl⟩
  try dsimp only [List.nil_append, List.cons_append]
  refine go_q0 4 (.assign (.tmp 14)) 3 (qv_assign rfl) ?_
  refine go_nil ?_
  change G _ _ _ _
  refine p_weaken [4] rfl ?_
  refine p_ret0 ?_
  try dsimp only [thenQ, inBlockQ]
  try rw [if_pos rfl]
  refine ret_left ([]) (.inr rfl) (.cons (res_tmp rfl) .nil) .auto ?_
  exact ⟨rfl, rfl⟩
/-- The captured variable that holds the cache. -/
def capO (bv bc : Nat) : Nat × Obj := (bv, .cells #[.pointer (some ⟨bc, 0, none⟩)] 101 (0, 0))
section
variable {bv bc bt nf cf : Nat} {tick : Int} {bd : Bnd} {pf : Option Addr} {a b r : Rec}
theorem ct_advCmp0 (hbd : bd.Wf) (ha : a.Wf) (hb : b.Wf) : Ct Try.prog 103 [.agg a.c, .agg b.c, .pointer (some ⟨bv, 0, none⟩)].toArray [cacO bc tick bd bt pf nf cf, capO bv bc] (fun v M' => v = .int .i64 (cmpDue bd a b) ∧ M' = [cacO bc tick bd bt pf nf cf, capO bv bc]) := by
  refine ct_body (rv := [.tmp 5]) [(0, _), (1, _), (2, _)] Try.func103 (by kernel_rfl) Try.ntmps103 Try.results103 rfl rfl (fun w0 => ?_)
  refine p_seq0 ?_
  refine p_plain0 (0 :: 1 :: 2 :: []) ?_
  refine go_s0 (some 3) (.box 35 (.tmp 0)) 0 ?_
  refine os_boxA rfl rfl (fun b3 => ?_)
  refine go_s0 (some 4) (.box 35 (.tmp 1)) 0 ?_
  refine os_boxA rfl rfl (fun b4 => ?_)
  refine go_q0 5 (.assign (.const (.int .i64 0))) 3 (qv_assign rfl) ?_
  refine go_nil ?_
  change G _ _ _ _
  refine p_weaken [2, 3, 4, 5] rfl ?_
  refine p_seq0 ?_
  refine p_draw (by kernel_rfl) mixed 10 13 _ (fun _ h => h) (by kernel_rfl) ?_
  refine gd_all (0 :: 1 :: 2 :: 3 :: 4 :: 5 :: 6 :: 7 :: 8 :: 9 :: []) _ rfl (by kernel_rfl) (by decide) (fun _ h => h) rfl ?_
  refine sq_q0 6 (.load 101 (.tmp 2)) 101 (qv_load rfl .auto (ldv_sca sc101 (get_one _))) ?_
  refine sq_q0 7 (.load 35 (.tmp 3)) 35 (qv_load rfl .auto (ldv_agg agg35 (extw_Rec _) (Nat.le_of_ble_eq_true rfl))) ?_
  refine sq_p (d := 8) (op := .call { callee := .value (.func 101), args := #[.tmp 6, .tmp 7], argTypes := #[101, 35] }) (ty := 30) (g := none) (by kernel_rfl) trivial (pv_callR en101 rfl .auto (ct_due (bc := bc) (bt := bt) (nf := nf) (cf := cf) (tick := tick) (pf := pf) hbd ha)) ?_
  refine sq_q0 9 (.load 101 (.tmp 2)) 101 (qv_load rfl .auto (ldv_sca sc101 (get_one _))) ?_
  refine sq_q0 10 (.load 35 (.tmp 4)) 35 (qv_load rfl .auto (ldv_agg agg35 (extw_Rec _) (Nat.le_of_ble_eq_true rfl))) ?_
  refine sq_p (d := 11) (op := .call { callee := .value (.func 101), args := #[.tmp 9, .tmp 10], argTypes := #[101, 35] }) (ty := 30) (g := none) (by kernel_rfl) trivial (pv_callR en101 rfl .auto (ct_due (bc := bc) (bt := bt) (nf := nf) (cf := cf) (tick := tick) (pf := pf) hbd hb)) ?_
  refine sq_p (d := 12) (op := .call { callee := .value (.func 105), args := #[.tmp 8, .tmp 11], argTypes := #[30, 30] }) (ty := 3) (g := none) (by kernel_rfl) trivial (pv_call en105 rfl (pu_CompareU _ _)) ?_
  refine sq_q0 13 (.load 35 (.tmp 3)) 35 (qv_load rfl .auto (ldv_agg agg35 (extw_Rec _) (Nat.le_of_ble_eq_true rfl))) ?_
  refine sq_q0 14 (.load 35 (.tmp 4)) 35 (qv_load rfl .auto (ldv_agg agg35 (extw_Rec _) (Nat.le_of_ble_eq_true rfl))) ?_
  refine sq_p (d := 15) (op := .call { callee := .value (.func 106), args := #[.tmp 13, .tmp 14], argTypes := #[35, 35] }) (ty := 3) (g := none) (by kernel_rfl) trivial (pv_call en106 rfl (pu_byKey ha hb)) ?_
  refine SeqK.nil (fun β => ?_)
  refine gd_tail [10, 11, 12] rfl (by kernel_rfl) (by kernel_rfl) ?_
  refine go_s0 (some 16) (.buildSlice 89 2 #[(0, .tmp 12), (1, .tmp 15)]) 89 ?_
  refine os_buildSlice (Nat.le_of_ble_eq_true rfl) rfl (bls89_2 _ _) (fun b16 => ?_)
  refine go_s0 (some 17) (.call { callee := .value (.func 104), args := #[.tmp 16], argTypes := #[89] }) 3 ?_
  refine os_call (Nat.le_of_ble_eq_true rfl) en104 rfl .auto (ct_Or2 (cmpI (dueR bd a) (dueR bd b)) (cmpK a.key b.key)) ?_
  rintro v17 A17 ⟨rfl, rfl⟩
  try dsimp only [List.nil_append, List.cons_append]
  refine go_q0 5 (.assign (.tmp 17)) 3 (qv_assign rfl) ?_
  refine go_nil ?_
  change G _ _ _ _
  refine p_weaken [5] rfl ?_
  refine p_ret0 ?_
  try dsimp only [thenQ, inBlockQ]
  try rw [if_pos rfl]
  refine ret_left ([cacO bc tick bd bt pf nf cf, capO bv bc]) (.inr rfl) (.cons (res_tmp rfl) .nil) .auto ?_
  exact ⟨rfl, rfl⟩
theorem ct_advCmp (hbd : bd.Wf) (ha : a.Wf) (hb : b.Wf) : Ct Try.prog 103 ([Value.agg (eRec.c a), Value.agg (eRec.c b)] ++ [Value.pointer (some ⟨bv, 0, none⟩)]).toArray [cacO bc tick bd bt pf nf cf, capO bv bc] (fun v M' => v = .int .i64 (cmpDue bd a b) ∧ M' = [cacO bc tick bd bt pf nf cf, capO bv bc]) := by
  simp only [List.cons_append, List.nil_append, eRec]
  exact ct_advCmp0 hbd ha hb
theorem ct_advReason0 (hbd : bd.Wf) (hr : r.Wf) : Ct Try.prog 108 [.agg r.c, .pointer (some ⟨bv, 0, none⟩)].toArray [cacO bc tick bd bt pf nf cf, capO bv bc] (fun v M' => v = .int .u8 (reasonR bd r) ∧ M' = [cacO bc tick bd bt pf nf cf, capO bv bc]) := by
  refine ct_body (rv := [.tmp 3]) [(0, _), (1, _)] Try.func108 (by kernel_rfl) Try.ntmps108 Try.results108 rfl rfl (fun w0 => ?_)
  refine p_seq0 ?_
  refine p_plain0 (0 :: 1 :: []) ?_
  refine go_s0 (some 2) (.box 35 (.tmp 0)) 0 ?_
  refine os_boxA rfl rfl (fun b2 => ?_)
  refine go_q0 3 (.assign (.const (.int .u8 0))) 5 (qv_assign rfl) ?_
  refine go_nil ?_
  change G _ _ _ _
  refine p_weaken [1, 2, 3] rfl ?_
  refine p_seq0 ?_
  refine p_seq0 ?_
  refine p_draw (by kernel_rfl) mixed 7 7 _ (fun _ h => h) (by kernel_rfl) ?_
  refine gd_all (0 :: 1 :: 2 :: 3 :: 4 :: 5 :: 6 :: []) _ rfl (by kernel_rfl) (by decide) (fun _ h => h) rfl ?_
  refine sq_q0 4 (.load 101 (.tmp 1)) 101 (qv_load rfl .auto (ldv_sca sc101 (get_one _))) ?_
  refine sq_q0 5 (.load 35 (.tmp 2)) 35 (qv_load rfl .auto (ldv_agg agg35 (extw_Rec _) (Nat.le_of_ble_eq_true rfl))) ?_
  refine sq_p (d := 6) (op := .call { callee := .value (.func 109), args := #[.tmp 4, .tmp 5], argTypes := #[101, 35] }) (ty := 30) (g := none) (by kernel_rfl) trivial (pv_callR en109 rfl .auto (ct_idle (bc := bc) (bt := bt) (nf := nf) (cf := cf) (tick := tick) (pf := pf) hbd hr)) ?_
  refine sq_q0 7 (.load 101 (.tmp 1)) 101 (qv_load rfl .auto (ldv_sca sc101 (get_one _))) ?_
  refine sq_q0 8 (.load 35 (.tmp 2)) 35 (qv_load rfl .auto (ldv_agg agg35 (extw_Rec _) (Nat.le_of_ble_eq_true rfl))) ?_
  refine sq_p (d := 9) (op := .call { callee := .value (.func 101), args := #[.tmp 7, .tmp 8], argTypes := #[101, 35] }) (ty := 30) (g := none) (by kernel_rfl) trivial (pv_callR en101 rfl .auto (ct_due (bc := bc) (bt := bt) (nf := nf) (cf := cf) (tick := tick) (pf := pf) hbd hr)) ?_
  refine sq_q0 10 (.binOp .eql 30 (.tmp 6) (.tmp 9) 30) 4 (qv_eql rfl rfl rfl) ?_
  refine SeqK.nil (fun β => ?_)
  refine gd_tail [] rfl (by kernel_rfl) (by kernel_rfl) ?_
  refine go_nil ?_
  change G _ _ _ _
  refine p_weaken [3, 10] rfl ?_
  refine p_cond (.tmp 10) (by kernel_rfl) rfl (fun h10 => ?_) (fun h10 => ?_)
  · replace h10 := kn h10
    have hv : reasonR bd r = 1 := by unfold reasonR; rw [if_pos h10]
    refine p_seq0 ?_
    refine p_plain0 (0 :: []) ?_
    refine go_q0 3 (.assign (.const (.int .u8 1))) 5 (qv_assign rfl) ?_
    refine go_nil ?_
    change G _ _ _ _
    refine p_weaken [3] rfl ?_
    refine p_ret0 ?_
    try dsimp only [thenQ, inBlockQ]
    try rw [if_pos rfl]
    refine ret_left ([cacO bc tick bd bt pf nf cf, capO bv bc]) (.inr rfl) (.cons (res_tmp rfl) .nil) .auto ?_
    exact ⟨by rw [hv]; rfl, rfl⟩
  replace h10 := kn h10
  have hv : reasonR bd r = 2 := by unfold reasonR; rw [if_neg h10]
  refine p_skip0 ?_
  change G _ _ _ _
  refine p_weaken [3] rfl ?_
  refine p_seq0 ?_
  refine p_plain0 (0 :: []) ?_
  refine go_q0 3 (.assign (.const (.int .u8 2))) 5 (qv_assign rfl) ?_
  refine go_nil ?_
  change G _ _ _ _
  refine p_ret0 ?_
  try dsimp only [thenQ, inBlockQ]
  try rw [if_pos rfl]
  refine ret_left ([cacO bc tick bd bt pf nf cf, capO bv bc]) (.inr rfl) (.cons (res_tmp rfl) .nil) .auto ?_
  exact ⟨by rw [hv]; rfl, rfl⟩
theorem ct_advReason (hbd : bd.Wf) (hr : r.Wf) : Ct Try.prog 108 ([Value.agg r.c] ++ [Value.pointer (some ⟨bv, 0, none⟩)]).toArray [cacO bc tick bd bt pf nf cf, capO bv bc] (fun v M' => v = .int .u8 (reasonR bd r) ∧ M' = [cacO bc tick bd bt pf nf cf, capO bv bc]) := by
  simp only [List.cons_append, List.nil_append, eRec]
  exact ct_advReason0 hbd hr
end
theorem swo_last : Go.Sort.SWO (fun x y : Rec => decide (cmpLast x y < 0)) := swo_lex (fun r : Rec => r.last) (fun r => kb r.key)
theorem swo_due (bd : Bnd) : Go.Sort.SWO (fun x y : {r : Rec // r.Wf} => decide (cmpDue bd x.1 y.1 < 0)) := swo_lex (fun r : {r : Rec // r.Wf} => dueR bd r.1) (fun r => kb r.1.key)
theorem min_step {l : List Rec} {i : Nat} {u x : Rec} (hx : l[i]? = some x) (hmin : ∀ (j : Nat) (x : Rec), j < i → l[j]? = some x → ¬ cmpLast x u < 0) (h : cmpLast x u < 0) : ∀ (j : Nat) (y : Rec), j < i + 1 → l[j]? = some y → ¬ cmpLast y x < 0 := by
  intro j y hj hy hlt
  by_cases e : j = i
  · subst e; rw [hx] at hy; cases hy
    exact of_decide_eq_false (swo_last.irrefl x) hlt
  · exact hmin j y (by omega) hy (of_decide_eq_true (swo_last.trans y x u (decide_eq_true hlt) (decide_eq_true h)))
theorem min_stay {l : List Rec} {i : Nat} {u x : Rec} (hx : l[i]? = some x) (hmin : ∀ (j : Nat) (x : Rec), j < i → l[j]? = some x → ¬ cmpLast x u < 0) (h : ¬ cmpLast x u < 0) : ∀ (j : Nat) (y : Rec), j < i + 1 → l[j]? = some y → ¬ cmpLast y u < 0 := by
  intro j y hj hy
  by_cases e : j = i
  · subst e; rw [hx] at hy; cases hy; exact h
  · exact hmin j y (by omega) hy
theorem ct_MinFunc {M : Mem} {p : Option Addr} {c : Nat} {l : List Rec} (h0 : 0 < l.length) (hm : l.length ≤ 1000000) (h : Lst eRec p l M) (hw : ∀ r ∈ l, r.Wf) :
    Ct Try.prog 149 [.slice p l.length c, .func (.func 150) #[] #[]].toArray M (fun v M' => ∃ u, v = .agg u.c ∧ u ∈ l ∧ (∀ x ∈ l, ¬ cmpLast x u < 0) ∧ M' = M) := by
  obtain ⟨b, off, cur, e, fz, rfl, mm, H⟩ := h.at_ h0
  obtain ⟨r0, hr0⟩ : ∃ r0, l[0]? = some r0 := ⟨_, List.getElem?_eq_getElem h0⟩
  refine ct_body (rv := [.cell 4 35]) [(0, _), (1, _)] Try.func149 (by kernel_rfl) Try.ntmps149 Try.results149 rfl rfl (fun w0 => ?_)
  refine p_seq0 ?_
  refine p_plain0 (0 :: []) ?_
  refine go_s0 (some 4) (.alloc 35) 0 ?_
  refine os_allocA rfl ze35 (fun b4 => ?_)
  refine go_nil ?_
  change G _ _ _ _
  refine p_seq0 ?_
  refine p_seq0 ?_
  refine p_plain0 (0 :: 1 :: 2 :: []) ?_
  refine go_q0 7 (.move (.tmp 0)) 102 (qv_move rfl) ?_
  refine go_q0 8 (.call { callee := .builtin .len, args := #[.tmp 7], argTypes := #[102] }) 3 (qv_lenS un102 rfl) ?_
  refine go_q0 9 (.binOp .lss 3 (.tmp 8) (.const (.int .i64 1)) 3) 4 (qv_lss (b := false) rfl rfl (decide_eq_false (by omega))) ?_
  refine go_nil ?_
  change G _ _ _ _
  refine p_weaken [0, 1, 4, 9] rfl ?_
  refine p_condF (.tmp 9) (by kernel_rfl) rfl ?_
  refine p_skip0 ?_
  change G _ _ _ _
  refine p_weaken [0, 1, 4] rfl ?_
  refine p_seq0 ?_
  refine p_plain0 (0 :: 1 :: 2 :: 3 :: 4 :: []) ?_
  refine go_q0 11 (.move (.tmp 0)) 102 (qv_move rfl) ?_
  refine go_q0 12 (.indexAddr 102 (.tmp 11) (.const (.int .i64 0))) 0 (qv_index un102 sz35 rfl rfl (j := 0) rfl h0) ?_
  refine go_q0 13 (.load 35 (.tmp 12)) 35 (qv_load rfl (At.of_mem (by repeat first | exact mm | exact List.mem_append_left _ mm | apply List.mem_cons_of_mem | apply List.mem_append_right)) (ldv_els H hr0 (by decide) agg35 rfl)) ?_
  refine go_s0 (some 5) (.alloc 35) 0 ?_
  refine os_allocA rfl ze35 (fun b5 => ?_)
  refine go_s0 none (.store 35 (.tmp 5) (.tmp 13)) 0 ?_
  refine os_store rfl rfl sz35 rfl (one_Rec _) .auto (Nat.le_of_ble_eq_true rfl) (splw_Rec _ _ (siz_Rec _)) ?_
  refine go_nil ?_
  change G _ _ _ _
  refine p_weaken [0, 1, 4, 5] rfl ?_
  refine p_seq0 ?_
  refine p_seq0 ?_
  refine p_plain0 (0 :: []) ?_
  refine go_q0 6 (.assign (.const (.int .i64 1))) 3 (qv_assign rfl) ?_
  refine go_nil ?_
  change G _ _ _ _
  refine p_block 0 (by kernel_rfl) ?_
  refine p_loopE (by kernel_rfl) (fun s m => ∃ (i : Nat) (u : Rec), (1 ≤ i) ∧ (i ≤ l.length) ∧ (u ∈ l) ∧ (∀ (j : Nat) (x : Rec), j < i → l[j]? = some x → ¬ cmpLast x u < 0) ∧ Ge s ⟨[], [(0, .slice (some ⟨b, off, none⟩) l.length c), (1, .func (.func 150) #[] #[]), (4, .pointer (some ⟨b4, 0, none⟩)), (5, .pointer (some ⟨b5, 0, none⟩)), (6, .int .i64 i)], (b5, .cells u.c 35 (0, 0)) :: (b4, .cells zeroR.c 35 (0, 0)) :: M⟩ ∧ m = l.length + 1 - i) ?_ ?_
  · exact ⟨_, ⟨1, r0, by omega, by omega, List.mem_of_getElem? hr0, fun j x hj hx => by have : j = 0 := (by omega); subst this; rw [hr0] at hx; cases hx; exact of_decide_eq_false (swo_last.irrefl r0), ⟨rfl, ⟨[0, 1, 4, 5, 6], rfl⟩, .auto⟩, rfl⟩⟩
  rintro s m ⟨i, u, hi1, hi2, hu, hmin, hs, rfl⟩
  refine ge_ok hs ?_
  refine p_seq0 ?_
  refine p_seq0 ?_
  refine p_plain0 (0 :: 1 :: 2 :: 3 :: []) ?_
  refine go_q0 14 (.move (.tmp 6)) 3 (qv_move rfl) ?_
  refine go_q0 15 (.move (.tmp 0)) 102 (qv_move rfl) ?_
  refine go_q0 16 (.call { callee := .builtin .len, args := #[.tmp 15], argTypes := #[102] }) 3 (qv_lenS un102 rfl) ?_
  refine go_q0 17 (.binOp .lss 3 (.tmp 14) (.tmp 16) 3) 4 (qv_lss rfl rfl rfl) ?_
  refine go_nil ?_
  change G _ _ _ _
  refine p_weaken [0, 1, 4, 5, 6, 17] rfl ?_
  refine p_cond (.tmp 17) (by kernel_rfl) rfl (fun h17 => ?_) (fun h17 => ?_)
  rotate_left
  · replace h17 := kn h17
    refine p_exit 0 (by kernel_rfl) ?_
    change G _ _ _ _
    refine p_weaken [4, 5] rfl ?_
    refine p_seq0 ?_
    refine p_plain0 (0 :: 1 :: []) ?_
    refine go_q0 32 (.load 35 (.tmp 5)) 35 (qv_load rfl .auto (ldv_agg agg35 (extw_Rec _) (Nat.le_of_ble_eq_true rfl))) ?_
    refine go_s0 none (.store 35 (.tmp 4) (.tmp 32)) 0 ?_
    refine os_store rfl rfl sz35 rfl (one_Rec _) .auto (Nat.le_of_ble_eq_true rfl) (splw_Rec _ _ (siz_Rec _)) ?_
    refine go_nil ?_
    change G _ _ _ _
    refine p_weaken [4] rfl ?_
    refine p_ret0 ?_
    try dsimp only [thenQ, inBlockQ]
    try rw [if_pos rfl]
    refine ret_left (M) (.inr rfl) (.cons (res_cell rfl (At.mem .auto) (ldv_agg agg35 (extw_Rec _) (Nat.le_of_ble_eq_true rfl))) .nil) .auto ?_
    have hie : i = l.length := by omega
    subst hie
    exact ⟨u, rfl, hu, fun x hx => by obtain ⟨j, hj, rfl⟩ := List.getElem_of_mem hx; exact hmin j _ hj (List.getElem?_eq_getElem hj), rfl⟩
  replace h17 := kn h17
  refine p_skip0 ?_
  change G _ _ _ _
  refine p_weaken [0, 1, 4, 5, 6] rfl ?_
  refine p_seq0 ?_
  refine p_block 1 (by kernel_rfl) ?_
  refine p_seq0 ?_
  obtain ⟨x, hx⟩ : ∃ x, l[i]? = some x := ⟨_, List.getElem?_eq_getElem (by omega)⟩
  have hxm := List.mem_of_getElem? hx
  refine p_draw (by kernel_rfl) mixed 8 8 _ (fun _ h => h) (by kernel_rfl) ?_
  refine gd_q (i := 0) (d := 20) (op := .move (.tmp 1)) (ty := 186) (g := none) (by kernel_rfl) trivial rfl (by kernel_rfl) (by kernel_rfl) (by kernel_rfl) (by kernel_rfl) (qv_move rfl) ?_
  refine gd_q (i := 1) (d := 21) (op := .move (.tmp 0)) (ty := 102) (g := none) (by kernel_rfl) trivial rfl (by kernel_rfl) (by kernel_rfl) (by kernel_rfl) (by kernel_rfl) (qv_move rfl) ?_
  refine gd_q (i := 2) (d := 22) (op := .move (.tmp 6)) (ty := 3) (g := none) (by kernel_rfl) trivial rfl (by kernel_rfl) (by kernel_rfl) (by kernel_rfl) (by kernel_rfl) (qv_move rfl) ?_
  refine gd_q (i := 3) (d := 23) (op := .indexAddr 102 (.tmp 21) (.tmp 22)) (ty := 0) (g := none) (by kernel_rfl) trivial rfl (by kernel_rfl) (by kernel_rfl) (by kernel_rfl) (by kernel_rfl) (qv_index un102 sz35 rfl rfl rfl (by omega)) ?_
  refine gd_q (i := 4) (d := 24) (op := .load 35 (.tmp 23)) (ty := 35) (g := none) (by kernel_rfl) trivial rfl (by kernel_rfl) (by kernel_rfl) (by kernel_rfl) (by kernel_rfl) (qv_load rfl (At.of_mem (by repeat first | exact mm | exact List.mem_append_left _ mm | apply List.mem_cons_of_mem | apply List.mem_append_right)) (ldv_els H hx (by decide) agg35 rfl)) ?_
  refine gd_q (i := 5) (d := 25) (op := .load 35 (.tmp 5)) (ty := 35) (g := none) (by kernel_rfl) trivial rfl (by kernel_rfl) (by kernel_rfl) (by kernel_rfl) (by kernel_rfl) (qv_load rfl .auto (ldv_agg agg35 (extw_Rec _) (Nat.le_of_ble_eq_true rfl))) ?_
  refine gd_one (i := 6) (d := some 26) (op := .call { callee := .value (.tmp 20), args := #[.tmp 24, .tmp 25], argTypes := #[35, 35] }) (ty := 3) (g := none) (by kernel_rfl) trivial rfl (by kernel_rfl) ?_
  refine os_callV (Nat.le_of_ble_eq_true rfl) rfl en150 rfl rfl .auto ((pu_beginCmp (hw x hxm) (hw u hu) : Ct _ _ _ _ _)) ?_
  rintro v26 A26 ⟨rfl, rfl⟩
  try dsimp only [List.nil_append, List.cons_append]
  try dsimp only [List.nil_append]
  refine ⟨fun _ h => by first | exact h | (cases h; done) | exact .tail _ h | exact .tail _ (.tail _ h) | exact List.mem_append_right _ (List.mem_append_right _ h) | exact List.mem_append_right _ h | (simp only [List.mem_cons, List.not_mem_nil, or_false] at h ⊢; first | exact .inl h | exact .inr (.inl h) | exact .inr (.inr (.inl h)) | exact .inr (.inr (.inr (.inl h))) | (subst h; simp; done) | grind), ?_⟩
  refine gd_q (i := 7) (d := 27) (op := .binOp .lss 3 (.tmp 26) (.const (.int .i64 0)) 3) (ty := 4) (g := none) (by kernel_rfl) trivial rfl (by kernel_rfl) (by kernel_rfl) (by kernel_rfl) (by kernel_rfl) (qv_lss rfl rfl rfl) ?_
  refine gd_tail [] rfl (by kernel_rfl) (by kernel_rfl) ?_
  refine go_nil ?_
  change G _ _ _ _
  refine p_weaken [0, 1, 4, 5, 6, 27] rfl ?_
  refine p_cond (.tmp 27) (by kernel_rfl) rfl (fun h27 => ?_) (fun h27 => ?_)
  rotate_left
  · replace h27 := kn h27
    have hun := hu
    have hminn := min_stay hx hmin h27
    refine p_skip0 ?_
    change G _ _ _ _
    refine p_weaken [0, 1, 4, 5, 6] rfl ?_
    refine p_plain0 (0 :: 1 :: 2 :: []) ?_
    refine go_q0 18 (.move (.tmp 6)) 3 (qv_move rfl) ?_
    refine go_q0 19 (.binOp .add 3 (.tmp 18) (.const (.int .i64 1)) 3) 3 (qv_add rfl rfl (by first | exact IntWalk.i64_in _ (by omega) | exact IntWalk.i64_in _ (by dsimp only; omega) | rfl)) ?_
    refine go_q0 6 (.assign (.tmp 19)) 3 (qv_assign rfl) ?_
    refine go_nil ?_
    exact ⟨_, ⟨i + 1, _, by omega, by omega, hun, hminn, ⟨rfl, ⟨[0, 1, 4, 5, 6], rfl⟩, .auto⟩, rfl⟩, by omega⟩
  replace h27 := kn h27
  have hun := hxm
  have hminn := min_step hx hmin h27
  refine p_plain0 (0 :: 1 :: 2 :: 3 :: 4 :: []) ?_
  refine go_q0 28 (.move (.tmp 0)) 102 (qv_move rfl) ?_
  refine go_q0 29 (.move (.tmp 6)) 3 (qv_move rfl) ?_
  refine go_q0 30 (.indexAddr 102 (.tmp 28) (.tmp 29)) 0 (qv_index un102 sz35 rfl rfl rfl (by omega)) ?_
  refine go_q0 31 (.load 35 (.tmp 30)) 35 (qv_load rfl (At.of_mem (by repeat first | exact mm | exact List.mem_append_left _ mm | apply List.mem_cons_of_mem | apply List.mem_append_right)) (ldv_els H hx (by decide) agg35 rfl)) ?_
  refine go_s0 none (.store 35 (.tmp 5) (.tmp 31)) 0 ?_
  refine os_store rfl rfl sz35 rfl (one_Rec _) .auto (Nat.le_of_ble_eq_true rfl) (splw_Rec _ _ (siz_Rec _)) ?_
  refine go_nil ?_
  change G _ _ _ _
  refine p_weaken [0, 1, 4, 5, 6] rfl ?_
  refine p_plain0 (0 :: 1 :: 2 :: []) ?_
  refine go_q0 18 (.move (.tmp 6)) 3 (qv_move rfl) ?_
  refine go_q0 19 (.binOp .add 3 (.tmp 18) (.const (.int .i64 1)) 3) 3 (qv_add rfl rfl (by first | exact IntWalk.i64_in _ (by omega) | exact IntWalk.i64_in _ (by dsimp only; omega) | rfl)) ?_
  refine go_q0 6 (.assign (.tmp 19)) 3 (qv_assign rfl) ?_
  refine go_nil ?_
  exact ⟨_, ⟨i + 1, _, by omega, by omega, hun, hminn, ⟨rfl, ⟨[0, 1, 4, 5, 6], rfl⟩, .auto⟩, rfl⟩, by omega⟩
theorem pu_insert0R (f : Value) : Pu Try.prog 178 [.slice none 0 0, .int .i64 0, .int .i64 0, f] (.tuple #[]) := by
  refine ct_body (rv := []) [(0, _), (1, _), (2, _), (3, _)] Try.func178 (by kernel_rfl) Try.ntmps178 Try.results178 rfl rfl (fun w0 => ?_)
  refine p_seq0 ?_
  refine p_plain0 (0 :: 1 :: 2 :: []) ?_
  refine go_q0 10 (.move (.tmp 1)) 3 (qv_move rfl) ?_
  refine go_q0 11 (.binOp .add 3 (.tmp 10) (.const (.int .i64 1)) 3) 3 (qv_add rfl rfl (by first | exact IntWalk.i64_in _ (by omega) | exact IntWalk.i64_in _ (by dsimp only; omega) | rfl)) ?_
  refine go_q0 8 (.assign (.tmp 11)) 3 (qv_assign rfl) ?_
  refine go_nil ?_
  change G _ _ _ _
  refine p_weaken [0, 1, 2, 3, 8] rfl ?_
  refine p_block 0 (by kernel_rfl) ?_
  refine p_loopE (by kernel_rfl) (fun s m => Ge s ⟨[], [(2, .int .i64 0), (8, .int .i64 1)], []⟩ ∧ m = 0) ?_ ?_
  · exact ⟨_, ⟨⟨rfl, ⟨[2, 8], rfl⟩, .auto⟩, rfl⟩⟩
  rintro s m ⟨hs, rfl⟩
  refine ge_ok hs ?_
  refine p_seq0 ?_
  refine p_seq0 ?_
  refine p_plain0 (0 :: 1 :: 2 :: []) ?_
  refine go_q0 12 (.move (.tmp 8)) 3 (qv_move rfl) ?_
  refine go_q0 13 (.move (.tmp 2)) 3 (qv_move rfl) ?_
  refine go_q0 14 (.binOp .lss 3 (.tmp 12) (.tmp 13) 3) 4 (qv_lss (b := false) rfl rfl (decide_eq_false (by omega))) ?_
  refine go_nil ?_
  change G _ _ _ _
  refine p_weaken [2, 8, 14] rfl ?_
  refine p_condF (.tmp 14) (by kernel_rfl) rfl ?_
  refine p_exit 0 (by kernel_rfl) ?_
  try dsimp only [thenQ, inBlockQ]
  try rw [if_pos rfl]
  refine ret_now (.inl rfl) .nil (by repeat constructor) ?_
  exact ⟨rfl, rfl⟩
theorem pu_pdq0R (f : Value) (lim : Int) : Pu Try.prog 152 [.slice none 0 0, .int .i64 0, .int .i64 0, .int .i64 lim, f] (.tuple #[]) := by
  refine ct_body (rv := []) [(0, _), (1, _), (2, _), (3, _), (4, _)] Try.func152 (by kernel_rfl) Try.ntmps152 Try.results152 rfl rfl (fun w0 => ?_)
  refine p_seq0 ?_
  refine p_plain0 (0 :: []) ?_
  refine go_q0 10 (.assign (.const (.bool true))) 4 (qv_assign rfl) ?_
  refine go_nil ?_
  change G _ _ _ _
  refine p_seq0 ?_
  refine p_plain0 (0 :: []) ?_
  refine go_q0 11 (.assign (.const (.bool true))) 4 (qv_assign rfl) ?_
  refine go_nil ?_
  change G _ _ _ _
  refine p_block 0 (by kernel_rfl) ?_
  refine p_loopE (by kernel_rfl) (fun s m => Ge s ⟨[], [(0, .slice none 0 0), (1, .int .i64 0), (2, .int .i64 0), (4, f)], []⟩ ∧ m = 0) ?_ ?_
  · exact ⟨_, ⟨⟨rfl, ⟨[0, 1, 2, 4], rfl⟩, .auto⟩, rfl⟩⟩
  rintro s m ⟨hs, rfl⟩
  refine ge_ok hs ?_
  refine p_block 1 (by kernel_rfl) ?_
  refine p_seq0 ?_
  refine p_plain0 (0 :: 1 :: 2 :: 3 :: []) ?_
  refine go_q0 21 (.move (.tmp 2)) 3 (qv_move rfl) ?_
  refine go_q0 22 (.move (.tmp 1)) 3 (qv_move rfl) ?_
  refine go_q0 23 (.binOp .sub 3 (.tmp 21) (.tmp 22) 3) 3 (qv_sub rfl rfl (by first | exact IntWalk.i64_in _ (by omega) | exact IntWalk.i64_in _ (by dsimp only; omega) | rfl)) ?_
  refine go_q0 12 (.assign (.tmp 23)) 3 (qv_assign rfl) ?_
  refine go_nil ?_
  change G _ _ _ _
  refine p_weaken [0, 1, 2, 4, 12] rfl ?_
  refine p_seq0 ?_
  refine p_seq0 ?_
  refine p_plain0 (0 :: 1 :: []) ?_
  refine go_q0 24 (.move (.tmp 12)) 3 (qv_move rfl) ?_
  refine go_q0 25 (.binOp .leq 3 (.tmp 24) (.const (.int .i64 12)) 3) 4 (qv_leq (b := true) rfl rfl (decide_eq_true (by omega))) ?_
  refine go_nil ?_
  change G _ _ _ _
  refine p_weaken [0, 1, 2, 4, 12, 25] rfl ?_
  refine p_condT (.tmp 25) (by kernel_rfl) rfl ?_
  refine p_seq0 ?_
  refine p_plain0 (0 :: 1 :: 2 :: 3 :: 4 :: []) ?_
  refine go_q0 26 (.move (.tmp 0)) 102 (qv_move rfl) ?_
  refine go_q0 27 (.move (.tmp 1)) 3 (qv_move rfl) ?_
  refine go_q0 28 (.move (.tmp 2)) 3 (qv_move rfl) ?_
  refine go_q0 29 (.move (.tmp 4)) 186 (qv_move rfl) ?_
  refine go_s0 (some 30) (.call { callee := .value (.func 178), args := #[.tmp 26, .tmp 27, .tmp 28, .tmp 29], argTypes := #[102, 3, 3, 186] }) 0 ?_
  refine os_callP rfl en178 rfl (pu_insert0R f) ?_
  refine go_nil ?_
  change G _ _ _ _
  refine p_weaken [0, 1, 2, 4, 12] rfl ?_
  refine p_ret0 ?_
  try dsimp only [thenQ, inBlockQ]
  try rw [if_pos rfl]
  refine ret_now (.inr rfl) .nil (by repeat constructor) ?_
  exact ⟨rfl, rfl⟩
theorem pu_Sort0R (f : Value) : Pu Try.prog 102 [.slice none 0 0, f] (.tuple #[]) := by
  refine ct_body (rv := []) [(0, _), (1, _)] Try.func102 (by kernel_rfl) Try.ntmps102 Try.results102 rfl rfl (fun w0 => ?_)
  refine p_seq0 ?_
  refine p_plain0 (0 :: 1 :: 2 :: []) ?_
  refine go_q0 5 (.move (.tmp 0)) 102 (qv_move rfl) ?_
  refine go_q0 6 (.call { callee := .builtin .len, args := #[.tmp 5], argTypes := #[102] }) 3 (qv_lenS un102 rfl) ?_
  refine go_q0 4 (.assign (.tmp 6)) 3 (qv_assign rfl) ?_
  refine go_nil ?_
  change G _ _ _ _
  refine p_weaken [0, 1, 4] rfl ?_
  refine p_plain0 (0 :: 1 :: 2 :: 3 :: 4 :: 5 :: 6 :: []) ?_
  refine go_q0 7 (.move (.tmp 0)) 102 (qv_move rfl) ?_
  refine go_q0 8 (.move (.tmp 4)) 3 (qv_move rfl) ?_
  refine go_q0 9 (.move (.tmp 4)) 3 (qv_move rfl) ?_
  refine go_q0 10 (.convert 3 220 (.tmp 9)) 220 (qv_conv un3 un220 rfl (by first | exact IntWalk.u64_in _ (by omega) | rfl)) ?_
  refine go_s0 (some 11) (.call { callee := .value (.func 139), args := #[.tmp 10], argTypes := #[220] }) 3 ?_
  refine os_callP rfl en139 rfl (pu_bitsLen0) ?_
  refine go_q0 12 (.move (.tmp 1)) 186 (qv_move rfl) ?_
  refine go_s0 (some 13) (.call { callee := .value (.func 152), args := #[.tmp 7, .const (.int .i64 0), .tmp 8, .tmp 11, .tmp 12], argTypes := #[102, 3, 3, 3, 186] }) 0 ?_
  refine os_callP rfl en152 rfl (pu_pdq0R f 0) ?_
  refine go_nil ?_
  try dsimp only [thenQ, inBlockQ]
  try rw [if_pos rfl]
  refine ret_now (.inl rfl) .nil (by repeat constructor) ?_
  exact ⟨rfl, rfl⟩
theorem ct_SortRecO (cf : Rec → Rec → Int) (hO : Go.Sort.SWO (fun x y : {r : Rec // r.Wf} => decide (cf x.1 y.1 < 0))) {g : FuncId} {cb : List Value} {A : Mem} (hg : Ent Try.prog g)
    (hc : ∀ x y : Rec, x.Wf → y.Wf → Ct Try.prog g ([Value.agg (eRec.c x), Value.agg (eRec.c y)] ++ cb).toArray A (fun v A' => v = .int .i64 (cf x y) ∧ A' = A)) {p : Option Addr} {cap : Nat} {l : List Rec} {A0 : Mem} (h : OwnL eRec 35 p cap l A0) (hw : ∀ r ∈ l, r.Wf) (hm : l.length ≤ 1000000) :
    Ct Try.prog 102 [.slice p l.length cap, .func (.func g) #[] cb.toArray].toArray (A0 ++ A) (fun v M' => v = .tuple #[] ∧ ∃ l' A1, l'.Perm l ∧ l'.Pairwise (fun x y => ¬ cf y x < 0) ∧ OwnL eRec 35 p cap l' A1 ∧ M' = A1 ++ A) := by
  rcases h.cases with ⟨rfl, rfl, rfl, rfl⟩ | ⟨b, cur, rfl, rfl, h1, h2, h3, H⟩
  · exact (Pu.any (pu_Sort0R _) : Ct _ _ _ _ _).mono fun v M' ⟨hv, hM⟩ => ⟨hv, [], [], List.Perm.refl _, List.Pairwise.nil, OwnL.nil, hM⟩
  · refine (ct_sortP (E := eRec) (W := Rec.Wf) laySortRec (by decide) ⟨zeroR, zeroR_wf⟩ Try.isAgg35 Try.sizeOf35 one_Rec cf hO hg hc hw H (by omega)).mono ?_
    rintro v M' ⟨hv, l', cur', hp, hs, hh, hz, rfl⟩
    exact ⟨hv, l', _, hp, hs, E_flat_own hp.length_eq h1 h2 (by rw [hz, h3]) hh, rfl⟩
end Go.Proofs.Ytobmcpoejhhemaa
