import Derived.Test.YtobmcpoejhhemaaOMpL
namespace Go.Proofs.Ytobmcpoejhhemaa
open Go.E

def keyM (n : Int) : Key := { (default : Key) with src := { (default : Key).src with b := { (default : Key).src.b with x0 := 10 } }, proto := 6, srcPort := IntKind.u16.wrap n, dstPort := 80 }
theorem pu_keyM (n : Int) : Pu Try.prog 122 [.int .i64 n] (.agg (keyM n).c) := by
  refine ct_body (rv := [.cell 2 27]) [(0, _)] Try.func122 (by kernel_rfl) Try.ntmps122 Try.results122 rfl rfl (fun w0 => ?_)
  refine p_seq0 ?_
  refine p_plain0 (0 :: []) ?_
  refine go_s0 (some 2) (.alloc 27) 0 ?_
  refine os_allocA rfl ze27 (fun b2 => ?_)
  refine go_nil ?_
  change G _ _ _ _
  refine p_seq0 ?_
  refine p_plain0 (0 :: 1 :: 2 :: 3 :: 4 :: []) ?_
  refine go_q0 4 (.move (.tmp 0)) 3 (qv_move rfl) ?_
  refine go_q0 5 (.convert 3 25 (.tmp 4)) 25 (qv_conv un3 un25 rfl (rfl)) ?_
  refine go_q0 6 (.build 27 #[(2, .const (.int .u8 6)), (3, .tmp 5), (4, .const (.int .u16 80))]) 27 (qv_build rfl (bld27_2_3_4 _ _ _)) ?_
  refine go_s0 (some 3) (.alloc 27) 0 ?_
  refine os_allocA rfl ze27 (fun b3 => ?_)
  refine go_s0 none (.store 27 (.tmp 3) (.tmp 6)) 0 ?_
  refine os_store rfl rfl sz27 rfl (one_Key _) .auto (Nat.le_of_ble_eq_true rfl) (splw_Key _ _ (siz_Key _)) ?_
  refine go_nil ?_
  change G _ _ _ _
  refine p_weaken [2, 3] rfl ?_
  refine p_seq0 ?_
  refine p_plain0 (0 :: 1 :: 2 :: 3 :: []) ?_
  refine go_q0 7 (.fieldAddr 27 (.tmp 3) 0) 0 (qv_field rfl fd27_0) ?_
  refine go_q0 8 (.fieldAddr 24 (.tmp 7) 1) 0 (qv_field rfl fd24_1) ?_
  refine go_q0 9 (.indexAddr 22 (.tmp 8) (.const (.int .i64 0))) 0 (qv_indexA un22 sz5 rfl rfl (j := 0) rfl (by decide)) ?_
  refine go_s0 none (.store 5 (.tmp 9) (.const (.int .u8 10))) 0 ?_
  refine os_store1 (cs' := (keyM n).c) rfl rfl sz5 rfl rfl (by repeat first | exact .here | apply Up.next | apply Up.app) (Nat.le_of_ble_eq_true rfl) (by kernel_rfl) ?_
  refine go_nil ?_
  change G _ _ _ _
  refine p_weaken [2, 3] rfl ?_
  refine p_seq0 ?_
  refine p_plain0 (0 :: 1 :: []) ?_
  refine go_q0 10 (.load 27 (.tmp 3)) 27 (qv_load rfl .auto (ldv_agg agg27 (extw_Key _) (Nat.le_of_ble_eq_true rfl))) ?_
  refine go_s0 none (.store 27 (.tmp 2) (.tmp 10)) 0 ?_
  refine os_store rfl rfl sz27 rfl (one_Key _) .auto (Nat.le_of_ble_eq_true rfl) (splw_Key _ _ (siz_Key _)) ?_
  refine go_nil ?_
  change G _ _ _ _
  refine p_weaken [2] rfl ?_
  refine p_ret0 ?_
  try dsimp only [thenQ, inBlockQ]
  try rw [if_pos rfl]
  refine ret_now (.inr rfl) (.cons (res_cell rfl (At.mem .auto) (ldv_agg agg27 (extw_Key _) (Nat.le_of_ble_eq_true rfl))) .nil) (by repeat constructor) ?_
  exact ⟨rfl, rfl⟩
def recM (k : Key) (p b : Int) : Rec := { key := k, packets := p, bytes := b, first := 1, last := 2, flags := 0, reason := 1, cls := 0 }
theorem pu_recM (k : Key) (p b : Int) : Pu Try.prog 123 [.agg k.c, .int .u64 p, .int .u64 b] (.agg (recM k p b).c) := by
  refine ct_body (rv := [.cell 6 35]) [(0, _), (1, _), (2, _)] Try.func123 (by kernel_rfl) Try.ntmps123 Try.results123 rfl rfl (fun w0 => ?_)
  refine p_seq0 ?_
  refine p_plain0 (0 :: 1 :: []) ?_
  refine go_s0 (some 3) (.box 27 (.tmp 0)) 0 ?_
  refine os_boxA rfl rfl (fun b3 => ?_)
  refine go_s0 (some 6) (.alloc 35) 0 ?_
  refine os_allocA rfl ze35 (fun b6 => ?_)
  refine go_nil ?_
  change G _ _ _ _
  refine p_weaken [1, 2, 3, 6] rfl ?_
  refine p_seq0 ?_
  refine p_plain0 (0 :: 1 :: 2 :: 3 :: 4 :: []) ?_
  refine go_q0 7 (.load 27 (.tmp 3)) 27 (qv_load rfl .auto (ldv_agg agg27 (extw_Key _) (Nat.le_of_ble_eq_true rfl))) ?_
  refine go_q0 8 (.move (.tmp 1)) 30 (qv_move rfl) ?_
  refine go_q0 9 (.move (.tmp 2)) 30 (qv_move rfl) ?_
  refine go_q0 10 (.build 35 #[(0, .tmp 7), (1, .tmp 8), (2, .tmp 9), (3, .const (.int .u64 1)), (4, .const (.int .u64 2)), (6, .const (.int .u8 1))]) 35 (qv_build rfl (bld35_0_1_2_3_4_6 _ _ _ _ _ _)) ?_
  refine go_s0 none (.store 35 (.tmp 6) (.tmp 10)) 0 ?_
  refine os_store rfl rfl sz35 rfl (one_Rec _) .auto (Nat.le_of_ble_eq_true rfl) (splw_Rec _ _ (siz_Rec _)) ?_
  refine go_nil ?_
  change G _ _ _ _
  refine p_weaken [6] rfl ?_
  refine p_ret0 ?_
  try dsimp only [thenQ, inBlockQ]
  try rw [if_pos rfl]
  refine ret_now (.inr rfl) (.cons (res_cell rfl (At.mem .auto) (ldv_agg agg35 (extw_Rec _) (Nat.le_of_ble_eq_true rfl))) .nil) (by repeat constructor) ?_
  exact ⟨rfl, rfl⟩
def Parts.whole (P : Parts) : Bool := decide (P.forwarded = (((P.cached.plus P.volatile).plus P.durable).plus P.lost).plus P.credited)
theorem pu_Whole {P : Parts} (h : P.Wf) : Pu Try.prog 124 [.agg P.c] (.bool P.whole) := by
  have h1 := Tot.plus_ok (tot_ok h.cached_) (tot_ok h.volatile_)
  have h2 := Tot.plus_ok h1 (tot_ok h.durable_)
  have h3 := Tot.plus_ok h2 (tot_ok h.lost_)
  refine ct_body (rv := [.tmp 2]) [(0, _)] Try.func124 (by kernel_rfl) Try.ntmps124 Try.results124 rfl rfl (fun w0 => ?_)
  refine p_seq0 ?_
  refine p_plain0 (0 :: 1 :: []) ?_
  refine go_s0 (some 1) (.box 142 (.tmp 0)) 0 ?_
  refine os_boxA rfl rfl (fun b1 => ?_)
  refine go_q0 2 (.assign (.const (.bool false))) 4 (qv_assign rfl) ?_
  refine go_nil ?_
  change G _ _ _ _
  refine p_weaken [1, 2] rfl ?_
  refine p_seq0 ?_
  refine p_draw (by kernel_rfl) mixed 17 18 _ (fun _ h => h) (by kernel_rfl) ?_
  refine gd_all (0 :: 1 :: 2 :: 3 :: 4 :: 5 :: 6 :: 7 :: 8 :: 9 :: 10 :: 11 :: 12 :: 13 :: 14 :: 15 :: 16 :: []) _ rfl (by kernel_rfl) (by decide) (fun _ h => h) rfl ?_
  refine sq_q0 3 (.fieldAddr 142 (.tmp 1) 0) 0 (qv_field rfl fd142_0) ?_
  refine sq_q0 4 (.load 32 (.tmp 3)) 32 (qv_load rfl .auto (ldv_agg agg32 (ext_Parts_0_2 _) (Nat.le_of_ble_eq_true rfl))) ?_
  refine sq_q0 5 (.fieldAddr 142 (.tmp 1) 1) 0 (qv_field rfl fd142_1) ?_
  refine sq_q0 6 (.load 32 (.tmp 5)) 32 (qv_load rfl .auto (ldv_agg agg32 (ext_Parts_2_2 _) (Nat.le_of_ble_eq_true rfl))) ?_
  refine sq_q0 7 (.fieldAddr 142 (.tmp 1) 2) 0 (qv_field rfl fd142_2) ?_
  refine sq_q0 8 (.load 32 (.tmp 7)) 32 (qv_load rfl .auto (ldv_agg agg32 (ext_Parts_4_2 _) (Nat.le_of_ble_eq_true rfl))) ?_
  refine sq_p (d := 9) (op := .call { callee := .value (.func 19), args := #[.tmp 6, .tmp 8], argTypes := #[32, 32] }) (ty := 32) (g := none) (by kernel_rfl) trivial (pv_call en19 rfl (pu_Plus (tot_ok h.cached_) (tot_ok h.volatile_))) ?_
  refine sq_q0 10 (.fieldAddr 142 (.tmp 1) 3) 0 (qv_field rfl fd142_3) ?_
  refine sq_q0 11 (.load 32 (.tmp 10)) 32 (qv_load rfl .auto (ldv_agg agg32 (ext_Parts_6_2 _) (Nat.le_of_ble_eq_true rfl))) ?_
  refine sq_p (d := 12) (op := .call { callee := .value (.func 19), args := #[.tmp 9, .tmp 11], argTypes := #[32, 32] }) (ty := 32) (g := none) (by kernel_rfl) trivial (pv_call en19 rfl (pu_Plus h1 (tot_ok h.durable_))) ?_
  refine sq_q0 13 (.fieldAddr 142 (.tmp 1) 4) 0 (qv_field rfl fd142_4) ?_
  refine sq_q0 14 (.load 32 (.tmp 13)) 32 (qv_load rfl .auto (ldv_agg agg32 (ext_Parts_8_2 _) (Nat.le_of_ble_eq_true rfl))) ?_
  refine sq_p (d := 15) (op := .call { callee := .value (.func 19), args := #[.tmp 12, .tmp 14], argTypes := #[32, 32] }) (ty := 32) (g := none) (by kernel_rfl) trivial (pv_call en19 rfl (pu_Plus h2 (tot_ok h.lost_))) ?_
  refine sq_q0 16 (.fieldAddr 142 (.tmp 1) 5) 0 (qv_field rfl fd142_5) ?_
  refine sq_q0 17 (.load 32 (.tmp 16)) 32 (qv_load rfl .auto (ldv_agg agg32 (ext_Parts_10_2 _) (Nat.le_of_ble_eq_true rfl))) ?_
  refine sq_p (d := 18) (op := .call { callee := .value (.func 19), args := #[.tmp 15, .tmp 17], argTypes := #[32, 32] }) (ty := 32) (g := none) (by kernel_rfl) trivial (pv_call en19 rfl (pu_Plus h3 (tot_ok h.credited_))) ?_
  refine sq_q0 19 (.binOp .eql 32 (.tmp 4) (.tmp 18) 32) 4 (qv_eql_32 rfl rfl rfl) ?_
  refine SeqK.nil (fun β => ?_)
  refine gd_tail [17] rfl (by kernel_rfl) (by kernel_rfl) ?_
  refine go_q0 2 (.assign (.tmp 19)) 4 (qv_assign rfl) ?_
  refine go_nil ?_
  change G _ _ _ _
  refine p_weaken [2] rfl ?_
  refine p_ret0 ?_
  try dsimp only [thenQ, inBlockQ]
  try rw [if_pos rfl]
  refine ret_now (.inr rfl) (.cons (res_tmp rfl) .nil) (by repeat constructor) ?_
  exact ⟨rfl, rfl⟩
theorem Moved.mem {es es' : List EntR} (h : Moved es es') {e' : EntR} (he : e' ∈ es') : ∃ e ∈ es, e' = { e with p := e'.p, cap := e'.cap } := by
  obtain ⟨j, hj⟩ := List.mem_iff_getElem?.1 he
  have hjl := (List.getElem?_eq_some_iff.1 hj).1
  obtain ⟨e, hx⟩ : ∃ e, es[j]? = some e := ⟨_, List.getElem?_eq_getElem (by rw [← h.1]; exact hjl)⟩
  exact ⟨e, List.mem_of_getElem? hx, h.2 j e e' hx hj⟩
theorem MI.moved {S : MS} (h : MI S) {es' : List EntR} (hm : Moved S.es es') : MI { S with es := es' } :=
  { h with
    ew := fun e he => by
      obtain ⟨a, ha, hx⟩ := hm.mem he
      rw [hx]
      exact ⟨(h.ew a ha).ep, (h.ew a ha).nn, (h.ew a ha).rw, (h.ew a ha).rl⟩
    en := by show es'.length ≤ 1000; rw [hm.1]; exact h.en
    ln := by show S.line.length ≤ es'.length; rw [hm.1]; exact h.ln
    li := fun i hi => by show i < es'.length; rw [hm.1]; exact h.li i hi }
theorem ct_MCopy {bm : Nat} {S : MS} {M : Mem} (hM : ModM bm S M) :
    Ct Try.prog 79 [.pointer (some ⟨bm, 0, none⟩)].toArray M (fun v M' => ∃ bm' es' N, v = .pointer (some ⟨bm', 0, none⟩) ∧ Moved S.es es' ∧ ModM bm' { S with es := es' } N ∧ M' = N ++ M) := by
  have hM0 := hM
  obtain ⟨bf, bc, bl, pe, ce, pl, cl, Ae, Al, Ar, hI, hE, hL, hA, rfl⟩ := hM
  have hen := hI.en
  have hln := hI.ln
  have hll := lnI_len S.line
  refine ct_body (rv := [.tmp 2]) [(0, _)] Try.func79 (by kernel_rfl) Try.ntmps79 Try.results79 rfl rfl (fun w0 => ?_)
  refine p_seq0 ?_
  refine p_plain0 (0 :: []) ?_
  refine go_q0 2 (.assign (.const (.pointer none))) 131 (qv_assign rfl) ?_
  refine go_nil ?_
  change G _ _ _ _
  refine p_seq0 ?_
  refine p_seq0 ?_
  refine p_plain0 (0 :: 1 :: []) ?_
  refine go_q0 3 (.move (.tmp 0)) 131 (qv_move rfl) ?_
  refine go_q0 4 (.binOp .eql 131 (.tmp 3) (.const (.pointer none)) 131) 4 (qv_eqlP un131 rfl) ?_
  refine go_nil ?_
  change G _ _ _ _
  refine p_weaken [0, 2, 4] rfl ?_
  refine p_condF (.tmp 4) (by kernel_rfl) rfl ?_
  refine p_skip0 ?_
  change G _ _ _ _
  refine p_weaken [0, 2] rfl ?_
  refine p_seq0 ?_
  refine p_draw (by kernel_rfl) mixed 32 33 [modO bm bf bc bl pe S.es.length ce pl S.line.length cl S.first S.boot] (by first | (simp; done) | (intro q hq; simp [hq]; done)) (by kernel_rfl) ?_
  refine gd_q (i := 0) (d := 5) (op := .move (.tmp 0)) (ty := 131) (g := none) (by kernel_rfl) trivial rfl (by kernel_rfl) (by kernel_rfl) (by kernel_rfl) (by kernel_rfl) (qv_move rfl) ?_
  refine gd_q (i := 1) (d := 6) (op := .nilCheck (.tmp 5)) (ty := 0) (g := none) (by kernel_rfl) trivial rfl (by kernel_rfl) (by kernel_rfl) (by kernel_rfl) (by kernel_rfl) (qv_nilCheck rfl) ?_
  refine gd_q (i := 2) (d := 7) (op := .fieldAddr 207 (.tmp 6) 0) (ty := 0) (g := none) (by kernel_rfl) trivial rfl (by kernel_rfl) (by kernel_rfl) (by kernel_rfl) (by kernel_rfl) (qv_field rfl fd207_0) ?_
  refine gd_q (i := 3) (d := 8) (op := .load 205 (.tmp 7)) (ty := 205) (g := none) (by kernel_rfl) trivial rfl (by kernel_rfl) (by kernel_rfl) (by kernel_rfl) (by kernel_rfl) (qv_load rfl .auto (ldv_sca sc205 (get_Mod_0 _))) ?_
  refine gd_q (i := 5) (d := 10) (op := .move (.tmp 0)) (ty := 131) (g := none) (by kernel_rfl) trivial rfl (by kernel_rfl) (by kernel_rfl) (by kernel_rfl) (by kernel_rfl) (qv_move rfl) ?_
  refine gd_q (i := 6) (d := 11) (op := .nilCheck (.tmp 10)) (ty := 0) (g := none) (by kernel_rfl) trivial rfl (by kernel_rfl) (by kernel_rfl) (by kernel_rfl) (by kernel_rfl) (qv_nilCheck rfl) ?_
  refine gd_q (i := 7) (d := 12) (op := .fieldAddr 207 (.tmp 11) 1) (ty := 0) (g := none) (by kernel_rfl) trivial rfl (by kernel_rfl) (by kernel_rfl) (by kernel_rfl) (by kernel_rfl) (qv_field rfl fd207_1) ?_
  refine gd_q (i := 8) (d := 13) (op := .load 205 (.tmp 12)) (ty := 205) (g := none) (by kernel_rfl) trivial rfl (by kernel_rfl) (by kernel_rfl) (by kernel_rfl) (by kernel_rfl) (qv_load rfl .auto (ldv_sca sc205 (get_Mod_1 _))) ?_
  refine gd_q (i := 10) (d := 15) (op := .move (.tmp 0)) (ty := 131) (g := none) (by kernel_rfl) trivial rfl (by kernel_rfl) (by kernel_rfl) (by kernel_rfl) (by kernel_rfl) (qv_move rfl) ?_
  refine gd_q (i := 11) (d := 16) (op := .nilCheck (.tmp 15)) (ty := 0) (g := none) (by kernel_rfl) trivial rfl (by kernel_rfl) (by kernel_rfl) (by kernel_rfl) (by kernel_rfl) (qv_nilCheck rfl) ?_
  refine gd_q (i := 12) (d := 17) (op := .fieldAddr 207 (.tmp 16) 2) (ty := 0) (g := none) (by kernel_rfl) trivial rfl (by kernel_rfl) (by kernel_rfl) (by kernel_rfl) (by kernel_rfl) (qv_field rfl fd207_2) ?_
  refine gd_q (i := 13) (d := 18) (op := .load 205 (.tmp 17)) (ty := 205) (g := none) (by kernel_rfl) trivial rfl (by kernel_rfl) (by kernel_rfl) (by kernel_rfl) (by kernel_rfl) (qv_load rfl .auto (ldv_sca sc205 (get_Mod_2 _))) ?_
  refine gd_q (i := 15) (d := 20) (op := .move (.tmp 0)) (ty := 131) (g := none) (by kernel_rfl) trivial rfl (by kernel_rfl) (by kernel_rfl) (by kernel_rfl) (by kernel_rfl) (qv_move rfl) ?_
  refine gd_q (i := 17) (d := 22) (op := .move (.tmp 0)) (ty := 131) (g := none) (by kernel_rfl) trivial rfl (by kernel_rfl) (by kernel_rfl) (by kernel_rfl) (by kernel_rfl) (qv_move rfl) ?_
  refine gd_q (i := 18) (d := 23) (op := .nilCheck (.tmp 22)) (ty := 0) (g := none) (by kernel_rfl) trivial rfl (by kernel_rfl) (by kernel_rfl) (by kernel_rfl) (by kernel_rfl) (qv_nilCheck rfl) ?_
  refine gd_q (i := 19) (d := 24) (op := .fieldAddr 207 (.tmp 23) 4) (ty := 0) (g := none) (by kernel_rfl) trivial rfl (by kernel_rfl) (by kernel_rfl) (by kernel_rfl) (by kernel_rfl) (qv_field rfl fd207_4) ?_
  refine gd_q (i := 20) (d := 25) (op := .load 89 (.tmp 24)) (ty := 89) (g := none) (by kernel_rfl) trivial rfl (by kernel_rfl) (by kernel_rfl) (by kernel_rfl) (by kernel_rfl) (qv_load rfl .auto (ldv_sca sc89 (get_Mod_4 _))) ?_
  refine gd_q (i := 22) (d := 27) (op := .move (.tmp 0)) (ty := 131) (g := none) (by kernel_rfl) trivial rfl (by kernel_rfl) (by kernel_rfl) (by kernel_rfl) (by kernel_rfl) (qv_move rfl) ?_
  refine gd_q (i := 23) (d := 28) (op := .nilCheck (.tmp 27)) (ty := 0) (g := none) (by kernel_rfl) trivial rfl (by kernel_rfl) (by kernel_rfl) (by kernel_rfl) (by kernel_rfl) (qv_nilCheck rfl) ?_
  refine gd_q (i := 24) (d := 29) (op := .fieldAddr 207 (.tmp 28) 5) (ty := 0) (g := none) (by kernel_rfl) trivial rfl (by kernel_rfl) (by kernel_rfl) (by kernel_rfl) (by kernel_rfl) (qv_field rfl fd207_5) ?_
  refine gd_q (i := 25) (d := 30) (op := .load 30 (.tmp 29)) (ty := 30) (g := none) (by kernel_rfl) trivial rfl (by kernel_rfl) (by kernel_rfl) (by kernel_rfl) (by kernel_rfl) (qv_load rfl .auto (ldv_sca sc30 (get_Mod_5 _))) ?_
  refine gd_q (i := 26) (d := 31) (op := .move (.tmp 0)) (ty := 131) (g := none) (by kernel_rfl) trivial rfl (by kernel_rfl) (by kernel_rfl) (by kernel_rfl) (by kernel_rfl) (qv_move rfl) ?_
  refine gd_q (i := 27) (d := 32) (op := .nilCheck (.tmp 31)) (ty := 0) (g := none) (by kernel_rfl) trivial rfl (by kernel_rfl) (by kernel_rfl) (by kernel_rfl) (by kernel_rfl) (qv_nilCheck rfl) ?_
  refine gd_q (i := 28) (d := 33) (op := .fieldAddr 207 (.tmp 32) 6) (ty := 0) (g := none) (by kernel_rfl) trivial rfl (by kernel_rfl) (by kernel_rfl) (by kernel_rfl) (by kernel_rfl) (qv_field rfl fd207_6) ?_
  refine gd_q (i := 29) (d := 34) (op := .load 77 (.tmp 33)) (ty := 77) (g := none) (by kernel_rfl) trivial rfl (by kernel_rfl) (by kernel_rfl) (by kernel_rfl) (by kernel_rfl) (qv_load rfl .auto (ldv_sca sc77 (get_Mod_6 _))) ?_
  refine gd_one (i := 4) (d := some 9) (op := .call { callee := .value (.func 137), args := #[.tmp 8], argTypes := #[205] }) (ty := 205) (g := none) (by kernel_rfl) trivial rfl (by kernel_rfl) ?_
  refine os_call (Nat.le_of_ble_eq_true rfl) en137 rfl .auto (ct_cloneT) ?_
  rintro v9 A9 ⟨b1, rfl, rfl⟩
  try dsimp only [List.nil_append, List.cons_append]
  refine ⟨fun _ h => by first | exact h | (cases h; done) | exact .tail _ h | exact .tail _ (.tail _ h) | exact List.mem_append_right _ (List.mem_append_right _ h) | exact List.mem_append_right _ h | (simp only [List.mem_cons, List.not_mem_nil, or_false] at h ⊢; first | exact .inl h | exact .inr (.inl h) | exact .inr (.inr (.inl h)) | exact .inr (.inr (.inr (.inl h))) | (subst h; simp; done) | grind), ?_⟩
  refine gd_one (i := 9) (d := some 14) (op := .call { callee := .value (.func 137), args := #[.tmp 13], argTypes := #[205] }) (ty := 205) (g := none) (by kernel_rfl) trivial rfl (by kernel_rfl) ?_
  refine os_call (Nat.le_of_ble_eq_true rfl) en137 rfl .auto (ct_cloneT) ?_
  rintro v14 A14 ⟨b2, rfl, rfl⟩
  try dsimp only [List.nil_append, List.cons_append]
  refine ⟨fun _ h => by first | exact h | (cases h; done) | exact .tail _ h | exact .tail _ (.tail _ h) | exact List.mem_append_right _ (List.mem_append_right _ h) | exact List.mem_append_right _ h | (simp only [List.mem_cons, List.not_mem_nil, or_false] at h ⊢; first | exact .inl h | exact .inr (.inl h) | exact .inr (.inr (.inl h)) | exact .inr (.inr (.inr (.inl h))) | (subst h; simp; done) | grind), ?_⟩
  refine gd_one (i := 14) (d := some 19) (op := .call { callee := .value (.func 137), args := #[.tmp 18], argTypes := #[205] }) (ty := 205) (g := none) (by kernel_rfl) trivial rfl (by kernel_rfl) ?_
  refine os_call (Nat.le_of_ble_eq_true rfl) en137 rfl .auto (ct_cloneT) ?_
  rintro v19 A19 ⟨b3, rfl, rfl⟩
  try dsimp only [List.nil_append, List.cons_append]
  refine ⟨fun _ h => by first | exact h | (cases h; done) | exact .tail _ h | exact .tail _ (.tail _ h) | exact List.mem_append_right _ (List.mem_append_right _ h) | exact List.mem_append_right _ h | (simp only [List.mem_cons, List.not_mem_nil, or_false] at h ⊢; first | exact .inl h | exact .inr (.inl h) | exact .inr (.inr (.inl h)) | exact .inr (.inr (.inr (.inl h))) | (subst h; simp; done) | grind), ?_⟩
  refine gd_one (i := 16) (d := some 21) (op := .call { callee := .value (.func 74), args := #[.tmp 20], argTypes := #[131] }) (ty := 136) (g := none) (by kernel_rfl) trivial rfl (by kernel_rfl) ?_
  refine os_call (Nat.le_of_ble_eq_true rfl) en74 rfl (.auto) (ct_MEntries hM0) ?_
  rintro v21 A21 ⟨es', q, cq, A, B, hmv, rfl, hO, hB, rfl⟩
  try dsimp only [List.nil_append, List.cons_append]
  simp only [List.append_assoc, List.cons_append, List.nil_append]
  refine ⟨fun _ h => by first | exact h | (cases h; done) | exact .tail _ h | exact .tail _ (.tail _ h) | exact List.mem_append_right _ (List.mem_append_right _ h) | exact List.mem_append_right _ h | (simp only [List.mem_cons, List.not_mem_nil, or_false] at h ⊢; first | exact .inl h | exact .inr (.inl h) | exact .inr (.inr (.inl h)) | exact .inr (.inr (.inr (.inl h))) | (subst h; simp; done) | grind), ?_⟩
  refine gd_one (i := 21) (d := some 26) (op := .call { callee := .value (.func 138), args := #[.tmp 25], argTypes := #[89] }) (ty := 89) (g := none) (by kernel_rfl) trivial rfl (by kernel_rfl) ?_
  refine os_call (Nat.le_of_ble_eq_true rfl) en138 rfl (Sel.skipA (Sel.skipA (Sel.skip (Sel.skip (Sel.skip (Sel.skip (Sel.skipA Sel.app))))))) (ct_cloneI hL.lst (lnI_len _).symm (by omega)) ?_
  rintro v26 A26 ⟨p5, c5, A5, rfl, h5, rfl⟩
  try dsimp only [List.nil_append, List.cons_append]
  refine ⟨fun _ h => by first | exact h | (cases h; done) | exact .tail _ h | exact .tail _ (.tail _ h) | exact List.mem_append_right _ (List.mem_append_right _ h) | exact List.mem_append_right _ h | (simp only [List.mem_cons, List.not_mem_nil, or_false] at h ⊢; first | exact .inl h | exact .inr (.inl h) | exact .inr (.inr (.inl h)) | exact .inr (.inr (.inr (.inl h))) | (subst h; simp; done) | grind), ?_⟩
  refine gd_q (i := 30) (d := 35) (op := .build 207 #[(0, .tmp 9), (1, .tmp 14), (2, .tmp 19), (3, .tmp 21), (4, .tmp 26), (5, .tmp 30), (6, .tmp 34)]) (ty := 207) (g := none) (by kernel_rfl) trivial rfl (by kernel_rfl) (by kernel_rfl) (by kernel_rfl) (by kernel_rfl) (qv_build rfl (bld207_0_1_2_3_4_5_6 _ _ _ _ _ _ _ _ _ _ _)) ?_
  refine gd_one (i := 31) (d := some 36) (op := .box 207 (.tmp 35)) (ty := 131) (g := none) (by kernel_rfl) trivial rfl (by kernel_rfl) ?_
  refine os_boxA rfl rfl (fun b36 => ?_)
  refine ⟨fun _ h => by first | exact h | (cases h; done) | exact .tail _ h | exact .tail _ (.tail _ h) | exact List.mem_append_right _ (List.mem_append_right _ h) | exact List.mem_append_right _ h | (simp only [List.mem_cons, List.not_mem_nil, or_false] at h ⊢; first | exact .inl h | exact .inr (.inl h) | exact .inr (.inr (.inl h)) | exact .inr (.inr (.inr (.inl h))) | (subst h; simp; done) | grind), ?_⟩
  refine gd_tail [32] rfl (by kernel_rfl) (by kernel_rfl) ?_
  refine go_q0 2 (.assign (.tmp 36)) 131 (qv_assign rfl) ?_
  refine go_nil ?_
  change G _ _ _ _
  refine p_weaken [2] rfl ?_
  refine p_ret0 ?_
  try dsimp only [thenQ, inBlockQ]
  try rw [if_pos rfl]
  refine ret_left (((b36, .cells (⟨.map (some b1), .map (some b2), .map (some b3), .slice q es'.length cq, .slice p5 (lnI S.line).length c5, S.first, S.boot⟩ : Mod).c 207 (0, 0)) :: mapO b1 S.fw S.fc :: mapO b2 S.ca S.cc :: mapO b3 S.lo S.lc :: (A ++ (A5 ++ B))) ++ (modO bm bf bc bl pe S.es.length ce pl S.line.length cl S.first S.boot :: mapO bf S.fw S.fc :: mapO bc S.ca S.cc :: mapO bl S.lo S.lc :: (Ae ++ (Al ++ Ar)))) (.inr rfl) (.cons (res_tmp rfl) .nil) .auto ?_
  exact ⟨b36, es', _, rfl, hmv, ⟨b1, b2, b3, q, cq, p5, c5, A, A5, B, hI.moved hmv, hO, h5, hB, by rw [lnI_len]; rfl⟩, rfl⟩
end Go.Proofs.Ytobmcpoejhhemaa
