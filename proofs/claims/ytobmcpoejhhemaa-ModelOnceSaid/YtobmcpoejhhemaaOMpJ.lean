import Derived.Test.YtobmcpoejhhemaaOMpI
namespace Go.Proofs.Ytobmcpoejhhemaa
open Go.E

def stepT : Array Value := #[.nilFunc, .func (.func 125) #[] #[], .func (.func 126) #[] #[], .func (.func 127) #[] #[], .func (.func 128) #[] #[], .func (.func 129) #[] #[], .func (.func 130) #[] #[], .func (.func 131) #[] #[]]
theorem ze209 : Zer Try.prog 209 (.agg #[.nilFunc, .nilFunc, .nilFunc, .nilFunc, .nilFunc, .nilFunc, .nilFunc, .nilFunc]) := fun _ => by kernel_rfl
theorem sc208 : Sca Try.prog 208 := fun _ => by kernel_rfl
theorem sz208 : Siz Try.prog 208 1 := fun _ => by kernel_rfl
theorem stepT_one : ∀ u ∈ stepT.toList, u.oneCell' = true := by decide
def errV (ok : Bool) : Value := .int .i64 (if ok = true then 0 else 2)
theorem ct_MStepK {bm k : Nat} {M : Mem} {nt : NoteR} {f : FuncId} {Q : Bool → Mem → Prop} (hk : nt.kind = (k : Int)) (h1 : 1 ≤ k) (h8 : k < 8) (hfn : stepT[k]? = some (.func (.func f) #[] #[])) (hg : Ent Try.prog f)
    (hc : Ct Try.prog f [.pointer (some ⟨bm, 0, none⟩), .agg nt.x.c].toArray M (fun v M' => ∃ ok, v = .bool ok ∧ Q ok M')) :
    Ct Try.prog 73 [.pointer (some ⟨bm, 0, none⟩), .agg nt.x.c].toArray M (fun v M' => ∃ ok, v = errV ok ∧ Q ok M') := by
  have hxk : nt.x.kind = (k : Int) := hk
  refine ct_body (rv := [.tmp 4]) [(0, _), (1, _)] Try.func73 (by kernel_rfl) Try.ntmps73 Try.results73 rfl rfl (fun w0 => ?_)
  refine p_seq0 ?_
  refine p_plain0 (0 :: 1 :: []) ?_
  refine go_s0 (some 3) (.box 135 (.tmp 1)) 0 ?_
  refine os_boxA rfl rfl (fun b3 => ?_)
  refine go_q0 4 (.assign (.const (.int .i64 0))) 61 (qv_assign rfl) ?_
  refine go_nil ?_
  change G _ _ _ _
  refine p_weaken [0, 3, 4] rfl ?_
  refine p_seq0 ?_
  refine p_seq0 ?_
  refine p_plain0 (0 :: 1 :: []) ?_
  refine go_q0 6 (.move (.tmp 0)) 131 (qv_move rfl) ?_
  refine go_q0 7 (.binOp .eql 131 (.tmp 6) (.const (.pointer none)) 131) 4 (qv_eqlP un131 rfl) ?_
  refine go_nil ?_
  change G _ _ _ _
  refine p_weaken [0, 3, 4, 7] rfl ?_
  refine p_condF (.tmp 7) (by kernel_rfl) rfl ?_
  refine p_skip0 ?_
  change G _ _ _ _
  refine p_weaken [0, 3, 4] rfl ?_
  refine p_seq0 ?_
  refine p_plain0 (0 :: 1 :: 2 :: []) ?_
  refine go_q0 8 (.build 209 #[(1, .func 125), (2, .func 126), (3, .func 127), (4, .func 128), (5, .func 129), (6, .func 130), (7, .func 131)]) 209 (qv_build (v := .agg stepT) rfl (fun w => by kernel_rfl)) ?_
  refine go_s0 (some 5) (.alloc 209) 0 ?_
  refine os_allocA rfl ze209 (fun b5 => ?_)
  refine go_s0 none (.store 209 (.tmp 5) (.tmp 8)) 0 ?_
  refine os_store (cs' := stepT) rfl rfl sz209 rfl stepT_one .auto (Nat.le_of_ble_eq_true rfl) (by kernel_rfl) ?_
  refine go_nil ?_
  change G _ _ _ _
  refine p_weaken [0, 3, 4, 5] rfl ?_
  refine p_seq0 ?_
  refine p_seq0 ?_
  refine p_draw (by kernel_rfl) mixed 18 18 [(b5, .cells stepT 209 (0, 0)), (b3, .cells nt.x.c 135 (0, 0))] (by first | (simp; done) | (intro q hq; simp [hq]; done)) (by kernel_rfl) ?_
  refine gd_q (i := 0) (d := 9) (op := .fieldAddr 135 (.tmp 3) 0) (ty := 0) (g := none) (by kernel_rfl) trivial rfl (by kernel_rfl) (by kernel_rfl) (by kernel_rfl) (by kernel_rfl) (qv_field rfl fd135_0) ?_
  refine gd_q (i := 1) (d := 10) (op := .load 3 (.tmp 9)) (ty := 3) (g := none) (by kernel_rfl) trivial rfl (by kernel_rfl) (by kernel_rfl) (by kernel_rfl) (by kernel_rfl) (qv_load rfl .auto (ldv_sca sc3 (get_Note_0 _))) ?_
  refine gd_q (i := 2) (d := 11) (op := .binOp .lss 3 (.tmp 10) (.const (.int .i64 1)) 3) (ty := 4) (g := none) (by kernel_rfl) trivial rfl (by kernel_rfl) (by kernel_rfl) (by kernel_rfl) (by kernel_rfl) (qv_lss rfl rfl rfl) ?_
  refine gd_q (i := 3) (d := 12) (op := .move (.tmp 11)) (ty := 4) (g := none) (by kernel_rfl) trivial rfl (by kernel_rfl) (by kernel_rfl) (by kernel_rfl) (by kernel_rfl) (qv_move rfl) ?_
  refine gd_case (d := 12) rfl (fun g12 => ?_) (fun g12 => ?_)
  · replace g12 := kn g12
    exfalso; omega
  replace g12 := kn g12
  refine gd_q (i := 4) (d := 13) (op := .fieldAddr 135 (.tmp 3) 0) (ty := 0) (g := some (3, false)) (by kernel_rfl) ⟨12, by kernel_rfl, rfl⟩ rfl (by kernel_rfl) (by kernel_rfl) (by kernel_rfl) (by kernel_rfl) (qv_field rfl fd135_0) ?_
  refine gd_q (i := 5) (d := 14) (op := .load 3 (.tmp 13)) (ty := 3) (g := some (3, false)) (by kernel_rfl) ⟨12, by kernel_rfl, rfl⟩ rfl (by kernel_rfl) (by kernel_rfl) (by kernel_rfl) (by kernel_rfl) (qv_load rfl .auto (ldv_sca sc3 (get_Note_0 _))) ?_
  refine gd_q (i := 6) (d := 15) (op := .binOp .geq 3 (.tmp 14) (.const (.int .i64 8)) 3) (ty := 4) (g := some (3, false)) (by kernel_rfl) ⟨12, by kernel_rfl, rfl⟩ rfl (by kernel_rfl) (by kernel_rfl) (by kernel_rfl) (by kernel_rfl) (qv_geq rfl rfl rfl) ?_
  refine gd_q (i := 7) (d := 16) (op := .pick (.tmp 12) (.const (.bool true)) (.tmp 15)) (ty := 4) (g := none) (by kernel_rfl) trivial rfl (by kernel_rfl) (by kernel_rfl) (by kernel_rfl) (by kernel_rfl) (qv_pick_f rfl rfl) ?_
  refine gd_q (i := 8) (d := 17) (op := .move (.tmp 16)) (ty := 4) (g := none) (by kernel_rfl) trivial rfl (by kernel_rfl) (by kernel_rfl) (by kernel_rfl) (by kernel_rfl) (qv_move rfl) ?_
  refine gd_case (d := 17) rfl (fun g17 => ?_) (fun g17 => ?_)
  · replace g17 := kn g17
    exfalso; omega
  replace g17 := kn g17
  refine gd_q (i := 9) (d := 18) (op := .fieldAddr 135 (.tmp 3) 0) (ty := 0) (g := some (8, false)) (by kernel_rfl) ⟨17, by kernel_rfl, rfl⟩ rfl (by kernel_rfl) (by kernel_rfl) (by kernel_rfl) (by kernel_rfl) (qv_field rfl fd135_0) ?_
  refine gd_q (i := 10) (d := 19) (op := .load 3 (.tmp 18)) (ty := 3) (g := some (8, false)) (by kernel_rfl) ⟨17, by kernel_rfl, rfl⟩ rfl (by kernel_rfl) (by kernel_rfl) (by kernel_rfl) (by kernel_rfl) (qv_load rfl .auto (ldv_sca sc3 (get_Note_0 _))) ?_
  refine gd_q (i := 11) (d := 20) (op := .indexAddr 209 (.tmp 5) (.tmp 19)) (ty := 0) (g := some (8, false)) (by kernel_rfl) ⟨17, by kernel_rfl, rfl⟩ rfl (by kernel_rfl) (by kernel_rfl) (by kernel_rfl) (by kernel_rfl) (qv_indexA un209 sz208 rfl rfl hxk h8) ?_
  refine gd_q (i := 12) (d := 21) (op := .load 208 (.tmp 20)) (ty := 208) (g := some (8, false)) (by kernel_rfl) ⟨17, by kernel_rfl, rfl⟩ rfl (by kernel_rfl) (by kernel_rfl) (by kernel_rfl) (by kernel_rfl) (qv_load rfl .auto (ldv_sca sc208 (by rw [Nat.zero_add, Nat.mul_one]; exact hfn))) ?_
  refine gd_q (i := 13) (d := 22) (op := .move (.tmp 0)) (ty := 131) (g := some (8, false)) (by kernel_rfl) ⟨17, by kernel_rfl, rfl⟩ rfl (by kernel_rfl) (by kernel_rfl) (by kernel_rfl) (by kernel_rfl) (qv_move rfl) ?_
  refine gd_q (i := 14) (d := 23) (op := .load 135 (.tmp 3)) (ty := 135) (g := some (8, false)) (by kernel_rfl) ⟨17, by kernel_rfl, rfl⟩ rfl (by kernel_rfl) (by kernel_rfl) (by kernel_rfl) (by kernel_rfl) (qv_load rfl .auto (ldv_agg agg135 (extw_Note _) (Nat.le_of_ble_eq_true rfl))) ?_
  refine gd_one (i := 15) (d := some 24) (op := .call { callee := .value (.tmp 21), args := #[.tmp 22, .tmp 23], argTypes := #[131, 135] }) (ty := 4) (g := some (8, false)) (by kernel_rfl) ⟨17, by kernel_rfl, rfl⟩ rfl (by kernel_rfl) ?_
  refine os_callV (Nat.le_of_ble_eq_true rfl) rfl hg rfl rfl (Sel.skip (Sel.skip Sel.all)) hc (fun v A' hv => ?_)
  obtain ⟨ok, rfl, hQ⟩ := hv
  refine ⟨fun _ h => by first | exact h | (cases h; done) | exact .tail _ h | exact .tail _ (.tail _ h) | exact List.mem_append_right _ (List.mem_append_right _ h) | exact List.mem_append_right _ h | (simp only [List.mem_cons, List.not_mem_nil, or_false] at h ⊢; first | exact .inl h | exact .inr (.inl h) | exact .inr (.inr (.inl h)) | exact .inr (.inr (.inr (.inl h))) | (subst h; simp; done) | grind), ?_⟩
  refine gd_q (i := 16) (d := 25) (op := .unOp .not 4 (.tmp 24)) (ty := 4) (g := some (8, false)) (by kernel_rfl) ⟨17, by kernel_rfl, rfl⟩ rfl (by kernel_rfl) (by kernel_rfl) (by kernel_rfl) (by kernel_rfl) (qv_not rfl) ?_
  refine gd_q (i := 17) (d := 26) (op := .pick (.tmp 17) (.const (.bool true)) (.tmp 25)) (ty := 4) (g := none) (by kernel_rfl) trivial rfl (by kernel_rfl) (by kernel_rfl) (by kernel_rfl) (by kernel_rfl) (qv_pick_f rfl rfl) ?_
  refine gd_tail [] rfl (by kernel_rfl) (by kernel_rfl) ?_
  refine go_nil ?_
  change G _ _ _ _
  refine p_weaken [4, 26] rfl ?_
  refine p_cond (.tmp 26) (by kernel_rfl) rfl (fun h26 => ?_) (fun h26 => ?_)
  · replace h26 := kn h26
    refine p_seq0 ?_
    refine p_plain0 (0 :: []) ?_
    refine go_q0 4 (.assign (.const (.int .i64 2))) 61 (qv_assign rfl) ?_
    refine go_nil ?_
    change G _ _ _ _
    refine p_weaken [4] rfl ?_
    refine p_ret0 ?_
    try dsimp only [thenQ, inBlockQ]
    try rw [if_pos rfl]
    refine ret_left (A') (.inr rfl) (.cons (res_tmp rfl) .nil) .auto ?_
    exact ⟨ok, by simp [*, errV, E.valOf], hQ⟩
  replace h26 := kn h26
  refine p_skip0 ?_
  change G _ _ _ _
  refine p_weaken [4] rfl ?_
  refine p_seq0 ?_
  refine p_plain0 (0 :: []) ?_
  refine go_q0 4 (.assign (.const (.int .i64 0))) 61 (qv_assign rfl) ?_
  refine go_nil ?_
  change G _ _ _ _
  refine p_ret0 ?_
  try dsimp only [thenQ, inBlockQ]
  try rw [if_pos rfl]
  refine ret_left (A') (.inr rfl) (.cons (res_tmp rfl) .nil) .auto ?_
  exact ⟨ok, by simp [*, errV, E.valOf], hQ⟩
theorem ct_MStepBad {bm : Nat} {M : Mem} {nt : NoteR} (hk : nt.kind < 1 ∨ 8 ≤ nt.kind) :
    Ct Try.prog 73 [.pointer (some ⟨bm, 0, none⟩), .agg nt.x.c].toArray M (fun v M' => v = .int .i64 2 ∧ M' = M) := by
  have hxk : nt.x.kind = nt.kind := rfl
  refine ct_body (rv := [.tmp 4]) [(0, _), (1, _)] Try.func73 (by kernel_rfl) Try.ntmps73 Try.results73 rfl rfl (fun w0 => ?_)
  refine p_seq0 ?_
  refine p_plain0 (0 :: 1 :: []) ?_
  refine go_s0 (some 3) (.box 135 (.tmp 1)) 0 ?_
  refine os_boxA rfl rfl (fun b3 => ?_)
  refine go_q0 4 (.assign (.const (.int .i64 0))) 61 (qv_assign rfl) ?_
  refine go_nil ?_
  change G _ _ _ _
  refine p_weaken [0, 3, 4] rfl ?_
  refine p_seq0 ?_
  refine p_seq0 ?_
  refine p_plain0 (0 :: 1 :: []) ?_
  refine go_q0 6 (.move (.tmp 0)) 131 (qv_move rfl) ?_
  refine go_q0 7 (.binOp .eql 131 (.tmp 6) (.const (.pointer none)) 131) 4 (qv_eqlP un131 rfl) ?_
  refine go_nil ?_
  change G _ _ _ _
  refine p_weaken [0, 3, 4, 7] rfl ?_
  refine p_condF (.tmp 7) (by kernel_rfl) rfl ?_
  refine p_skip0 ?_
  change G _ _ _ _
  refine p_weaken [0, 3, 4] rfl ?_
  refine p_seq0 ?_
  refine p_plain0 (0 :: 1 :: 2 :: []) ?_
  refine go_q0 8 (.build 209 #[(1, .func 125), (2, .func 126), (3, .func 127), (4, .func 128), (5, .func 129), (6, .func 130), (7, .func 131)]) 209 (qv_build (v := .agg stepT) rfl (fun w => by kernel_rfl)) ?_
  refine go_s0 (some 5) (.alloc 209) 0 ?_
  refine os_allocA rfl ze209 (fun b5 => ?_)
  refine go_s0 none (.store 209 (.tmp 5) (.tmp 8)) 0 ?_
  refine os_store (cs' := stepT) rfl rfl sz209 rfl stepT_one .auto (Nat.le_of_ble_eq_true rfl) (by kernel_rfl) ?_
  refine go_nil ?_
  change G _ _ _ _
  refine p_weaken [0, 3, 4, 5] rfl ?_
  refine p_seq0 ?_
  refine p_seq0 ?_
  refine p_draw (by kernel_rfl) mixed 18 18 _ (fun _ h => h) (by kernel_rfl) ?_
  refine gd_q (i := 0) (d := 9) (op := .fieldAddr 135 (.tmp 3) 0) (ty := 0) (g := none) (by kernel_rfl) trivial rfl (by kernel_rfl) (by kernel_rfl) (by kernel_rfl) (by kernel_rfl) (qv_field rfl fd135_0) ?_
  refine gd_q (i := 1) (d := 10) (op := .load 3 (.tmp 9)) (ty := 3) (g := none) (by kernel_rfl) trivial rfl (by kernel_rfl) (by kernel_rfl) (by kernel_rfl) (by kernel_rfl) (qv_load rfl .auto (ldv_sca sc3 (get_Note_0 _))) ?_
  refine gd_q (i := 2) (d := 11) (op := .binOp .lss 3 (.tmp 10) (.const (.int .i64 1)) 3) (ty := 4) (g := none) (by kernel_rfl) trivial rfl (by kernel_rfl) (by kernel_rfl) (by kernel_rfl) (by kernel_rfl) (qv_lss rfl rfl rfl) ?_
  refine gd_q (i := 3) (d := 12) (op := .move (.tmp 11)) (ty := 4) (g := none) (by kernel_rfl) trivial rfl (by kernel_rfl) (by kernel_rfl) (by kernel_rfl) (by kernel_rfl) (qv_move rfl) ?_
  refine gd_case (d := 12) rfl (fun g12 => ?_) (fun g12 => ?_)
  · replace g12 := kn g12
    refine gd_n (i := 4) (d := 13) (op := .fieldAddr 135 (.tmp 3) 0) (ty := 0) (g := some (3, false)) (by kernel_rfl) ⟨12, _, by kernel_rfl, rfl, rfl⟩ rfl (by kernel_rfl) (by kernel_rfl) (by kernel_rfl) (by kernel_rfl) ?_
    refine gd_n (i := 5) (d := 14) (op := .load 3 (.tmp 13)) (ty := 3) (g := some (3, false)) (by kernel_rfl) ⟨12, _, by kernel_rfl, rfl, rfl⟩ rfl (by kernel_rfl) (by kernel_rfl) (by kernel_rfl) (by kernel_rfl) ?_
    refine gd_n (i := 6) (d := 15) (op := .binOp .geq 3 (.tmp 14) (.const (.int .i64 8)) 3) (ty := 4) (g := some (3, false)) (by kernel_rfl) ⟨12, _, by kernel_rfl, rfl, rfl⟩ rfl (by kernel_rfl) (by kernel_rfl) (by kernel_rfl) (by kernel_rfl) ?_
    refine gd_q (i := 7) (d := 16) (op := .pick (.tmp 12) (.const (.bool true)) (.tmp 15)) (ty := 4) (g := none) (by kernel_rfl) trivial rfl (by kernel_rfl) (by kernel_rfl) (by kernel_rfl) (by kernel_rfl) (qv_pick_t rfl rfl) ?_
    refine gd_q (i := 8) (d := 17) (op := .move (.tmp 16)) (ty := 4) (g := none) (by kernel_rfl) trivial rfl (by kernel_rfl) (by kernel_rfl) (by kernel_rfl) (by kernel_rfl) (qv_move rfl) ?_
    refine gd_n (i := 9) (d := 18) (op := .fieldAddr 135 (.tmp 3) 0) (ty := 0) (g := some (8, false)) (by kernel_rfl) ⟨17, _, by kernel_rfl, rfl, rfl⟩ rfl (by kernel_rfl) (by kernel_rfl) (by kernel_rfl) (by kernel_rfl) ?_
    refine gd_n (i := 10) (d := 19) (op := .load 3 (.tmp 18)) (ty := 3) (g := some (8, false)) (by kernel_rfl) ⟨17, _, by kernel_rfl, rfl, rfl⟩ rfl (by kernel_rfl) (by kernel_rfl) (by kernel_rfl) (by kernel_rfl) ?_
    refine gd_n (i := 11) (d := 20) (op := .indexAddr 209 (.tmp 5) (.tmp 19)) (ty := 0) (g := some (8, false)) (by kernel_rfl) ⟨17, _, by kernel_rfl, rfl, rfl⟩ rfl (by kernel_rfl) (by kernel_rfl) (by kernel_rfl) (by kernel_rfl) ?_
    refine gd_n (i := 12) (d := 21) (op := .load 208 (.tmp 20)) (ty := 208) (g := some (8, false)) (by kernel_rfl) ⟨17, _, by kernel_rfl, rfl, rfl⟩ rfl (by kernel_rfl) (by kernel_rfl) (by kernel_rfl) (by kernel_rfl) ?_
    refine gd_n (i := 13) (d := 22) (op := .move (.tmp 0)) (ty := 131) (g := some (8, false)) (by kernel_rfl) ⟨17, _, by kernel_rfl, rfl, rfl⟩ rfl (by kernel_rfl) (by kernel_rfl) (by kernel_rfl) (by kernel_rfl) ?_
    refine gd_n (i := 14) (d := 23) (op := .load 135 (.tmp 3)) (ty := 135) (g := some (8, false)) (by kernel_rfl) ⟨17, _, by kernel_rfl, rfl, rfl⟩ rfl (by kernel_rfl) (by kernel_rfl) (by kernel_rfl) (by kernel_rfl) ?_
    refine gd_n (i := 15) (d := 24) (op := .call { callee := .value (.tmp 21), args := #[.tmp 22, .tmp 23], argTypes := #[131, 135] }) (ty := 4) (g := some (8, false)) (by kernel_rfl) ⟨17, _, by kernel_rfl, rfl, rfl⟩ rfl (by kernel_rfl) (by kernel_rfl) (by kernel_rfl) (by kernel_rfl) ?_
    refine gd_n (i := 16) (d := 25) (op := .unOp .not 4 (.tmp 24)) (ty := 4) (g := some (8, false)) (by kernel_rfl) ⟨17, _, by kernel_rfl, rfl, rfl⟩ rfl (by kernel_rfl) (by kernel_rfl) (by kernel_rfl) (by kernel_rfl) ?_
    refine gd_q (i := 17) (d := 26) (op := .pick (.tmp 17) (.const (.bool true)) (.tmp 25)) (ty := 4) (g := none) (by kernel_rfl) trivial rfl (by kernel_rfl) (by kernel_rfl) (by kernel_rfl) (by kernel_rfl) (qv_pick_t rfl rfl) ?_
    refine gd_tail [] rfl (by kernel_rfl) (by kernel_rfl) ?_
    refine go_nil ?_
    change G _ _ _ _
    refine p_weaken [4, 26] rfl ?_
    refine p_condT (.tmp 26) (by kernel_rfl) rfl ?_
    refine p_seq0 ?_
    refine p_plain0 (0 :: []) ?_
    refine go_q0 4 (.assign (.const (.int .i64 2))) 61 (qv_assign rfl) ?_
    refine go_nil ?_
    change G _ _ _ _
    refine p_weaken [4] rfl ?_
    refine p_ret0 ?_
    try dsimp only [thenQ, inBlockQ]
    try rw [if_pos rfl]
    refine ret_left (M) (.inr rfl) (.cons (res_tmp rfl) .nil) .auto ?_
    exact ⟨rfl, rfl⟩
  replace g12 := kn g12
  refine gd_q (i := 4) (d := 13) (op := .fieldAddr 135 (.tmp 3) 0) (ty := 0) (g := some (3, false)) (by kernel_rfl) ⟨12, by kernel_rfl, rfl⟩ rfl (by kernel_rfl) (by kernel_rfl) (by kernel_rfl) (by kernel_rfl) (qv_field rfl fd135_0) ?_
  refine gd_q (i := 5) (d := 14) (op := .load 3 (.tmp 13)) (ty := 3) (g := some (3, false)) (by kernel_rfl) ⟨12, by kernel_rfl, rfl⟩ rfl (by kernel_rfl) (by kernel_rfl) (by kernel_rfl) (by kernel_rfl) (qv_load rfl .auto (ldv_sca sc3 (get_Note_0 _))) ?_
  refine gd_q (i := 6) (d := 15) (op := .binOp .geq 3 (.tmp 14) (.const (.int .i64 8)) 3) (ty := 4) (g := some (3, false)) (by kernel_rfl) ⟨12, by kernel_rfl, rfl⟩ rfl (by kernel_rfl) (by kernel_rfl) (by kernel_rfl) (by kernel_rfl) (qv_geq rfl rfl rfl) ?_
  refine gd_q (i := 7) (d := 16) (op := .pick (.tmp 12) (.const (.bool true)) (.tmp 15)) (ty := 4) (g := none) (by kernel_rfl) trivial rfl (by kernel_rfl) (by kernel_rfl) (by kernel_rfl) (by kernel_rfl) (qv_pick_f rfl rfl) ?_
  refine gd_q (i := 8) (d := 17) (op := .move (.tmp 16)) (ty := 4) (g := none) (by kernel_rfl) trivial rfl (by kernel_rfl) (by kernel_rfl) (by kernel_rfl) (by kernel_rfl) (qv_move rfl) ?_
  refine gd_case (d := 17) rfl (fun g17 => ?_) (fun g17 => ?_)
  rotate_left
  · replace g17 := kn g17
    exfalso; omega
  replace g17 := kn g17
  refine gd_n (i := 9) (d := 18) (op := .fieldAddr 135 (.tmp 3) 0) (ty := 0) (g := some (8, false)) (by kernel_rfl) ⟨17, _, by kernel_rfl, rfl, rfl⟩ rfl (by kernel_rfl) (by kernel_rfl) (by kernel_rfl) (by kernel_rfl) ?_
  refine gd_n (i := 10) (d := 19) (op := .load 3 (.tmp 18)) (ty := 3) (g := some (8, false)) (by kernel_rfl) ⟨17, _, by kernel_rfl, rfl, rfl⟩ rfl (by kernel_rfl) (by kernel_rfl) (by kernel_rfl) (by kernel_rfl) ?_
  refine gd_n (i := 11) (d := 20) (op := .indexAddr 209 (.tmp 5) (.tmp 19)) (ty := 0) (g := some (8, false)) (by kernel_rfl) ⟨17, _, by kernel_rfl, rfl, rfl⟩ rfl (by kernel_rfl) (by kernel_rfl) (by kernel_rfl) (by kernel_rfl) ?_
  refine gd_n (i := 12) (d := 21) (op := .load 208 (.tmp 20)) (ty := 208) (g := some (8, false)) (by kernel_rfl) ⟨17, _, by kernel_rfl, rfl, rfl⟩ rfl (by kernel_rfl) (by kernel_rfl) (by kernel_rfl) (by kernel_rfl) ?_
  refine gd_n (i := 13) (d := 22) (op := .move (.tmp 0)) (ty := 131) (g := some (8, false)) (by kernel_rfl) ⟨17, _, by kernel_rfl, rfl, rfl⟩ rfl (by kernel_rfl) (by kernel_rfl) (by kernel_rfl) (by kernel_rfl) ?_
  refine gd_n (i := 14) (d := 23) (op := .load 135 (.tmp 3)) (ty := 135) (g := some (8, false)) (by kernel_rfl) ⟨17, _, by kernel_rfl, rfl, rfl⟩ rfl (by kernel_rfl) (by kernel_rfl) (by kernel_rfl) (by kernel_rfl) ?_
  refine gd_n (i := 15) (d := 24) (op := .call { callee := .value (.tmp 21), args := #[.tmp 22, .tmp 23], argTypes := #[131, 135] }) (ty := 4) (g := some (8, false)) (by kernel_rfl) ⟨17, _, by kernel_rfl, rfl, rfl⟩ rfl (by kernel_rfl) (by kernel_rfl) (by kernel_rfl) (by kernel_rfl) ?_
  refine gd_n (i := 16) (d := 25) (op := .unOp .not 4 (.tmp 24)) (ty := 4) (g := some (8, false)) (by kernel_rfl) ⟨17, _, by kernel_rfl, rfl, rfl⟩ rfl (by kernel_rfl) (by kernel_rfl) (by kernel_rfl) (by kernel_rfl) ?_
  refine gd_q (i := 17) (d := 26) (op := .pick (.tmp 17) (.const (.bool true)) (.tmp 25)) (ty := 4) (g := none) (by kernel_rfl) trivial rfl (by kernel_rfl) (by kernel_rfl) (by kernel_rfl) (by kernel_rfl) (qv_pick_t rfl rfl) ?_
  refine gd_tail [] rfl (by kernel_rfl) (by kernel_rfl) ?_
  refine go_nil ?_
  change G _ _ _ _
  refine p_weaken [4, 26] rfl ?_
  refine p_condT (.tmp 26) (by kernel_rfl) rfl ?_
  refine p_seq0 ?_
  refine p_plain0 (0 :: []) ?_
  refine go_q0 4 (.assign (.const (.int .i64 2))) 61 (qv_assign rfl) ?_
  refine go_nil ?_
  change G _ _ _ _
  refine p_weaken [4] rfl ?_
  refine p_ret0 ?_
  try dsimp only [thenQ, inBlockQ]
  try rw [if_pos rfl]
  refine ret_left (M) (.inr rfl) (.cons (res_tmp rfl) .nil) .auto ?_
  exact ⟨rfl, rfl⟩
end Go.Proofs.Ytobmcpoejhhemaa
