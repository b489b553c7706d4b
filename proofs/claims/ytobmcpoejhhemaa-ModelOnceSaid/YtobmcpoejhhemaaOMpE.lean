import Derived.Test.YtobmcpoejhhemaaOMpD
namespace Go.E
open Go
theorem Ct.frame {P : Program} {f : FuncId} {args : Array Value} {M A B : Mem} {u : Value} (hs : Sel M A B) (h : Ct P f args A (fun v A' => v = u ∧ A' = A)) : Ct P f args M (fun v M' => v = u ∧ M' = M) := fun w hn hM => by
  have hc := (Chg.refl hn hM).perm hs.perm
  have hnA := hc.nodup_left
  refine (h w hnA fun p hp => hc.at_ p (List.mem_append_left _ hp)).mono ?_
  rintro e w' ⟨v, A', he, ⟨hv, rfl⟩, hk⟩
  exact ⟨v, M, he, ⟨hv, rfl⟩, (hc.call hk).perm hs.perm.symm⟩
theorem Vw.lst {α : Type} {E : Enc α} {p : Option Addr} {c : Nat} {l : List α} {A : Mem} (h : Vw E p c l A) : Lst E p l A := by
  rcases h with ⟨_, _, h⟩ | ⟨b, off, cur, e, fz, h1, h2, h3⟩
  · exact .inl h
  · exact .inr ⟨b, off, cur, e, fz, h1, h2, h3⟩
end Go.E
namespace Go.Proofs.Ytobmcpoejhhemaa
open Go.E

section
variable {M : Mem} {p : Option Addr} {c n : Nat} {g : FuncId} {cb : List Value}
theorem ct_IndexI {l : List Int} (q : Int → Bool) (hg : Ent Try.prog g) (hl : Lst (eI .i64) p l M) (hn : n = l.length) (hm : l.length ≤ 100000) (hc : ∀ x ∈ l, Ct Try.prog g ([Value.int .i64 x] ++ cb).toArray M (fun v M' => v = .bool (q x) ∧ M' = M)) :
    Ct Try.prog 214 [.slice p n c, .func (.func g) #[] cb.toArray].toArray M (fun v M' => ∃ z : Int, v = .int .i64 z ∧ decide (0 ≤ z) = l.any q ∧ M' = M) := by
  subst hn
  refine ct_body (rv := [.tmp 4]) [(0, _), (1, _)] Try.func214 (by kernel_rfl) Try.ntmps214 Try.results214 rfl rfl (fun w0 => ?_)
  refine p_seq0 ?_
  refine p_plain0 (0 :: []) ?_
  refine go_q0 4 (.assign (.const (.int .i64 0))) 3 (qv_assign rfl) ?_
  refine go_nil ?_
  change G _ _ _ _
  refine p_seq0 ?_
  refine p_seq0 ?_
  refine p_plain0 (0 :: 1 :: 2 :: []) ?_
  refine go_q0 6 (.move (.tmp 0)) 89 (qv_move rfl) ?_
  refine go_q0 7 (.call { callee := .builtin .len, args := #[.tmp 6], argTypes := #[89] }) 3 (qv_lenS un89 rfl) ?_
  refine go_q0 8 (.move (.const (.int .i64 0))) 3 (qv_move rfl) ?_
  refine go_nil ?_
  change G _ _ _ _
  refine p_weaken [0, 1, 4, 7, 8] rfl ?_
  refine p_block 0 (by kernel_rfl) ?_
  refine p_loopE (by kernel_rfl) (fun s m => ∃ (i : Nat), (i ≤ l.length) ∧ ((l.take i).any q = false) ∧ Ge s ⟨[], [(0, .slice p l.length c), (1, .func (.func g) #[] cb.toArray), (7, .int .i64 l.length), (8, .int .i64 i)], M⟩ ∧ m = l.length + 1 - i) ?_ ?_
  · exact ⟨_, ⟨0, by omega, rfl, ⟨rfl, ⟨[0, 1, 7, 8], rfl⟩, .auto⟩, rfl⟩⟩
  rintro s m ⟨i, hi, hno, hs, rfl⟩
  refine ge_ok hs ?_
  refine p_seq0 ?_
  refine p_plain0 (0 :: []) ?_
  refine go_q0 9 (.binOp .lss 3 (.tmp 8) (.tmp 7) 3) 0 (qv_lss rfl rfl rfl) ?_
  refine go_nil ?_
  change G _ _ _ _
  refine p_seq0 ?_
  refine p_cond (.tmp 9) (by kernel_rfl) rfl (fun h9 => ?_) (fun h9 => ?_)
  rotate_left
  · replace h9 := kn h9
    refine p_exit 0 (by kernel_rfl) ?_
    change G _ _ _ _
    refine p_weaken [] rfl ?_
    refine p_seq0 ?_
    refine p_plain0 (0 :: []) ?_
    refine go_q0 4 (.assign (.const (.int .i64 (-1)))) 3 (qv_assign rfl) ?_
    refine go_nil ?_
    change G _ _ _ _
    refine p_ret0 ?_
    try dsimp only [thenQ, inBlockQ]
    try rw [if_pos rfl]
    refine ret_left (M) (.inr rfl) (.cons (res_tmp rfl) .nil) .auto ?_
    have hie : i = l.length := by omega
    subst hie
    rw [List.take_length] at hno
    exact ⟨-1, rfl, by rw [hno]; rfl, rfl⟩
  replace h9 := kn h9
  refine p_skip0 ?_
  change G _ _ _ _
  refine p_weaken [0, 1, 7, 8] rfl ?_
  refine p_seq0 ?_
  refine p_block 1 (by kernel_rfl) ?_
  refine p_seq0 ?_
  refine p_plain0 (0 :: 1 :: []) ?_
  refine go_q0 10 (.move (.tmp 8)) 3 (qv_move rfl) ?_
  refine go_q0 5 (.assign (.tmp 10)) 3 (qv_assign rfl) ?_
  refine go_nil ?_
  change G _ _ _ _
  refine p_weaken [0, 1, 5, 7, 8] rfl ?_
  refine p_seq0 ?_
  obtain ⟨bb, oo, cu, ee, ff, hpe, mm, H⟩ := hl.at_ (i := i) (by omega)
  obtain ⟨x, hx⟩ : ∃ x, l[i]? = some x := ⟨_, List.getElem?_eq_getElem (by omega)⟩
  have hxm := List.mem_of_getElem? hx
  subst hpe
  refine p_plain0 (0 :: 1 :: 2 :: 3 :: 4 :: 5 :: []) ?_
  refine go_q0 11 (.move (.tmp 1)) 256 (qv_move rfl) ?_
  refine go_q0 12 (.move (.tmp 0)) 89 (qv_move rfl) ?_
  refine go_q0 13 (.move (.tmp 5)) 3 (qv_move rfl) ?_
  refine go_q0 14 (.indexAddr 89 (.tmp 12) (.tmp 13)) 0 (qv_index un89 sz3 rfl rfl rfl (by omega)) ?_
  refine go_q0 15 (.load 3 (.tmp 14)) 3 (qv_load rfl (At.of_mem (by repeat first | exact mm | exact List.mem_append_left _ mm | apply List.mem_cons_of_mem | apply List.mem_append_right)) (ldv_el H hx sc3 (k := 0) rfl rfl)) ?_
  refine go_s0 (some 16) (.call { callee := .value (.tmp 11), args := #[.tmp 15], argTypes := #[3] }) 4 ?_
  refine os_callV (Nat.le_of_ble_eq_true rfl) rfl hg rfl rfl (Sel.all) (hc x hxm) ?_
  rintro v16 A16 ⟨rfl, hm'⟩
  try dsimp only [List.nil_append, List.cons_append]
  replace hm' := hm'.symm
  subst hm'
  rw [List.append_nil]
  refine go_nil ?_
  change G _ _ _ _
  refine p_weaken [0, 1, 5, 7, 8, 16] rfl ?_
  refine p_cond (.tmp 16) (by kernel_rfl) rfl (fun h16 => ?_) (fun h16 => ?_)
  rotate_left
  · replace h16 := kn h16
    refine p_skip0 ?_
    change G _ _ _ _
    refine p_weaken [0, 1, 7, 8] rfl ?_
    refine p_plain0 (0 :: 1 :: []) ?_
    refine go_q0 18 (.binOp .add 3 (.tmp 8) (.const (.int .i64 1)) 3) 3 (qv_add rfl rfl (by first | exact IntWalk.i64_in _ (by omega) | exact IntWalk.i64_in _ (by dsimp only; omega) | rfl)) ?_
    refine go_q0 8 (.move (.tmp 18)) 3 (qv_move rfl) ?_
    refine go_nil ?_
    exact ⟨_, ⟨i + 1, by omega, by rw [List.take_add_one, hx, List.any_append, hno]; simp [h16], ⟨rfl, ⟨[0, 1, 7, 8], rfl⟩, .auto⟩, rfl⟩, by omega⟩
  replace h16 := kn h16
  refine p_seq0 ?_
  refine p_plain0 (0 :: 1 :: []) ?_
  refine go_q0 17 (.move (.tmp 5)) 3 (qv_move rfl) ?_
  refine go_q0 4 (.assign (.tmp 17)) 3 (qv_assign rfl) ?_
  refine go_nil ?_
  change G _ _ _ _
  refine p_weaken [0, 1, 4, 7, 8] rfl ?_
  refine p_ret0 ?_
  try dsimp only [thenQ, inBlockQ]
  try rw [if_pos rfl]
  refine ret_left (M) (.inr rfl) (.cons (res_tmp rfl) .nil) .auto ?_
  exact ⟨i, rfl, by rw [decide_eq_true (by omega), eq_comm, List.any_eq_true]; exact ⟨x, hxm, h16⟩, rfl⟩
theorem ct_ContainsI {l : List Int} (q : Int → Bool) (hg : Ent Try.prog g) (hl : Lst (eI .i64) p l M) (hn : n = l.length) (hm : l.length ≤ 100000) (hc : ∀ x ∈ l, Ct Try.prog g ([Value.int .i64 x] ++ cb).toArray M (fun v M' => v = .bool (q x) ∧ M' = M)) :
    Ct Try.prog 199 [.slice p n c, .func (.func g) #[] cb.toArray].toArray M (fun v M' => v = .bool (l.any q) ∧ M' = M) := by
  refine ct_body (rv := [.tmp 4]) [(0, _), (1, _)] Try.func199 (by kernel_rfl) Try.ntmps199 Try.results199 rfl rfl (fun w0 => ?_)
  refine p_seq0 ?_
  refine p_plain0 (0 :: []) ?_
  refine go_q0 4 (.assign (.const (.bool false))) 4 (qv_assign rfl) ?_
  refine go_nil ?_
  change G _ _ _ _
  refine p_seq0 ?_
  refine p_plain0 (0 :: 1 :: 2 :: 3 :: 4 :: []) ?_
  refine go_q0 5 (.move (.tmp 0)) 89 (qv_move rfl) ?_
  refine go_q0 6 (.move (.tmp 1)) 256 (qv_move rfl) ?_
  refine go_s0 (some 7) (.call { callee := .value (.func 214), args := #[.tmp 5, .tmp 6], argTypes := #[89, 256] }) 3 ?_
  refine os_call (Nat.le_of_ble_eq_true rfl) en214 rfl (Sel.all) (ct_IndexI q hg hl hn hm hc) ?_
  rintro v7 A7 ⟨z, rfl, hz, hm'⟩
  try dsimp only [List.nil_append, List.cons_append]
  replace hm' := hm'.symm
  subst hm'
  rw [List.append_nil]
  refine go_q0 8 (.binOp .geq 3 (.tmp 7) (.const (.int .i64 0)) 3) 4 (qv_geq rfl rfl rfl) ?_
  refine go_q0 4 (.assign (.tmp 8)) 4 (qv_assign rfl) ?_
  refine go_nil ?_
  change G _ _ _ _
  refine p_weaken [4] rfl ?_
  refine p_ret0 ?_
  try dsimp only [thenQ, inBlockQ]
  try rw [if_pos rfl]
  refine ret_left (M) (.inr rfl) (.cons (res_tmp rfl) .nil) .auto ?_
  exact ⟨by rw [← hz]; rfl, rfl⟩
theorem ct_IndexE {l : List EntR} (q : EntR → Bool) (hg : Ent Try.prog g) (hl : Lst eEntR p l M) (hm : l.length ≤ 100000) (hc : ∀ x ∈ l, Ct Try.prog g ([Value.agg x.x.c] ++ cb).toArray M (fun v M' => v = .bool (q x) ∧ M' = M)) :
    Ct Try.prog 202 [.slice p l.length c, .func (.func g) #[] cb.toArray].toArray M (fun v M' => ∃ z : Int, v = .int .i64 z ∧ decide (0 ≤ z) = l.any q ∧ M' = M) := by
  refine ct_body (rv := [.tmp 4]) [(0, _), (1, _)] Try.func202 (by kernel_rfl) Try.ntmps202 Try.results202 rfl rfl (fun w0 => ?_)
  refine p_seq0 ?_
  refine p_plain0 (0 :: []) ?_
  refine go_q0 4 (.assign (.const (.int .i64 0))) 3 (qv_assign rfl) ?_
  refine go_nil ?_
  change G _ _ _ _
  refine p_seq0 ?_
  refine p_seq0 ?_
  refine p_plain0 (0 :: 1 :: 2 :: []) ?_
  refine go_q0 6 (.move (.tmp 0)) 136 (qv_move rfl) ?_
  refine go_q0 7 (.call { callee := .builtin .len, args := #[.tmp 6], argTypes := #[136] }) 3 (qv_lenS un136 rfl) ?_
  refine go_q0 8 (.move (.const (.int .i64 0))) 3 (qv_move rfl) ?_
  refine go_nil ?_
  change G _ _ _ _
  refine p_weaken [0, 1, 4, 7, 8] rfl ?_
  refine p_block 0 (by kernel_rfl) ?_
  refine p_loopE (by kernel_rfl) (fun s m => ∃ (i : Nat), (i ≤ l.length) ∧ ((l.take i).any q = false) ∧ Ge s ⟨[], [(0, .slice p l.length c), (1, .func (.func g) #[] cb.toArray), (7, .int .i64 l.length), (8, .int .i64 i)], M⟩ ∧ m = l.length + 1 - i) ?_ ?_
  · exact ⟨_, ⟨0, by omega, rfl, ⟨rfl, ⟨[0, 1, 7, 8], rfl⟩, .auto⟩, rfl⟩⟩
  rintro s m ⟨i, hi, hno, hs, rfl⟩
  refine ge_ok hs ?_
  refine p_seq0 ?_
  refine p_plain0 (0 :: []) ?_
  refine go_q0 9 (.binOp .lss 3 (.tmp 8) (.tmp 7) 3) 0 (qv_lss rfl rfl rfl) ?_
  refine go_nil ?_
  change G _ _ _ _
  refine p_seq0 ?_
  refine p_cond (.tmp 9) (by kernel_rfl) rfl (fun h9 => ?_) (fun h9 => ?_)
  rotate_left
  · replace h9 := kn h9
    refine p_exit 0 (by kernel_rfl) ?_
    change G _ _ _ _
    refine p_weaken [] rfl ?_
    refine p_seq0 ?_
    refine p_plain0 (0 :: []) ?_
    refine go_q0 4 (.assign (.const (.int .i64 (-1)))) 3 (qv_assign rfl) ?_
    refine go_nil ?_
    change G _ _ _ _
    refine p_ret0 ?_
    try dsimp only [thenQ, inBlockQ]
    try rw [if_pos rfl]
    refine ret_left (M) (.inr rfl) (.cons (res_tmp rfl) .nil) .auto ?_
    have hie : i = l.length := by omega
    subst hie
    rw [List.take_length] at hno
    exact ⟨-1, rfl, by rw [hno]; rfl, rfl⟩
  replace h9 := kn h9
  refine p_skip0 ?_
  change G _ _ _ _
  refine p_weaken [0, 1, 7, 8] rfl ?_
  refine p_seq0 ?_
  refine p_block 1 (by kernel_rfl) ?_
  refine p_seq0 ?_
  refine p_plain0 (0 :: 1 :: []) ?_
  refine go_q0 10 (.move (.tmp 8)) 3 (qv_move rfl) ?_
  refine go_q0 5 (.assign (.tmp 10)) 3 (qv_assign rfl) ?_
  refine go_nil ?_
  change G _ _ _ _
  refine p_weaken [0, 1, 5, 7, 8] rfl ?_
  refine p_seq0 ?_
  obtain ⟨bb, oo, cu, ee, ff, hpe, mm, H⟩ := hl.at_ (i := i) (by omega)
  obtain ⟨x, hx⟩ : ∃ x, l[i]? = some x := ⟨_, List.getElem?_eq_getElem (by omega)⟩
  have hxm := List.mem_of_getElem? hx
  subst hpe
  refine p_plain0 (0 :: 1 :: 2 :: 3 :: 4 :: 5 :: []) ?_
  refine go_q0 11 (.move (.tmp 1)) 246 (qv_move rfl) ?_
  refine go_q0 12 (.move (.tmp 0)) 136 (qv_move rfl) ?_
  refine go_q0 13 (.move (.tmp 5)) 3 (qv_move rfl) ?_
  refine go_q0 14 (.indexAddr 136 (.tmp 12) (.tmp 13)) 0 (qv_index un136 sz139 rfl rfl rfl (by omega)) ?_
  refine go_q0 15 (.load 139 (.tmp 14)) 139 (qv_load rfl (At.of_mem (by repeat first | exact mm | exact List.mem_append_left _ mm | apply List.mem_cons_of_mem | apply List.mem_append_right)) (ldv_els (E := eEntR) H hx (by decide) agg139 rfl)) ?_
  refine go_s0 (some 16) (.call { callee := .value (.tmp 11), args := #[.tmp 15], argTypes := #[139] }) 4 ?_
  refine os_callV (Nat.le_of_ble_eq_true rfl) rfl hg rfl rfl (Sel.all) (hc x hxm) ?_
  rintro v16 A16 ⟨rfl, hm'⟩
  try dsimp only [List.nil_append, List.cons_append]
  replace hm' := hm'.symm
  subst hm'
  rw [List.append_nil]
  refine go_nil ?_
  change G _ _ _ _
  refine p_weaken [0, 1, 5, 7, 8, 16] rfl ?_
  refine p_cond (.tmp 16) (by kernel_rfl) rfl (fun h16 => ?_) (fun h16 => ?_)
  rotate_left
  · replace h16 := kn h16
    refine p_skip0 ?_
    change G _ _ _ _
    refine p_weaken [0, 1, 7, 8] rfl ?_
    refine p_plain0 (0 :: 1 :: []) ?_
    refine go_q0 18 (.binOp .add 3 (.tmp 8) (.const (.int .i64 1)) 3) 3 (qv_add rfl rfl (by first | exact IntWalk.i64_in _ (by omega) | exact IntWalk.i64_in _ (by dsimp only; omega) | rfl)) ?_
    refine go_q0 8 (.move (.tmp 18)) 3 (qv_move rfl) ?_
    refine go_nil ?_
    exact ⟨_, ⟨i + 1, by omega, by rw [List.take_add_one, hx, List.any_append, hno]; simp [h16], ⟨rfl, ⟨[0, 1, 7, 8], rfl⟩, .auto⟩, rfl⟩, by omega⟩
  replace h16 := kn h16
  refine p_seq0 ?_
  refine p_plain0 (0 :: 1 :: []) ?_
  refine go_q0 17 (.move (.tmp 5)) 3 (qv_move rfl) ?_
  refine go_q0 4 (.assign (.tmp 17)) 3 (qv_assign rfl) ?_
  refine go_nil ?_
  change G _ _ _ _
  refine p_weaken [0, 1, 4, 7, 8] rfl ?_
  refine p_ret0 ?_
  try dsimp only [thenQ, inBlockQ]
  try rw [if_pos rfl]
  refine ret_left (M) (.inr rfl) (.cons (res_tmp rfl) .nil) .auto ?_
  exact ⟨i, rfl, by rw [decide_eq_true (by omega), eq_comm, List.any_eq_true]; exact ⟨x, hxm, h16⟩, rfl⟩
theorem ct_ContainsE {l : List EntR} (q : EntR → Bool) (hg : Ent Try.prog g) (hl : Lst eEntR p l M) (hm : l.length ≤ 100000) (hc : ∀ x ∈ l, Ct Try.prog g ([Value.agg x.x.c] ++ cb).toArray M (fun v M' => v = .bool (q x) ∧ M' = M)) :
    Ct Try.prog 167 [.slice p l.length c, .func (.func g) #[] cb.toArray].toArray M (fun v M' => v = .bool (l.any q) ∧ M' = M) := by
  refine ct_body (rv := [.tmp 4]) [(0, _), (1, _)] Try.func167 (by kernel_rfl) Try.ntmps167 Try.results167 rfl rfl (fun w0 => ?_)
  refine p_seq0 ?_
  refine p_plain0 (0 :: []) ?_
  refine go_q0 4 (.assign (.const (.bool false))) 4 (qv_assign rfl) ?_
  refine go_nil ?_
  change G _ _ _ _
  refine p_seq0 ?_
  refine p_plain0 (0 :: 1 :: 2 :: 3 :: 4 :: []) ?_
  refine go_q0 5 (.move (.tmp 0)) 136 (qv_move rfl) ?_
  refine go_q0 6 (.move (.tmp 1)) 246 (qv_move rfl) ?_
  refine go_s0 (some 7) (.call { callee := .value (.func 202), args := #[.tmp 5, .tmp 6], argTypes := #[136, 246] }) 3 ?_
  refine os_call (Nat.le_of_ble_eq_true rfl) en202 rfl (Sel.all) (ct_IndexE q hg hl hm hc) ?_
  rintro v7 A7 ⟨z, rfl, hz, hm'⟩
  try dsimp only [List.nil_append, List.cons_append]
  replace hm' := hm'.symm
  subst hm'
  rw [List.append_nil]
  refine go_q0 8 (.binOp .geq 3 (.tmp 7) (.const (.int .i64 0)) 3) 4 (qv_geq rfl rfl rfl) ?_
  refine go_q0 4 (.assign (.tmp 8)) 4 (qv_assign rfl) ?_
  refine go_nil ?_
  change G _ _ _ _
  refine p_weaken [4] rfl ?_
  refine p_ret0 ?_
  try dsimp only [thenQ, inBlockQ]
  try rw [if_pos rfl]
  refine ret_left (M) (.inr rfl) (.cons (res_tmp rfl) .nil) .auto ?_
  exact ⟨by rw [← hz]; rfl, rfl⟩
end
theorem pu_truncate1 (e : EntR) : Pu Try.prog 165 [.agg e.x.c] (.bool e.credited) := by
  refine ct_body (rv := [.tmp 2]) [(0, _)] Try.func165 (by kernel_rfl) Try.ntmps165 Try.results165 rfl rfl (fun w0 => ?_)
  refine p_seq0 ?_
  refine p_plain0 (0 :: 1 :: []) ?_
  refine go_s0 (some 1) (.box 139 (.tmp 0)) 0 ?_
  refine os_boxA rfl rfl (fun b1 => ?_)
  refine go_q0 2 (.assign (.const (.bool false))) 4 (qv_assign rfl) ?_
  refine go_nil ?_
  change G _ _ _ _
  refine p_weaken [1, 2] rfl ?_
  refine p_seq0 ?_
  refine p_plain0 (0 :: 1 :: 2 :: []) ?_
  refine go_q0 3 (.fieldAddr 139 (.tmp 1) 5) 0 (qv_field rfl fd139_5) ?_
  refine go_q0 4 (.load 4 (.tmp 3)) 4 (qv_load rfl .auto (ldv_sca sc4 (get_Entr_5 _))) ?_
  refine go_q0 2 (.assign (.tmp 4)) 4 (qv_assign rfl) ?_
  refine go_nil ?_
  change G _ _ _ _
  refine p_weaken [2] rfl ?_
  refine p_ret0 ?_
  try dsimp only [thenQ, inBlockQ]
  try rw [if_pos rfl]
  refine ret_now (.inr rfl) (.cons (res_tmp rfl) .nil) (by repeat constructor) ?_
  exact ⟨rfl, rfl⟩
theorem pu_crash2 (e : EntR) : Pu Try.prog 169 [.agg e.x.c] (.bool e.credited) := by
  refine ct_body (rv := [.tmp 2]) [(0, _)] Try.func169 (by kernel_rfl) Try.ntmps169 Try.results169 rfl rfl (fun w0 => ?_)
  refine p_seq0 ?_
  refine p_plain0 (0 :: 1 :: []) ?_
  refine go_s0 (some 1) (.box 139 (.tmp 0)) 0 ?_
  refine os_boxA rfl rfl (fun b1 => ?_)
  refine go_q0 2 (.assign (.const (.bool false))) 4 (qv_assign rfl) ?_
  refine go_nil ?_
  change G _ _ _ _
  refine p_weaken [1, 2] rfl ?_
  refine p_seq0 ?_
  refine p_plain0 (0 :: 1 :: 2 :: []) ?_
  refine go_q0 3 (.fieldAddr 139 (.tmp 1) 5) 0 (qv_field rfl fd139_5) ?_
  refine go_q0 4 (.load 4 (.tmp 3)) 4 (qv_load rfl .auto (ldv_sca sc4 (get_Entr_5 _))) ?_
  refine go_q0 2 (.assign (.tmp 4)) 4 (qv_assign rfl) ?_
  refine go_nil ?_
  change G _ _ _ _
  refine p_weaken [2] rfl ?_
  refine p_ret0 ?_
  try dsimp only [thenQ, inBlockQ]
  try rw [if_pos rfl]
  refine ret_now (.inr rfl) (.cons (res_tmp rfl) .nil) (by repeat constructor) ?_
  exact ⟨rfl, rfl⟩
theorem pu_crash3 (e : EntR) : Pu Try.prog 170 [.agg e.x.c] (.bool (e.credited || !e.synced)) := by
  refine ct_body (rv := [.tmp 2]) [(0, _)] Try.func170 (by kernel_rfl) Try.ntmps170 Try.results170 rfl rfl (fun w0 => ?_)
  refine p_seq0 ?_
  refine p_plain0 (0 :: 1 :: []) ?_
  refine go_s0 (some 1) (.box 139 (.tmp 0)) 0 ?_
  refine os_boxA rfl rfl (fun b1 => ?_)
  refine go_q0 2 (.assign (.const (.bool false))) 4 (qv_assign rfl) ?_
  refine go_nil ?_
  change G _ _ _ _
  refine p_weaken [1, 2] rfl ?_
  refine p_seq0 ?_
  refine p_plain0 (0 :: 1 :: 2 :: 3 :: 4 :: 5 :: 6 :: 7 :: []) ?_
  refine go_q0 3 (.fieldAddr 139 (.tmp 1) 5) 0 (qv_field rfl fd139_5) ?_
  refine go_q0 4 (.load 4 (.tmp 3)) 4 (qv_load rfl .auto (ldv_sca sc4 (get_Entr_5 _))) ?_
  refine go_q0 5 (.move (.tmp 4)) 4 (qv_move rfl) ?_
  refine go_case (d := 5) rfl (fun g5 => ?_) (fun g5 => ?_)
  · replace g5 := kn g5
    refine go_n (d := 6) (op := .fieldAddr 139 (.tmp 1) 4) (ty := 0) (g := some (2, false)) (by kernel_rfl) ⟨5, _, by kernel_rfl, rfl, rfl⟩ rfl ?_
    refine go_n (d := 7) (op := .load 4 (.tmp 6)) (ty := 4) (g := some (2, false)) (by kernel_rfl) ⟨5, _, by kernel_rfl, rfl, rfl⟩ rfl ?_
    refine go_n (d := 8) (op := .unOp .not 4 (.tmp 7)) (ty := 4) (g := some (2, false)) (by kernel_rfl) ⟨5, _, by kernel_rfl, rfl, rfl⟩ rfl ?_
    refine go_q0 9 (.pick (.tmp 5) (.const (.bool true)) (.tmp 8)) 4 (qv_pick_t rfl rfl) ?_
    refine go_q0 2 (.assign (.tmp 9)) 4 (qv_assign rfl) ?_
    refine go_nil ?_
    change G _ _ _ _
    refine p_weaken [2] rfl ?_
    refine p_ret0 ?_
    try dsimp only [thenQ, inBlockQ]
    try rw [if_pos rfl]
    refine ret_now (.inr rfl) (.cons (res_tmp rfl) .nil) (by repeat constructor) ?_
    have hc : e.x.credited = e.credited := rfl
    have hs : e.x.synced = e.synced := rfl
    exact ⟨by rw [← hc, ← hs]; clear hc hs; simp [*, E.valOf], rfl⟩
  replace g5 := kn g5
  refine go_q (d := 6) (op := .fieldAddr 139 (.tmp 1) 4) (ty := 0) (g := some (2, false)) (by kernel_rfl) ⟨5, by kernel_rfl, rfl⟩ rfl (qv_field rfl fd139_4) ?_
  refine go_q (d := 7) (op := .load 4 (.tmp 6)) (ty := 4) (g := some (2, false)) (by kernel_rfl) ⟨5, by kernel_rfl, rfl⟩ rfl (qv_load rfl .auto (ldv_sca sc4 (get_Entr_4 _))) ?_
  refine go_q (d := 8) (op := .unOp .not 4 (.tmp 7)) (ty := 4) (g := some (2, false)) (by kernel_rfl) ⟨5, by kernel_rfl, rfl⟩ rfl (qv_not rfl) ?_
  refine go_q0 9 (.pick (.tmp 5) (.const (.bool true)) (.tmp 8)) 4 (qv_pick_f rfl rfl) ?_
  refine go_q0 2 (.assign (.tmp 9)) 4 (qv_assign rfl) ?_
  refine go_nil ?_
  change G _ _ _ _
  refine p_weaken [2] rfl ?_
  refine p_ret0 ?_
  try dsimp only [thenQ, inBlockQ]
  try rw [if_pos rfl]
  refine ret_now (.inr rfl) (.cons (res_tmp rfl) .nil) (by repeat constructor) ?_
  have hc : e.x.credited = e.credited := rfl
  have hs : e.x.synced = e.synced := rfl
  exact ⟨by rw [← hc, ← hs]; clear hc hs; simp [*, E.valOf], rfl⟩
theorem sc246 : Sca Try.prog 246 := fun _ => by kernel_rfl
/-- What is told of the entry at a place. -/
def qAt (es : List EntR) (q : EntR → Bool) (i : Int) : Bool := match es[i.toNat]? with
  | some e => q e
  | none => true
def allQ (S : MS) (q : EntR → Bool) (a b : Nat) : Bool := !((lnI S.line).take b |>.drop a).any fun i => !qAt S.es q i
section
variable {bm bf bc bl ce nl cl b4 b7 : Nat} {pe pl : Option Addr} {first boot : Int} {es : List EntR} {X : Mem} {g : FuncId}
theorem ct_all1 {i : Nat} (q : EntR → Bool) (hg : Ent Try.prog g) (hl : Lst eEntR pe es X) (hi : i < es.length) (hq : ∀ e ∈ es, Pu Try.prog g [.agg e.x.c] (.bool (q e))) :
    Ct Try.prog 200 ([Value.int .i64 (i : Int)] ++ [Value.pointer (some ⟨b7, 0, none⟩), Value.pointer (some ⟨b4, 0, none⟩)]).toArray ((b7, .cells #[.func (.func g) #[] #[]] 246 (0, 0)) :: (b4, .cells #[.pointer (some ⟨bm, 0, none⟩)] 131 (0, 0)) :: modO bm bf bc bl pe es.length ce pl nl cl first boot :: X)
      (fun v M' => v = .bool (!qAt es q (i : Int)) ∧ M' = (b7, .cells #[.func (.func g) #[] #[]] 246 (0, 0)) :: (b4, .cells #[.pointer (some ⟨bm, 0, none⟩)] 131 (0, 0)) :: modO bm bf bc bl pe es.length ce pl nl cl first boot :: X) := by
  obtain ⟨bb, oo, cu, ee, ff, rfl, mm, H⟩ := hl.at_ hi
  obtain ⟨x, hx⟩ : ∃ x, es[i]? = some x := ⟨_, List.getElem?_eq_getElem hi⟩
  have hv : qAt es q (i : Int) = q x := by unfold qAt; rw [Int.toNat_natCast, hx]
  rw [hv]
  simp only [List.cons_append, List.nil_append]
  refine ct_body (rv := [.tmp 4]) [(0, _), (1, _), (2, _)] Try.func200 (by kernel_rfl) Try.ntmps200 Try.results200 rfl rfl (fun w0 => ?_)
  refine p_seq0 ?_
  refine p_plain0 (0 :: []) ?_
  refine go_q0 4 (.assign (.const (.bool false))) 4 (qv_assign rfl) ?_
  refine go_nil ?_
  change G _ _ _ _
  refine p_seq0 ?_
  refine p_draw (by kernel_rfl) mixed 10 11 _ (fun _ h => h) (by kernel_rfl) ?_
  refine gd_q (i := 0) (d := 5) (op := .load 246 (.tmp 1)) (ty := 246) (g := none) (by kernel_rfl) trivial rfl (by kernel_rfl) (by kernel_rfl) (by kernel_rfl) (by kernel_rfl) (qv_load rfl .auto (ldv_sca sc246 (get_one _))) ?_
  refine gd_q (i := 1) (d := 6) (op := .load 131 (.tmp 2)) (ty := 131) (g := none) (by kernel_rfl) trivial rfl (by kernel_rfl) (by kernel_rfl) (by kernel_rfl) (by kernel_rfl) (qv_load rfl .auto (ldv_sca sc131 (get_one _))) ?_
  refine gd_q (i := 2) (d := 7) (op := .nilCheck (.tmp 6)) (ty := 0) (g := none) (by kernel_rfl) trivial rfl (by kernel_rfl) (by kernel_rfl) (by kernel_rfl) (by kernel_rfl) (qv_nilCheck rfl) ?_
  refine gd_q (i := 3) (d := 8) (op := .fieldAddr 207 (.tmp 7) 3) (ty := 0) (g := none) (by kernel_rfl) trivial rfl (by kernel_rfl) (by kernel_rfl) (by kernel_rfl) (by kernel_rfl) (qv_field rfl fd207_3) ?_
  refine gd_q (i := 4) (d := 9) (op := .load 136 (.tmp 8)) (ty := 136) (g := none) (by kernel_rfl) trivial rfl (by kernel_rfl) (by kernel_rfl) (by kernel_rfl) (by kernel_rfl) (qv_load rfl .auto (ldv_sca sc136 (get_Mod_3 _))) ?_
  refine gd_q (i := 5) (d := 10) (op := .move (.tmp 0)) (ty := 3) (g := none) (by kernel_rfl) trivial rfl (by kernel_rfl) (by kernel_rfl) (by kernel_rfl) (by kernel_rfl) (qv_move rfl) ?_
  refine gd_q (i := 6) (d := 11) (op := .indexAddr 136 (.tmp 9) (.tmp 10)) (ty := 0) (g := none) (by kernel_rfl) trivial rfl (by kernel_rfl) (by kernel_rfl) (by kernel_rfl) (by kernel_rfl) (qv_index un136 sz139 rfl rfl rfl hi) ?_
  refine gd_q (i := 7) (d := 12) (op := .load 139 (.tmp 11)) (ty := 139) (g := none) (by kernel_rfl) trivial rfl (by kernel_rfl) (by kernel_rfl) (by kernel_rfl) (by kernel_rfl) (qv_load rfl (At.of_mem (by repeat first | exact mm | exact List.mem_append_left _ mm | apply List.mem_cons_of_mem | apply List.mem_append_right)) (ldv_els (E := eEntR) H hx (by decide) agg139 rfl)) ?_
  refine gd_one (i := 8) (d := some 13) (op := .call { callee := .value (.tmp 5), args := #[.tmp 12], argTypes := #[139] }) (ty := 4) (g := none) (by kernel_rfl) trivial rfl (by kernel_rfl) ?_
  refine os_callV (Nat.le_of_ble_eq_true rfl) rfl hg rfl rfl (.nil) ((hq x (List.mem_of_getElem? hx) : Ct _ _ _ _ _)) ?_
  rintro v13 A13 ⟨rfl, rfl⟩
  try dsimp only [List.nil_append, List.cons_append]
  try dsimp only [List.nil_append]
  refine ⟨fun _ h => by first | exact h | (cases h; done) | exact .tail _ h | exact .tail _ (.tail _ h) | exact List.mem_append_right _ (List.mem_append_right _ h) | exact List.mem_append_right _ h | (simp only [List.mem_cons, List.not_mem_nil, or_false] at h ⊢; first | exact .inl h | exact .inr (.inl h) | exact .inr (.inr (.inl h)) | exact .inr (.inr (.inr (.inl h))) | (subst h; simp; done) | grind), ?_⟩
  refine gd_q (i := 9) (d := 14) (op := .unOp .not 4 (.tmp 13)) (ty := 4) (g := none) (by kernel_rfl) trivial rfl (by kernel_rfl) (by kernel_rfl) (by kernel_rfl) (by kernel_rfl) (qv_not rfl) ?_
  refine gd_tail [10] rfl (by kernel_rfl) (by kernel_rfl) ?_
  refine go_q0 4 (.assign (.tmp 14)) 4 (qv_assign rfl) ?_
  refine go_nil ?_
  change G _ _ _ _
  refine p_weaken [4] rfl ?_
  refine p_ret0 ?_
  try dsimp only [thenQ, inBlockQ]
  try rw [if_pos rfl]
  refine ret_left ((b7, .cells #[.func (.func g) #[] #[]] 246 (0, 0)) :: (b4, .cells #[.pointer (some ⟨bm, 0, none⟩)] 131 (0, 0)) :: modO bm bf bc bl (some ⟨bb, oo, none⟩) es.length ce pl nl cl first boot :: X) (.inr rfl) (.cons (res_tmp rfl) .nil) .auto ?_
  exact ⟨rfl, rfl⟩
end
theorem ct_Mall {bm : Nat} {S : MS} {M : Mem} {g : FuncId} {a b : Nat} (q : EntR → Bool) (hg : Ent Try.prog g) (hM : ModM bm S M) (hab : a ≤ b) (hb : b ≤ S.line.length) (hq : ∀ e ∈ S.es, Pu Try.prog g [.agg e.x.c] (.bool (q e))) :
    Ct Try.prog 164 [.pointer (some ⟨bm, 0, none⟩), .int .u64 (a : Int), .int .u64 (b : Int), .func (.func g) #[] #[]].toArray M (fun v M' => v = .bool (allQ S q a b) ∧ M' = M) := by
  obtain ⟨bf, bc, bl, pe, ce, pl, cl, Ae, Al, Ar, hI, hE, hL, hA, rfl⟩ := hM
  have hen := hI.en
  have hln := hI.ln
  have hll := lnI_len S.line
  have hcap := hL.len_cap
  have hD : Vw (eI .i64) (dropP pl cl a 1) (cl - a) (((lnI S.line).take b).drop a) Al := (hL.cut b).vwDrop (h := a) (sz := 1) (by rw [List.length_take]; omega) rfl
  have hdl : b - a = (((lnI S.line).take b).drop a).length := by rw [List.length_drop, List.length_take]; omega
  refine ct_body (rv := [.tmp 8]) [(0, _), (1, _), (2, _), (3, _)] Try.func164 (by kernel_rfl) Try.ntmps164 Try.results164 rfl rfl (fun w0 => ?_)
  refine p_seq0 ?_
  refine p_plain0 (0 :: 1 :: 2 :: []) ?_
  refine go_s0 (some 4) (.box 131 (.tmp 0)) 0 ?_
  refine os_box1 rfl rfl rfl (fun b4 => ?_)
  refine go_s0 (some 7) (.box 246 (.tmp 3)) 0 ?_
  refine os_box1 rfl rfl rfl (fun b7 => ?_)
  refine go_q0 8 (.assign (.const (.bool false))) 4 (qv_assign rfl) ?_
  refine go_nil ?_
  change G _ _ _ _
  refine p_weaken [1, 2, 4, 7, 8] rfl ?_
  refine p_seq0 ?_
  refine p_plain0 (0 :: 1 :: 2 :: 3 :: 4 :: 5 :: 6 :: 7 :: 8 :: 9 :: 10 :: []) ?_
  refine go_q0 9 (.load 131 (.tmp 4)) 131 (qv_load rfl .auto (ldv_sca sc131 (get_one _))) ?_
  refine go_q0 10 (.nilCheck (.tmp 9)) 0 (qv_nilCheck rfl) ?_
  refine go_q0 11 (.fieldAddr 207 (.tmp 10) 4) 0 (qv_field rfl fd207_4) ?_
  refine go_q0 12 (.load 89 (.tmp 11)) 89 (qv_load rfl .auto (ldv_sca sc89 (get_Mod_4 _))) ?_
  refine go_q0 13 (.move (.tmp 1)) 30 (qv_move rfl) ?_
  refine go_q0 14 (.move (.tmp 2)) 30 (qv_move rfl) ?_
  refine go_q0 15 (.slice 89 (.tmp 12) (some (.tmp 13)) (some (.tmp 14)) none) 89 ((qv_slS (l := a) (h := b) un89 sz3 rfl (bd_some rfl rfl) (bd_some rfl rfl) hab (by omega))) ?_
  refine go_q0 16 (.makeFunc (.func 200) #[] #[.tmp 7, .tmp 4]) 256 (qv_makeFunc rfl) ?_
  refine go_s0 (some 17) (.call { callee := .value (.func 199), args := #[.tmp 15, .tmp 16], argTypes := #[89, 256] }) 4 ?_
  refine os_call (Nat.le_of_ble_eq_true rfl) en199 rfl (Sel.all) (ct_ContainsI (n := b - a) (c := cl - a) (p := dropP pl cl a 1) (M := (b7, .cells #[.func (.func g) #[] #[]] 246 (0, 0)) :: (b4, .cells #[.pointer (some ⟨bm, 0, none⟩)] 131 (0, 0)) :: modO bm bf bc bl pe S.es.length ce pl S.line.length cl S.first S.boot :: mapO bf S.fw S.fc :: mapO bc S.ca S.cc :: mapO bl S.lo S.lc :: (Ae ++ (Al ++ Ar))) (cb := [.pointer (some ⟨b7, 0, none⟩), .pointer (some ⟨b4, 0, none⟩)]) (fun i => !qAt S.es q i) en200 (Lst.tail (Lst.tail (Lst.tail (Lst.tail (Lst.tail (Lst.tail hD.lst.left.right)))))) hdl (by omega) (fun x hx => by obtain ⟨i, hi, rfl⟩ := List.mem_map.1 (List.mem_of_mem_take (List.mem_of_mem_drop hx)); exact ct_all1 (X := mapO bf S.fw S.fc :: mapO bc S.ca S.cc :: mapO bl S.lo S.lc :: (Ae ++ (Al ++ Ar))) q hg (Lst.tail (Lst.tail (Lst.tail hE.lst.left))) (hI.li i hi) hq)) ?_
  rintro v17 A17 ⟨rfl, rfl⟩
  try dsimp only [List.nil_append, List.cons_append]
  rw [List.append_nil]
  refine go_q0 18 (.unOp .not 4 (.tmp 17)) 4 (qv_not rfl) ?_
  refine go_q0 8 (.assign (.tmp 18)) 4 (qv_assign rfl) ?_
  refine go_nil ?_
  change G _ _ _ _
  refine p_weaken [8] rfl ?_
  refine p_ret0 ?_
  try dsimp only [thenQ, inBlockQ]
  try rw [if_pos rfl]
  refine ret_left (modO bm bf bc bl pe S.es.length ce pl S.line.length cl S.first S.boot :: mapO bf S.fw S.fc :: mapO bc S.ca S.cc :: mapO bl S.lo S.lc :: (Ae ++ (Al ++ Ar))) (.inr rfl) (.cons (res_tmp rfl) .nil) .auto ?_
  exact ⟨rfl, rfl⟩
end Go.Proofs.Ytobmcpoejhhemaa
