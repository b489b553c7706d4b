import Derived.Test.YtobmcpoejhhemaaVVal5
import Derived.Test.YtobmcpoejhhemaaVTabK
namespace Go.Proofs.Ytobmcpoejhhemaa
open Go.E

theorem sameV_lst {r : Rec} {L : List FV} {p1 p2 : Option Addr} {k1 k2 : Nat} {l1 l2 : List Int} {A1 A2 M : Mem} (h : SameV r L p1 k1 l1 p2 k2 l2) (h1 : OwnL (eI .u8) 5 p1 k1 l1 A1) (h2 : OwnL (eI .u8) 5 p2 k2 l2 A2) (m1 : ∀ q ∈ A1, q ∈ M) (m2 : ∀ q ∈ A2, q ∈ M) :
    ∀ (i : Nat) (a : FV) (s : RV), L[i]? = some a → (refW r)[i]? = some s → s.n = a.n ∧ a.m = s.s.length ∧ Lst (eI .u8) a.p s.s M := fun i a s ha hs => by
  obtain ⟨e1, e2⟩ := h.2.2.2.2 i a s ha hs
  rcases e2 with ⟨e3, e4, e5⟩ | ⟨e3, e4, e5⟩ | ⟨e3, e4⟩
  · rw [e3, e4, e5]; exact ⟨e1, rfl, h1.lst.mono m1⟩
  · rw [e3, e4, e5]; exact ⟨e1, rfl, h2.lst.mono m2⟩
  · rw [e3, e4]; exact ⟨e1, rfl, .inl rfl⟩
theorem set_sh {L : List FV} {i : Nat} {a : FV} {f : Nat → Option Addr × Nat × Nat} (h : ∀ j x, L[j]? = some x → (x.p, x.m, x.k) = f j) (ha : L[i]? = some a) : ∀ j x, (L.set i { a with n := 77 })[j]? = some x → (x.p, x.m, x.k) = f j := fun j x hx => by
  by_cases e : i = j
  · subst e
    rw [List.getElem?_set_self (List.getElem?_eq_some_iff.1 ha).1] at hx
    cases hx
    exact h i a ha
  · rw [List.getElem?_set_ne e] at hx
    exact h j x hx
theorem refW_len (r : Rec) : (refW r).length ≤ 12 := by unfold refW; split; exact Nat.le_refl 12; exact Nat.zero_le _
theorem pu_FlowValues (r : Rec) (hw : r.Wf) (six : Bool) : Pu Try.prog 5 [.agg r.c, .bool six] (.bool true) := by
  have hrl := refW_len r
  refine ct_body (rv := [.tmp 4]) [(0, _), (1, _)] Try.func5 (by kernel_rfl) Try.ntmps5 Try.results5 rfl rfl (fun w0 => ?_)
  refine p_seq0 ?_
  refine p_plain0 (0 :: 1 :: []) ?_
  refine go_s0 (some 2) (.box 35 (.tmp 0)) 0 ?_
  refine os_boxA rfl rfl (fun b2 => ?_)
  refine go_q0 4 (.assign (.const (.bool false))) 4 (qv_assign rfl) ?_
  refine go_nil ?_
  change G _ _ _ _
  refine p_weaken [1, 2, 4] rfl ?_
  refine p_seq0 ?_
  refine p_plain0 (0 :: 1 :: 2 :: 3 :: 4 :: 5 :: 6 :: 7 :: []) ?_
  refine go_q0 14 (.load 35 (.tmp 2)) 35 (qv_load rfl .auto (ldv_agg agg35 (extw_Rec _) (Nat.le_of_ble_eq_true rfl))) ?_
  refine go_s0 (some 15) (.call { callee := .value (.func 20), args := #[.tmp 14], argTypes := #[35] }) 47 ?_
  refine os_callP rfl en20 rfl (pu_docRecord r) ?_
  refine go_s0 (some 16) (.call { callee := .value (.func 29), args := #[.tmp 15], argTypes := #[47] }) 62 ?_
  refine os_call (Nat.le_of_ble_eq_true rfl) en29 rfl .auto (ct_refValuesAny r hw) ?_
  rintro v16 A16 ⟨q5, k5, rfl, h5⟩
  try dsimp only [List.nil_append, List.cons_append]
  refine go_q0 13 (.move (.tmp 16)) 62 (qv_move rfl) ?_
  refine go_q0 17 (.extract (.tmp 13) 0) 60 (qv_extract rfl rfl) ?_
  refine go_q0 18 (.extract (.tmp 13) 1) 61 (qv_extract rfl rfl) ?_
  refine go_q0 5 (.assign (.tmp 17)) 60 (qv_assign rfl) ?_
  refine go_q0 6 (.assign (.tmp 18)) 61 (qv_assign rfl) ?_
  refine go_nil ?_
  change G _ _ _ _
  refine p_weaken [1, 2, 4, 5, 6] rfl ?_
  refine p_seq0 ?_
  refine p_seq0 ?_
  refine p_plain0 (0 :: []) ?_
  refine go_q0 7 (.assign (.const (.int .i64 0))) 3 (qv_assign rfl) ?_
  refine go_nil ?_
  change G _ _ _ _
  refine p_block 0 (by kernel_rfl) ?_
  refine p_loopE (by kernel_rfl) (fun s m => ∃ (t : Nat), (t ≤ 2) ∧ Ge s ⟨[], [(1, .bool six), (2, .pointer (some ⟨b2, 0, none⟩)), (4, .bool false), (5, .slice q5 (refW r).length k5), (6, .int .i64 (errV r)), (7, .int .i64 t)], (b2, .cells r.c 35 (0, 0)) :: A16⟩ ∧ m = 3 - t) ?_ ?_
  · exact ⟨_, ⟨0, by omega, ⟨rfl, ⟨[1, 2, 4, 5, 6, 7], rfl⟩, .auto⟩, rfl⟩⟩
  rintro s m ⟨t, ht, hs, rfl⟩
  refine ge_ok hs ?_
  refine p_seq0 ?_
  refine p_seq0 ?_
  refine p_plain0 (0 :: 1 :: []) ?_
  refine go_q0 19 (.move (.tmp 7)) 3 (qv_move rfl) ?_
  refine go_q0 20 (.binOp .lss 3 (.tmp 19) (.const (.int .i64 2)) 3) 4 (qv_lss rfl rfl rfl) ?_
  refine go_nil ?_
  change G _ _ _ _
  refine p_weaken [1, 2, 4, 5, 6, 7, 20] rfl ?_
  refine p_cond (.tmp 20) (by kernel_rfl) rfl (fun h20 => ?_) (fun h20 => ?_)
  rotate_left
  · replace h20 := kn h20
    refine p_exit 0 (by kernel_rfl) ?_
    change G _ _ _ _
    refine p_weaken [1, 4] rfl ?_
    refine p_seq0 ?_
    refine p_plain0 (0 :: 1 :: 2 :: 3 :: 4 :: 5 :: 6 :: 7 :: 8 :: []) ?_
    refine go_q0 72 (.move (.tmp 1)) 4 (qv_move rfl) ?_
    refine go_s0 (some 73) (.call { callee := .value (.func 36), args := #[.tmp 72], argTypes := #[4] }) 25 ?_
    refine os_callP rfl en36 rfl (pu_Number six) ?_
    refine go_q0 74 (.move (.tmp 1)) 4 (qv_move rfl) ?_
    refine go_s0 (some 75) (.call { callee := .value (.func 37), args := #[.tmp 74], argTypes := #[4] }) 25 ?_
    refine os_callP rfl en37 rfl (pu_refNumber six) ?_
    refine go_q0 76 (.binOp .eql 25 (.tmp 73) (.tmp 75) 25) 4 (qv_eql (b := true) rfl rfl (by simp)) ?_
    refine go_q0 77 (.move (.tmp 76)) 4 (qv_move rfl) ?_
    refine go_s (d := some 78) (op := .call { callee := .value (.func 15), args := #[], argTypes := #[] }) (ty := 4) (g := some (5, true)) (by kernel_rfl) ⟨77, by kernel_rfl, rfl⟩ ?_
    refine os_callP rfl en15 rfl (pu_works22) ?_
    refine go_q0 79 (.pick (.tmp 77) (.tmp 78) (.const (.bool false))) 4 (qv_pick_t rfl rfl) ?_
    refine go_q0 4 (.assign (.tmp 79)) 4 (qv_assign rfl) ?_
    refine go_nil ?_
    change G _ _ _ _
    refine p_weaken [4] rfl ?_
    refine p_ret0 ?_
    try dsimp only [thenQ, inBlockQ]
    try rw [if_pos rfl]
    refine ret_left ([]) (.inr rfl) (.cons (res_tmp rfl) .nil) .auto ?_
    exact ⟨rfl, rfl⟩
  replace h20 := kn h20
  refine p_skip0 ?_
  change G _ _ _ _
  refine p_weaken [1, 2, 4, 5, 6, 7] rfl ?_
  refine p_seq0 ?_
  refine p_block 1 (by kernel_rfl) ?_
  refine p_seq0 ?_
  refine p_plain0 (0 :: 1 :: 2 :: 3 :: 4 :: 5 :: 6 :: []) ?_
  refine go_q0 24 (.load 35 (.tmp 2)) 35 (qv_load rfl .auto (ldv_agg agg35 (extw_Rec _) (Nat.le_of_ble_eq_true rfl))) ?_
  refine go_s0 (some 25) (.call { callee := .value (.func 30), args := #[.tmp 24], argTypes := #[35] }) 65 ?_
  refine os_call (Nat.le_of_ble_eq_true rfl) en30 rfl .auto (ct_ValuesAny r hw) ?_
  rintro v25 A25 ⟨q8, k8, L, B8, p1, k1, l1, A1, p2, k2, l2, A2, rfl, hL, ho1, ho2, hsv, rfl⟩
  try dsimp only [List.nil_append, List.cons_append]
  have hLl := hsv.1
  have hb1 := hsv.2.1
  have hb2 := hsv.2.2.1
  refine go_q0 23 (.move (.tmp 25)) 65 (qv_move rfl) ?_
  refine go_q0 26 (.extract (.tmp 23) 0) 64 (qv_extract rfl rfl) ?_
  refine go_q0 27 (.extract (.tmp 23) 1) 61 (qv_extract rfl rfl) ?_
  refine go_q0 8 (.assign (.tmp 26)) 64 (qv_assign rfl) ?_
  refine go_q0 9 (.assign (.tmp 27)) 61 (qv_assign rfl) ?_
  refine go_nil ?_
  change G _ _ _ _
  refine p_weaken [1, 2, 4, 5, 6, 7, 8, 9] rfl ?_
  refine p_seq0 ?_
  refine p_plain0 (0 :: 1 :: 2 :: []) ?_
  refine go_q0 28 (.move (.tmp 1)) 4 (qv_move rfl) ?_
  refine go_s0 (some 29) (.call { callee := .value (.func 31), args := #[.tmp 28], argTypes := #[4] }) 67 ?_
  refine os_call (Nat.le_of_ble_eq_true rfl) en31 rfl .auto (ct_Specs six) ?_
  rintro v29 A29 ⟨p10, k10, rfl, h10⟩
  try dsimp only [List.nil_append, List.cons_append]
  have hSV := ct_SameValues (c := k8) (d := k5) (M := A29 ++ ((B8 ++ (A1 ++ A2)) ++ ((b2, .cells r.c 35 (0, 0)) :: A16))) (hL.lst.mono fun q hq => by simp [hq]) (h5.lst.mono fun q hq => by simp [hq]) (by omega) hLl.symm (sameV_lst hsv ho1 ho2 (fun q hq => by simp [hq]) fun q hq => by simp [hq])
  refine go_q0 10 (.assign (.tmp 29)) 67 (qv_assign rfl) ?_
  refine go_nil ?_
  change G _ _ _ _
  refine p_weaken [1, 2, 4, 5, 6, 7, 8, 9, 10] rfl ?_
  refine p_seq0 ?_
  refine p_seq0 ?_
  refine p_plain0 (0 :: 1 :: 2 :: 3 :: 4 :: 5 :: 6 :: 7 :: 8 :: 9 :: 10 :: 11 :: 12 :: 13 :: 14 :: 15 :: []) ?_
  refine go_q0 30 (.move (.tmp 6)) 61 (qv_move rfl) ?_
  refine go_q0 31 (.move (.tmp 9)) 61 (qv_move rfl) ?_
  refine go_q0 32 (.binOp .neq 61 (.tmp 30) (.tmp 31) 61) 4 (qv_neq (b := false) rfl rfl (by simp)) ?_
  refine go_q0 33 (.move (.tmp 32)) 4 (qv_move rfl) ?_
  refine go_q (d := 34) (op := .move (.tmp 8)) (ty := 64) (g := some (3, false)) (by kernel_rfl) ⟨33, by kernel_rfl, rfl⟩ rfl (qv_move rfl) ?_
  refine go_q (d := 35) (op := .move (.tmp 5)) (ty := 60) (g := some (3, false)) (by kernel_rfl) ⟨33, by kernel_rfl, rfl⟩ rfl (qv_move rfl) ?_
  refine go_s (d := some 36) (op := .call { callee := .value (.func 32), args := #[.tmp 34, .tmp 35], argTypes := #[64, 60] }) (ty := 4) (g := some (3, false)) (by kernel_rfl) ⟨33, by kernel_rfl, rfl⟩ ?_
  refine os_pv rfl (pv_callR en32 rfl (Sel.all) (hSV)) ?_
  refine go_q (d := 37) (op := .unOp .not 4 (.tmp 36)) (ty := 4) (g := some (3, false)) (by kernel_rfl) ⟨33, by kernel_rfl, rfl⟩ rfl (qv_not rfl) ?_
  refine go_q0 38 (.pick (.tmp 33) (.const (.bool true)) (.tmp 37)) 4 (qv_pick_f rfl rfl) ?_
  refine go_q0 39 (.move (.tmp 38)) 4 (qv_move rfl) ?_
  refine go_q (d := 40) (op := .move (.tmp 10)) (ty := 67) (g := some (9, false)) (by kernel_rfl) ⟨39, by kernel_rfl, rfl⟩ rfl (qv_move rfl) ?_
  refine go_q (d := 41) (op := .move (.tmp 1)) (ty := 4) (g := some (9, false)) (by kernel_rfl) ⟨39, by kernel_rfl, rfl⟩ rfl (qv_move rfl) ?_
  refine go_s (d := some 42) (op := .call { callee := .value (.func 34), args := #[.tmp 41], argTypes := #[4] }) (ty := 71) (g := some (9, false)) (by kernel_rfl) ⟨39, by kernel_rfl, rfl⟩ ?_
  refine os_call (Nat.le_of_ble_eq_true rfl) en34 rfl .auto (ct_refSpecs six) ?_
  rintro v42 A42 ⟨p42, k42, rfl, h42⟩
  try dsimp only [List.nil_append, List.cons_append]
  have hSS := ct_SameSpecs (c := k10) (d := k42) (M := A42 ++ A29) h10.lst.right h42.lst.left (by rw [len_specsOf]; decide)
  rw [len_specsOf] at hSS
  refine go_s (d := some 43) (op := .call { callee := .value (.func 33), args := #[.tmp 40, .tmp 42], argTypes := #[67, 71] }) (ty := 4) (g := some (9, false)) (by kernel_rfl) ⟨39, by kernel_rfl, rfl⟩ ?_
  refine os_pv rfl (pv_callR en33 rfl (Sel.append Sel.app Sel.app) (hSS)) ?_
  refine go_q (d := 44) (op := .unOp .not 4 (.tmp 43)) (ty := 4) (g := some (9, false)) (by kernel_rfl) ⟨39, by kernel_rfl, rfl⟩ rfl (qv_not rfl) ?_
  refine go_q0 45 (.pick (.tmp 39) (.const (.bool true)) (.tmp 44)) 4 (qv_pick_f rfl rfl) ?_
  refine go_nil ?_
  change G _ _ _ _
  refine p_weaken [1, 2, 4, 5, 6, 7, 8, 10, 45] rfl ?_
  refine p_condF (.tmp 45) (by kernel_rfl) rfl ?_
  refine p_skip0 ?_
  change G _ _ _ _
  refine p_weaken [1, 2, 4, 5, 6, 7, 8, 10] rfl ?_
  refine p_seq0 ?_
  refine p_seq0 ?_
  refine p_plain0 (0 :: []) ?_
  refine go_q0 11 (.assign (.const (.int .i64 0))) 3 (qv_assign rfl) ?_
  refine go_nil ?_
  change G _ _ _ _
  refine p_block 2 (by kernel_rfl) ?_
  refine p_loopE (by kernel_rfl) (fun s m => ∃ (i : Nat) (L1 : List FV) (B1 : Mem) (m1 : List Int) (m2 : List Int) (C1 : Mem) (C2 : Mem), (i ≤ L.length) ∧ (L1.length = L.length) ∧ (OwnL eFV 76 q8 k8 L1 B1) ∧ (m1.length = l1.length) ∧ (m2.length = l2.length) ∧ (OwnL (eI .u8) 5 p1 k1 m1 C1) ∧ (OwnL (eI .u8) 5 p2 k2 m2 C2) ∧ (∀ j a, L1[j]? = some a → (a.p, a.m, a.k) = shV p1 l1.length k1 p2 l2.length k2 j) ∧ Ge s ⟨[], [(1, .bool six), (2, .pointer (some ⟨b2, 0, none⟩)), (4, .bool false), (5, .slice q5 (refW r).length k5), (6, .int .i64 (errV r)), (7, .int .i64 t), (8, .slice q8 L.length k8), (10, .slice p10 12 k10), (11, .int .i64 i)], (b2, .cells r.c 35 (0, 0)) :: (B1 ++ (C1 ++ (C2 ++ (A29 ++ A16))))⟩ ∧ m = L.length + 1 - i) ?_ ?_
  · exact ⟨_, ⟨0, L, B8, l1, l2, A1, A2, by omega, rfl, hL, rfl, rfl, ho1, ho2, hsv.2.2.2.1, ⟨rfl, ⟨[1, 2, 4, 5, 6, 7, 8, 10, 11], rfl⟩, .auto⟩, rfl⟩⟩
  rintro s m ⟨i, L1, B1, m1, m2, C1, C2, hi, hL1, hO1, hm1, hm2, hc1, hc2, hsh, hs, rfl⟩
  refine ge_ok hs ?_
  refine p_seq0 ?_
  refine p_seq0 ?_
  refine p_plain0 (0 :: 1 :: 2 :: 3 :: []) ?_
  refine go_q0 46 (.move (.tmp 11)) 3 (qv_move rfl) ?_
  refine go_q0 47 (.move (.tmp 8)) 64 (qv_move rfl) ?_
  refine go_q0 48 (.call { callee := .builtin .len, args := #[.tmp 47], argTypes := #[64] }) 3 (qv_lenS un64 rfl) ?_
  refine go_q0 49 (.binOp .lss 3 (.tmp 46) (.tmp 48) 3) 4 (qv_lss rfl rfl rfl) ?_
  refine go_nil ?_
  change G _ _ _ _
  refine p_weaken [1, 2, 4, 5, 6, 7, 8, 10, 11, 49] rfl ?_
  refine p_cond (.tmp 49) (by kernel_rfl) rfl (fun h49 => ?_) (fun h49 => ?_)
  · replace h49 := kn h49
    refine p_skip0 ?_
    change G _ _ _ _
    refine p_weaken [1, 2, 4, 5, 6, 7, 8, 10, 11] rfl ?_
    refine p_seq0 ?_
    refine p_block 3 (by kernel_rfl) ?_
    refine p_seq0 ?_
    obtain ⟨g, cur, rfl, rfl, hz1, hz2, hz3, H⟩ := hO1.some_ (by omega)
    obtain ⟨a, hy⟩ : ∃ a, L1[i]? = some a := ⟨_, List.getElem?_eq_getElem (by omega)⟩
    have hSp := ct_SpoilAt (p := a.p) (m := a.m) (k := a.k) hc1 hc2 (by omega) (by omega) i (by rw [hm1, hm2]; exact hsh i a hy)
    have hSc := holds_setc (E := eFV) (a' := { a with n := 77 }) (k := 0) (v := .int .u64 77) (by decide) H hy (by decide) rfl rfl
    have hOn : OwnL eFV 76 (some ⟨g, 0, none⟩) k8 (L1.set i { a with n := 77 }) [(g, .cells (cur.setIfInBounds (0 + i * 2 + 0) (.int .u64 77)) 76 (0, 0))] := E_flat_own (e := 76) (b := g) (l := L1) (l' := L1.set i { a with n := 77 }) (by simp) hz1 hz2 (hSc.2.trans hz3) hSc.1
    have hshn : ∀ j x, (L1.set i { a with n := 77 })[j]? = some x → (x.p, x.m, x.k) = shV p1 l1.length k1 p2 l2.length k2 j := set_sh hsh hy
    refine p_plain0 (0 :: 1 :: 2 :: 3 :: 4 :: 5 :: []) ?_
    refine go_q0 52 (.move (.tmp 8)) 64 (qv_move rfl) ?_
    refine go_q0 53 (.move (.tmp 11)) 3 (qv_move rfl) ?_
    refine go_q0 54 (.indexAddr 64 (.tmp 52) (.tmp 53)) 0 (qv_index un64 sz76 rfl rfl rfl (by omega)) ?_
    refine go_q0 55 (.fieldAddr 76 (.tmp 54) 1) 0 (qv_field rfl fd76_1) ?_
    refine go_q0 56 (.load 74 (.tmp 55)) 74 (qv_load rfl .auto (ldv_el H hy sc74 (k := 1) rfl rfl)) ?_
    refine go_s0 (some 57) (.call { callee := .value (.func 35), args := #[.tmp 56], argTypes := #[74] }) 0 ?_
    refine os_call (Nat.le_of_ble_eq_true rfl) en35 rfl (Sel.append (Sel.skip (Sel.skipA Sel.app)) (Sel.skip (Sel.skipA Sel.app))) (hSp) ?_
    rintro v57 A57 ⟨m1n, m2n, C1n, C2n, e1, e2, ho1n, ho2n, rfl⟩
    try dsimp only [List.nil_append, List.cons_append]
    refine go_nil ?_
    change G _ _ _ _
    refine p_weaken [1, 2, 4, 5, 6, 7, 8, 10, 11] rfl ?_
    refine p_plain0 (0 :: 1 :: 2 :: 3 :: 4 :: []) ?_
    refine go_q0 58 (.move (.tmp 8)) 64 (qv_move rfl) ?_
    refine go_q0 59 (.move (.tmp 11)) 3 (qv_move rfl) ?_
    refine go_q0 60 (.indexAddr 64 (.tmp 58) (.tmp 59)) 0 (qv_index un64 sz76 rfl rfl rfl (by omega)) ?_
    refine go_q0 61 (.fieldAddr 76 (.tmp 60) 0) 0 (qv_field rfl fd76_0) ?_
    refine go_s0 none (.store 30 (.tmp 61) (.const (.int .u64 77))) 0 ?_
    refine os_store1 rfl rfl sz30 rfl rfl .auto (Nat.lt_of_lt_of_le (by omega : 0 + i * 2 + 0 < 0 + i * 2 + 2) (own_fit (E := eFV) hz1 hz3 (show i < L1.length by omega))) rfl ?_
    refine go_nil ?_
    change G _ _ _ _
    refine p_weaken [1, 2, 4, 5, 6, 7, 8, 10, 11] rfl ?_
    refine p_plain0 (0 :: 1 :: 2 :: []) ?_
    refine go_q0 50 (.move (.tmp 11)) 3 (qv_move rfl) ?_
    refine go_q0 51 (.binOp .add 3 (.tmp 50) (.const (.int .i64 1)) 3) 3 (qv_add rfl rfl (by first | exact IntWalk.i64_in _ (by omega) | exact IntWalk.i64_in _ (by dsimp only; omega) | rfl)) ?_
    refine go_q0 11 (.assign (.tmp 51)) 3 (qv_assign rfl) ?_
    refine go_nil ?_
    exact ⟨_, ⟨i + 1, _, _, _, _, _, _, by omega, by rw [List.length_set]; exact hL1, hOn, e1.trans hm1, e2.trans hm2, ho1n, ho2n, hshn, ⟨rfl, ⟨[1, 2, 4, 5, 6, 7, 8, 10, 11], rfl⟩, .auto⟩, rfl⟩, by omega⟩
  replace h49 := kn h49
  refine p_exit 2 (by kernel_rfl) ?_
  change G _ _ _ _
  refine p_weaken [1, 2, 4, 5, 6, 7, 10] rfl ?_
  refine p_seq0 ?_
  refine p_plain0 (0 :: []) ?_
  refine go_q0 12 (.assign (.const (.int .i64 0))) 3 (qv_assign rfl) ?_
  refine go_nil ?_
  change G _ _ _ _
  refine p_block 4 (by kernel_rfl) ?_
  refine p_loopE (by kernel_rfl) (fun s m => ∃ (i : Nat) (S1 : List FSpec) (C1 : Mem), (i ≤ 12) ∧ (S1.length = 12) ∧ (OwnL eFSpec 79 p10 k10 S1 C1) ∧ Ge s ⟨[], [(1, .bool six), (2, .pointer (some ⟨b2, 0, none⟩)), (4, .bool false), (5, .slice q5 (refW r).length k5), (6, .int .i64 (errV r)), (7, .int .i64 t), (10, .slice p10 12 k10), (12, .int .i64 i)], (b2, .cells r.c 35 (0, 0)) :: (C1 ++ A16)⟩ ∧ m = 13 - i) ?_ ?_
  · exact ⟨_, ⟨0, specsOf six, A29, by omega, len_specsOf six, h10, ⟨rfl, ⟨[1, 2, 4, 5, 6, 7, 10, 12], rfl⟩, .auto⟩, rfl⟩⟩
  rintro s m ⟨i, S1, C1, hi, hS1, hO1, hs, rfl⟩
  refine ge_ok hs ?_
  refine p_seq0 ?_
  refine p_seq0 ?_
  refine p_plain0 (0 :: 1 :: 2 :: 3 :: []) ?_
  refine go_q0 62 (.move (.tmp 12)) 3 (qv_move rfl) ?_
  refine go_q0 63 (.move (.tmp 10)) 67 (qv_move rfl) ?_
  refine go_q0 64 (.call { callee := .builtin .len, args := #[.tmp 63], argTypes := #[67] }) 3 (qv_lenS un67 rfl) ?_
  refine go_q0 65 (.binOp .lss 3 (.tmp 62) (.tmp 64) 3) 4 (qv_lss rfl rfl rfl) ?_
  refine go_nil ?_
  change G _ _ _ _
  refine p_weaken [1, 2, 4, 5, 6, 7, 10, 12, 65] rfl ?_
  refine p_cond (.tmp 65) (by kernel_rfl) rfl (fun h65 => ?_) (fun h65 => ?_)
  rotate_left
  · replace h65 := kn h65
    refine p_exit 4 (by kernel_rfl) ?_
    change G _ _ _ _
    refine p_weaken [1, 2, 4, 5, 6, 7] rfl ?_
    refine p_plain0 (0 :: 1 :: 2 :: []) ?_
    refine go_q0 21 (.move (.tmp 7)) 3 (qv_move rfl) ?_
    refine go_q0 22 (.binOp .add 3 (.tmp 21) (.const (.int .i64 1)) 3) 3 (qv_add rfl rfl (by first | exact IntWalk.i64_in _ (by omega) | exact IntWalk.i64_in _ (by dsimp only; omega) | rfl)) ?_
    refine go_q0 7 (.assign (.tmp 22)) 3 (qv_assign rfl) ?_
    refine go_nil ?_
    exact ⟨_, ⟨t + 1, by omega, ⟨rfl, ⟨[1, 2, 4, 5, 6, 7], rfl⟩, .auto⟩, rfl⟩, by omega⟩
  replace h65 := kn h65
  refine p_skip0 ?_
  change G _ _ _ _
  refine p_weaken [1, 2, 4, 5, 6, 7, 10, 12] rfl ?_
  refine p_seq0 ?_
  refine p_block 5 (by kernel_rfl) ?_
  obtain ⟨g, cur, rfl, rfl, hz1, hz2, hz3, H⟩ := hO1.some_ (by omega)
  have hP := OwnL.put (e := 79) (b := g) (⟨77, 0, 0⟩ : FSpec) hz1 hz2 hz3 H (show i < S1.length by omega)
  have hft := own_fit (E := eFSpec) hz1 hz3 (show i < S1.length by omega)
  refine p_plain0 (0 :: 1 :: 2 :: 3 :: 4 :: []) ?_
  refine go_q0 68 (.move (.tmp 10)) 67 (qv_move rfl) ?_
  refine go_q0 69 (.move (.tmp 12)) 3 (qv_move rfl) ?_
  refine go_q0 70 (.build 79 #[(0, .const (.int .u16 77))]) 79 (qv_build (v := .agg (⟨77, 0, 0⟩ : FSpec).c) rfl (fun w => by kernel_rfl)) ?_
  refine go_q0 71 (.indexAddr 67 (.tmp 68) (.tmp 69)) 0 (qv_index un67 sz79 rfl rfl rfl (by omega)) ?_
  refine go_s0 none (.store 79 (.tmp 71) (.tmp 70)) 0 ?_
  refine os_store rfl rfl sz79 rfl (one_FSpec _) .auto hft rfl ?_
  refine go_nil ?_
  change G _ _ _ _
  refine p_weaken [1, 2, 4, 5, 6, 7, 10, 12] rfl ?_
  refine p_plain0 (0 :: 1 :: 2 :: []) ?_
  refine go_q0 66 (.move (.tmp 12)) 3 (qv_move rfl) ?_
  refine go_q0 67 (.binOp .add 3 (.tmp 66) (.const (.int .i64 1)) 3) 3 (qv_add rfl rfl (by first | exact IntWalk.i64_in _ (by omega) | exact IntWalk.i64_in _ (by dsimp only; omega) | rfl)) ?_
  refine go_q0 12 (.assign (.tmp 67)) 3 (qv_assign rfl) ?_
  refine go_nil ?_
  exact ⟨_, ⟨i + 1, _, _, by omega, by rw [List.length_set]; exact hS1, hP, ⟨rfl, ⟨[1, 2, 4, 5, 6, 7, 10, 12], rfl⟩, .auto⟩, rfl⟩, by omega⟩
end Go.Proofs.Ytobmcpoejhhemaa
