import Derived.Test.YtobmcpoejhhemaaOMpU
namespace Go.Proofs.Ytobmcpoejhhemaa
open Go.E

theorem run_fieldC (P : Parts) (w : World) : (Instr.field 142 (.agg P.c) 5).run Try.prog w = .ok (.agg P.credited.c) w := by kernel_rfl
theorem qv_fieldC {ty : TypeId} {fr : Fr} {M : Mem} {x : Operand} {P : Parts} (hx : evo fr x = some (.agg P.c)) : QV Try.prog (.field 142 x 5) ty fr M (.agg P.credited.c) := fun o ho _ a w n ds hf _ =>
  ⟨by simp, by simp only [execOp, ho, hf.ev hx, Sem.run_bind, run_fieldC, Result.andThen, Sem.run_pure]⟩
theorem ct_ModelOnceAll (l : List NoteR) (R : Mem) (p : Option Addr) (c : Nat) (hl : Lst eNoteR p l R) (hm : l.length ≤ maxLen) (hW : ∀ t ∈ l, t.recs.length ≤ maxLen ∧ (t.recs.length ≤ 1000 → t.Wf)) (hL : ∀ t ∈ l, Lst eRec t.p t.recs R) :
    Ct Try.prog 11 [.slice p l.length c].toArray R (fun v M' => v = .bool true ∧ M' = R) := by
  refine ct_body (rv := [.tmp 2]) [(0, _)] Try.func11 (by kernel_rfl) Try.ntmps11 Try.results11 rfl rfl (fun w0 => ?_)
  refine p_seq0 ?_
  refine p_plain0 (0 :: []) ?_
  refine go_q0 2 (.assign (.const (.bool false))) 4 (qv_assign rfl) ?_
  refine go_nil ?_
  change G _ _ _ _
  refine p_seq0 ?_
  refine p_seq0 ?_
  refine p_plain0 (0 :: 1 :: 2 :: []) ?_
  refine go_q0 14 (.move (.tmp 0)) 129 (qv_move rfl) ?_
  refine go_s0 (some 15) (.call { callee := .value (.func 70), args := #[.tmp 14], argTypes := #[129] }) 4 ?_
  refine os_call (Nat.le_of_ble_eq_true rfl) en70 rfl (Sel.all) (ct_few hl hm (fun t h => (hW t h).1)) ?_
  rintro v15 A15 ⟨zf, rfl, hzf, hm'⟩
  try dsimp only [List.nil_append, List.cons_append]
  replace hm' := hm'.symm
  subst hm'
  rw [List.append_nil]
  refine go_q0 16 (.unOp .not 4 (.tmp 15)) 4 (qv_not rfl) ?_
  refine go_nil ?_
  change G _ _ _ _
  refine p_weaken [0, 2, 16] rfl ?_
  refine p_cond (.tmp 16) (by kernel_rfl) rfl (fun h16 => ?_) (fun h16 => ?_)
  · replace h16 := kn h16
    refine p_seq0 ?_
    refine p_plain0 (0 :: 1 :: []) ?_
    refine go_s0 (some 17) (.call { callee := .value (.func 71), args := #[], argTypes := #[] }) 4 ?_
    refine os_callP rfl en71 rfl (pu_works30) ?_
    refine go_q0 2 (.assign (.tmp 17)) 4 (qv_assign rfl) ?_
    refine go_nil ?_
    change G _ _ _ _
    refine p_weaken [0, 2] rfl ?_
    refine p_ret0 ?_
    try dsimp only [thenQ, inBlockQ]
    try rw [if_pos rfl]
    refine ret_left (R) (.inr rfl) (.cons (res_tmp rfl) .nil) .auto ?_
    exact ⟨rfl, rfl⟩
  replace h16 := kn h16
  obtain ⟨hl30, hr10⟩ := hzf (by simpa using h16)
  refine p_skip0 ?_
  change G _ _ _ _
  refine p_weaken [0, 2] rfl ?_
  refine p_seq0 ?_
  refine p_plain0 (0 :: 1 :: []) ?_
  refine go_s0 (some 18) (.call { callee := .value (.func 72), args := #[], argTypes := #[] }) 131 ?_
  refine os_call (Nat.le_of_ble_eq_true rfl) en72 rfl (.nil) (ct_MNew) ?_
  rintro v18 A18 ⟨bm, rfl, hM0⟩
  try dsimp only [List.nil_append, List.cons_append]
  refine go_q0 3 (.assign (.tmp 18)) 131 (qv_assign rfl) ?_
  refine go_nil ?_
  change G _ _ _ _
  refine p_weaken [0, 2, 3] rfl ?_
  refine p_seq0 ?_
  refine p_plain0 (0 :: []) ?_
  refine go_q0 4 (.assign (.const (.int .i64 0))) 3 (qv_assign rfl) ?_
  refine go_nil ?_
  change G _ _ _ _
  refine p_seq0 ?_
  refine p_seq0 ?_
  refine p_plain0 (0 :: []) ?_
  refine go_q0 5 (.assign (.const (.int .i64 0))) 3 (qv_assign rfl) ?_
  refine go_nil ?_
  change G _ _ _ _
  refine p_block 0 (by kernel_rfl) ?_
  refine p_loopE (by kernel_rfl) (fun s m => ∃ (i : Nat) (SS : MS) (N : Mem) (cnt : Nat), (i ≤ l.length) ∧ (ModM bm SS N) ∧ (OInv SS cnt) ∧ (SS.es.length ≤ i) ∧ (SS.fw.length ≤ i) ∧ (cnt ≤ i) ∧ Ge s ⟨[], [(0, .slice p l.length c), (3, .pointer (some ⟨bm, 0, none⟩)), (4, .int .i64 cnt), (5, .int .i64 i)], N ++ R⟩ ∧ m = l.length + 1 - i) ?_ ?_
  · exact ⟨_, ⟨0, MS0, _, 0, by omega, hM0, ⟨rfl, fun _ h => absurd h List.not_mem_nil⟩, Nat.le_refl _, Nat.le_refl _, Nat.le_refl _, ⟨rfl, ⟨[0, 3, 4, 5], rfl⟩, .auto⟩, rfl⟩⟩
  rintro s m ⟨i, SS, N, cnt, hi, hM, hI, he, hf, hc, hs, rfl⟩
  refine ge_ok hs ?_
  refine p_seq0 ?_
  refine p_seq0 ?_
  refine p_plain0 (0 :: 1 :: 2 :: 3 :: []) ?_
  refine go_q0 19 (.move (.tmp 5)) 3 (qv_move rfl) ?_
  refine go_q0 20 (.move (.tmp 0)) 129 (qv_move rfl) ?_
  refine go_q0 21 (.call { callee := .builtin .len, args := #[.tmp 20], argTypes := #[129] }) 3 (qv_lenS un129 rfl) ?_
  refine go_q0 22 (.binOp .lss 3 (.tmp 19) (.tmp 21) 3) 4 (qv_lss rfl rfl rfl) ?_
  refine go_nil ?_
  change G _ _ _ _
  refine p_weaken [0, 3, 4, 5, 22] rfl ?_
  refine p_cond (.tmp 22) (by kernel_rfl) rfl (fun h22 => ?_) (fun h22 => ?_)
  rotate_left
  · replace h22 := kn h22
    refine p_exit 0 (by kernel_rfl) ?_
    change G _ _ _ _
    refine p_weaken [] rfl ?_
    refine p_seq0 ?_
    refine p_plain0 (0 :: 1 :: []) ?_
    refine go_s0 (some 148) (.call { callee := .value (.func 71), args := #[], argTypes := #[] }) 4 ?_
    refine os_callP rfl en71 rfl (pu_works30) ?_
    refine go_q0 2 (.assign (.tmp 148)) 4 (qv_assign rfl) ?_
    refine go_nil ?_
    change G _ _ _ _
    refine p_weaken [2] rfl ?_
    refine p_ret0 ?_
    try dsimp only [thenQ, inBlockQ]
    try rw [if_pos rfl]
    refine ret_left (R) (.inr rfl) (.cons (res_tmp rfl) .nil) .auto ?_
    exact ⟨rfl, rfl⟩
  replace h22 := kn h22
  refine p_skip0 ?_
  change G _ _ _ _
  refine p_weaken [0, 3, 4, 5] rfl ?_
  refine p_seq0 ?_
  refine p_block 1 (by kernel_rfl) ?_
  refine p_seqK [0, 3, 5] rfl (fun frk Mk s => ∃ (cnt2 : Nat) (S2 : MS) (N2 : Mem), (ModM bm S2 N2) ∧ (S2.es.length ≤ i + 1) ∧ (S2.fw.length ≤ i + 1) ∧ (OInv S2 cnt2) ∧ (cnt2 ≤ i + 1) ∧ Ge s ⟨[], (4, .int .i64 cnt2) :: frk, N2 ++ R⟩) (by kernel_rfl) ?_ ?_
  · refine p_seqK [0, 3, 4, 5] rfl (fun frk Mk s => ∃ (z : Bool) (Sz : MS) (Nz : Mem), (ModM bm Sz Nz) ∧ (Sz.es.length ≤ i + 1) ∧ (Sz.fw.length ≤ i + 1) ∧ (OInv Sz (cnt + if z = true then 1 else 0)) ∧ Ge s ⟨[], (39, .bool z) :: frk, Nz ++ R⟩) (by kernel_rfl) ?_ ?_
    rotate_left
    · rintro s ⟨z, Sz, Nz, hMz, hez, hfz, hIz, hs⟩
      refine ge_ok hs ?_
      refine p_cond (.tmp 39) (by kernel_rfl) rfl (fun h39 => ?_) (fun h39 => ?_)
      rotate_left
      · replace h39 := kn h39
        have hIn : OInv Sz cnt := by rw [h39] at hIz; exact hIz
        have hcn : cnt ≤ i + 1 := by omega
        refine p_skip0 ?_
        exact ⟨_, Sz, Nz, hMz, hez, hfz, hIn, hcn, ⟨rfl, ⟨[4, 0, 3, 5], rfl⟩, .auto⟩⟩
      replace h39 := kn h39
      have hIn : OInv Sz (cnt + 1) := by rw [h39] at hIz; exact hIz
      have hcn : cnt + 1 ≤ i + 1 := by omega
      refine p_plain0 (0 :: 1 :: 2 :: []) ?_
      refine go_q0 40 (.move (.tmp 4)) 3 (qv_move rfl) ?_
      refine go_q0 41 (.binOp .add 3 (.tmp 40) (.const (.int .i64 1)) 3) 3 (qv_add rfl rfl (by first | exact IntWalk.i64_in _ (by omega) | exact IntWalk.i64_in _ (by dsimp only; omega) | rfl)) ?_
      refine go_q0 4 (.assign (.tmp 41)) 3 (qv_assign rfl) ?_
      refine go_nil ?_
      exact ⟨_, Sz, Nz, hMz, hez, hfz, hIn, hcn, ⟨rfl, ⟨[4, 0, 3, 5], rfl⟩, .auto⟩⟩
    obtain ⟨bb, oo, cu, ee, ff, hpe, mm, H⟩ := hl.at_ (i := i) (by omega)
    obtain ⟨x, hx⟩ : ∃ x, l[i]? = some x := ⟨_, List.getElem?_eq_getElem (by omega)⟩
    have hxm := List.mem_of_getElem? hx
    have hxr := hr10 x hxm
    have hxw := (hW x hxm).2 (by omega)
    subst hpe
    refine p_plain0 (0 :: 1 :: 2 :: 3 :: 4 :: 5 :: 6 :: 7 :: 8 :: 9 :: 10 :: 11 :: 12 :: 13 :: 14 :: []) ?_
    refine go_q0 25 (.move (.tmp 3)) 131 (qv_move rfl) ?_
    refine go_q0 26 (.move (.tmp 0)) 129 (qv_move rfl) ?_
    refine go_q0 27 (.move (.tmp 5)) 3 (qv_move rfl) ?_
    refine go_q0 28 (.indexAddr 129 (.tmp 26) (.tmp 27)) 0 (qv_index un129 sz135 rfl rfl rfl (by omega)) ?_
    refine go_q0 29 (.load 135 (.tmp 28)) 135 (qv_load rfl (by repeat first | exact At.of_mem (List.mem_append_right _ mm) | apply At.next) (ldv_els (E := eNoteR) H hx (by decide) agg135 rfl)) ?_
    refine go_s0 (some 30) (.call { callee := .value (.func 73), args := #[.tmp 25, .tmp 29], argTypes := #[131, 135] }) 61 ?_
    refine os_call (Nat.le_of_ble_eq_true rfl) en73 rfl (Sel.all) (ct_StepAll (R := R) hM (hL x hxm) hxw (by omega) rfl) ?_
    rintro v30 A30 ⟨er, S2, N2, rfl, rfl, hM2, hSt⟩
    try dsimp only [List.nil_append, List.cons_append]
    rw [List.append_nil]
    have hes2 := hSt.es_
    have hfw2 := hSt.fw_
    have hIf : ∀ z : Bool, (z = true ↔ er = 0 ∧ x.kind = 6) → OInv S2 (cnt + if z = true then 1 else 0) := fun z hz => by
      have h6 := hSt.inv_ cnt hI
      by_cases hh : er = 0 ∧ x.kind = 6
      · rw [if_pos hh] at h6; rw [if_pos (hz.2 hh)]; exact h6
      · rw [if_neg hh] at h6; rw [if_neg (fun h => hh (hz.1 h))]; exact h6
    refine go_q0 31 (.binOp .eql 61 (.tmp 30) (.const (.int .i64 0)) 61) 4 (qv_eql rfl rfl rfl) ?_
    refine go_q0 32 (.move (.tmp 31)) 4 (qv_move rfl) ?_
    refine go_case (d := 32) rfl (fun g32 => ?_) (fun g32 => ?_)
    · replace g32 := kn g32
      refine go_q (d := 33) (op := .move (.tmp 0)) (ty := 129) (g := some (7, true)) (by kernel_rfl) ⟨32, by kernel_rfl, rfl⟩ rfl (qv_move rfl) ?_
      refine go_q (d := 34) (op := .move (.tmp 5)) (ty := 3) (g := some (7, true)) (by kernel_rfl) ⟨32, by kernel_rfl, rfl⟩ rfl (qv_move rfl) ?_
      refine go_q (d := 35) (op := .indexAddr 129 (.tmp 33) (.tmp 34)) (ty := 0) (g := some (7, true)) (by kernel_rfl) ⟨32, by kernel_rfl, rfl⟩ rfl (qv_index un129 sz135 rfl rfl rfl (by omega)) ?_
      refine go_q (d := 36) (op := .fieldAddr 135 (.tmp 35) 0) (ty := 0) (g := some (7, true)) (by kernel_rfl) ⟨32, by kernel_rfl, rfl⟩ rfl (qv_field rfl fd135_0) ?_
      refine go_q (d := 37) (op := .load 3 (.tmp 36)) (ty := 3) (g := some (7, true)) (by kernel_rfl) ⟨32, by kernel_rfl, rfl⟩ rfl (qv_load rfl (by repeat first | exact At.of_mem (List.mem_append_right _ mm) | apply At.next) (ldv_el (E := eNoteR) H hx sc3 (get_Note_0 x.x) rfl)) ?_
      refine go_q (d := 38) (op := .binOp .eql 3 (.tmp 37) (.const (.int .i64 6)) 3) (ty := 4) (g := some (7, true)) (by kernel_rfl) ⟨32, by kernel_rfl, rfl⟩ rfl (qv_eql rfl rfl rfl) ?_
      refine go_q0 39 (.pick (.tmp 32) (.tmp 38) (.const (.bool false))) 4 (qv_pick_t rfl rfl) ?_
      refine go_nil ?_
      exact ⟨_, S2, N2, hM2, by omega, by omega, hIf _ (by first | (simp [g32]; done) | (simp [g32]; exact Iff.rfl)), ⟨rfl, ⟨[39, 0, 3, 4, 5], rfl⟩, .auto⟩⟩
    replace g32 := kn g32
    refine go_n (d := 33) (op := .move (.tmp 0)) (ty := 129) (g := some (7, true)) (by kernel_rfl) ⟨32, _, by kernel_rfl, rfl, rfl⟩ rfl ?_
    refine go_n (d := 34) (op := .move (.tmp 5)) (ty := 3) (g := some (7, true)) (by kernel_rfl) ⟨32, _, by kernel_rfl, rfl, rfl⟩ rfl ?_
    refine go_n (d := 35) (op := .indexAddr 129 (.tmp 33) (.tmp 34)) (ty := 0) (g := some (7, true)) (by kernel_rfl) ⟨32, _, by kernel_rfl, rfl, rfl⟩ rfl ?_
    refine go_n (d := 36) (op := .fieldAddr 135 (.tmp 35) 0) (ty := 0) (g := some (7, true)) (by kernel_rfl) ⟨32, _, by kernel_rfl, rfl, rfl⟩ rfl ?_
    refine go_n (d := 37) (op := .load 3 (.tmp 36)) (ty := 3) (g := some (7, true)) (by kernel_rfl) ⟨32, _, by kernel_rfl, rfl, rfl⟩ rfl ?_
    refine go_n (d := 38) (op := .binOp .eql 3 (.tmp 37) (.const (.int .i64 6)) 3) (ty := 4) (g := some (7, true)) (by kernel_rfl) ⟨32, _, by kernel_rfl, rfl, rfl⟩ rfl ?_
    refine go_q0 39 (.pick (.tmp 32) (.tmp 38) (.const (.bool false))) 4 (qv_pick_f rfl rfl) ?_
    refine go_nil ?_
    exact ⟨_, S2, N2, hM2, by omega, by omega, hIf _ (by first | (simp [g32]; done) | (simp [g32]; exact Iff.rfl)), ⟨rfl, ⟨[39, 0, 3, 4, 5], rfl⟩, .auto⟩⟩
  rintro s ⟨cnt2, S2, N2, hM2, hes2, hfw2, hI2, hc2, hs⟩
  refine ge_ok hs ?_
  refine p_seq0 ?_
  refine p_plain0 (0 :: []) ?_
  refine go_q0 6 (.assign (.const (.int .i64 0))) 3 (qv_assign rfl) ?_
  refine go_nil ?_
  change G _ _ _ _
  refine p_seq0 ?_
  refine p_plain0 (0 :: 1 :: 2 :: []) ?_
  refine go_q0 42 (.move (.tmp 3)) 131 (qv_move rfl) ?_
  refine go_s0 (some 43) (.call { callee := .value (.func 74), args := #[.tmp 42], argTypes := #[131] }) 136 ?_
  refine os_call (Nat.le_of_ble_eq_true rfl) en74 rfl (Sel.app) (ct_MEntries hM2) ?_
  rintro v43 A43 ⟨es', q, cq, A, B, hmv, rfl, hO, hB, rfl⟩
  try dsimp only [List.nil_append, List.cons_append]
  simp only [List.append_assoc]
  have hel : es'.length ≤ 31 := by rw [hmv.1]; omega
  refine go_q0 7 (.assign (.tmp 43)) 136 (qv_assign rfl) ?_
  refine go_nil ?_
  change G _ _ _ _
  refine p_weaken [0, 3, 4, 5, 6, 7] rfl ?_
  refine p_seq0 ?_
  refine p_plain0 (0 :: 1 :: 2 :: []) ?_
  refine go_q0 44 (.move (.tmp 3)) 131 (qv_move rfl) ?_
  refine go_s0 (some 45) (.call { callee := .value (.func 75), args := #[.tmp 44], argTypes := #[131] }) 86 ?_
  refine os_call (Nat.le_of_ble_eq_true rfl) en75 rfl (Sel.skipA (Sel.skipA Sel.app)) (ct_MKeys hM2 (by omega)) ?_
  rintro v45 A45 ⟨ks, qk, ck, A2, hkl, hkw, rfl, hOk, rfl⟩
  try dsimp only [List.nil_append, List.cons_append]
  simp only [List.append_assoc]
  have hkl2 : ks.length ≤ 31 := by omega
  refine go_q0 8 (.assign (.tmp 45)) 86 (qv_assign rfl) ?_
  refine go_nil ?_
  change G _ _ _ _
  refine p_weaken [0, 3, 4, 5, 6, 7, 8] rfl ?_
  refine p_seq0 ?_
  refine p_seq0 ?_
  refine p_plain0 (0 :: []) ?_
  refine go_q0 9 (.assign (.const (.int .i64 0))) 3 (qv_assign rfl) ?_
  refine go_nil ?_
  change G _ _ _ _
  refine p_block 2 (by kernel_rfl) ?_
  refine p_loopE (by kernel_rfl) (fun s m => ∃ (j : Nat), (j ≤ es'.length) ∧ Ge s ⟨[], [(0, .slice p l.length c), (3, .pointer (some ⟨bm, 0, none⟩)), (4, .int .i64 cnt2), (5, .int .i64 i), (6, .int .i64 (cntC (es'.take j) : Nat)), (7, .slice q es'.length cq), (8, .slice qk ks.length ck), (9, .int .i64 j)], A2 ++ (N2 ++ (A ++ (B ++ R)))⟩ ∧ m = es'.length + 1 - j) ?_ ?_
  · exact ⟨_, ⟨0, by omega, ⟨rfl, ⟨[0, 3, 4, 5, 6, 7, 8, 9], rfl⟩, .auto⟩, rfl⟩⟩
  rintro s m ⟨j, hj, hs, rfl⟩
  refine ge_ok hs ?_
  refine p_seq0 ?_
  refine p_seq0 ?_
  refine p_plain0 (0 :: 1 :: 2 :: 3 :: []) ?_
  refine go_q0 46 (.move (.tmp 9)) 3 (qv_move rfl) ?_
  refine go_q0 47 (.move (.tmp 7)) 136 (qv_move rfl) ?_
  refine go_q0 48 (.call { callee := .builtin .len, args := #[.tmp 47], argTypes := #[136] }) 3 (qv_lenS un136 rfl) ?_
  refine go_q0 49 (.binOp .lss 3 (.tmp 46) (.tmp 48) 3) 4 (qv_lss rfl rfl rfl) ?_
  refine go_nil ?_
  change G _ _ _ _
  refine p_weaken [0, 3, 4, 5, 6, 7, 8, 9, 49] rfl ?_
  refine p_cond (.tmp 49) (by kernel_rfl) rfl (fun h49 => ?_) (fun h49 => ?_)
  · replace h49 := kn h49
    refine p_skip0 ?_
    change G _ _ _ _
    refine p_weaken [0, 3, 4, 5, 6, 7, 8, 9] rfl ?_
    refine p_seq0 ?_
    refine p_block 3 (by kernel_rfl) ?_
    refine p_seqK [0, 3, 4, 5, 7, 8, 9] rfl (fun frk Mk s => ∃ (z6 : Nat), (z6 = cntC (es'.take (j + 1))) ∧ Ge s ⟨[], (6, .int .i64 z6) :: frk, A2 ++ (N2 ++ (A ++ (B ++ R)))⟩) (by kernel_rfl) ?_ ?_
    · refine p_seq0 ?_
      obtain ⟨eb, eo, ecu, eee, eff, hpq, em, EH⟩ := hO.lst.at_ (i := j) (by omega)
      obtain ⟨x', hx'⟩ : ∃ x', es'[j]? = some x' := ⟨_, List.getElem?_eq_getElem (by omega)⟩
      have hcs := cntC_succ hx'
      have hcl := cntC_le es' j
      have hep : x'.there = true → x'.synced = false → x'.epoch = S2.boot := by
        obtain ⟨a, ha, hxa⟩ := hmv.mem (List.mem_of_getElem? hx')
        rw [hxa]
        exact hI2.2 a ha
      subst hpq
      refine p_plain0 (0 :: 1 :: 2 :: 3 :: 4 :: []) ?_
      refine go_q0 52 (.move (.tmp 7)) 136 (qv_move rfl) ?_
      refine go_q0 53 (.move (.tmp 9)) 3 (qv_move rfl) ?_
      refine go_q0 54 (.indexAddr 136 (.tmp 52) (.tmp 53)) 0 (qv_index un136 sz139 rfl rfl rfl (by omega)) ?_
      refine go_q0 55 (.fieldAddr 139 (.tmp 54) 5) 0 (qv_field rfl fd139_5) ?_
      refine go_q0 56 (.load 4 (.tmp 55)) 4 (qv_load rfl (by repeat first | exact At.of_mem (List.mem_append_right _ (List.mem_append_right _ (List.mem_append_left _ em))) | apply At.next) (ldv_el (E := eEntR) EH hx' sc4 (get_Entr_5 x'.x) rfl)) ?_
      refine go_nil ?_
      change G _ _ _ _
      refine p_weaken [0, 3, 4, 5, 6, 7, 8, 9, 56] rfl ?_
      refine p_cond (.tmp 56) (by kernel_rfl) rfl (fun h56 => ?_) (fun h56 => ?_)
      rotate_left
      · replace h56 := kn h56
        have hz6n : cntC (es'.take j) = cntC (es'.take (j + 1)) := by rw [hcs, if_neg (by rw [show x'.credited = false from h56]; decide)]; rfl
        refine p_skip0 ?_
        exact ⟨_, hz6n, ⟨rfl, ⟨[6, 0, 3, 4, 5, 7, 8, 9], rfl⟩, .auto⟩⟩
      replace h56 := kn h56
      have hz6n : cntC (es'.take j) + 1 = cntC (es'.take (j + 1)) := by rw [hcs, if_pos (show x'.credited = true from h56)]
      refine p_plain0 (0 :: 1 :: 2 :: []) ?_
      refine go_q0 57 (.move (.tmp 6)) 3 (qv_move rfl) ?_
      refine go_q0 58 (.binOp .add 3 (.tmp 57) (.const (.int .i64 1)) 3) 3 (qv_add rfl rfl (by first | exact IntWalk.i64_in _ (by omega) | exact IntWalk.i64_in _ (by dsimp only; omega) | rfl)) ?_
      refine go_q0 6 (.assign (.tmp 58)) 3 (qv_assign rfl) ?_
      refine go_nil ?_
      exact ⟨_, hz6n, ⟨rfl, ⟨[6, 0, 3, 4, 5, 7, 8, 9], rfl⟩, .auto⟩⟩
    rintro s ⟨z6, hz6, hs⟩
    refine ge_ok hs ?_
    refine p_seqK [0, 3, 4, 5, 6, 7, 8, 9] rfl (fun frk Mk s => ∃ (z : Bool), (z = false) ∧ Ge s ⟨[], (81, .bool z) :: frk, A2 ++ (N2 ++ (A ++ (B ++ R)))⟩) (by kernel_rfl) ?_ ?_
    rotate_left
    · rintro s ⟨z, hz18, hs⟩
      refine ge_ok hs ?_
      refine p_cond (.tmp 81) (by kernel_rfl) rfl (fun h81 => ?_) (fun h81 => ?_)
      · replace h81 := kn h81
        rw [h81] at hz18
        cases hz18
      replace h81 := kn h81
      subst hz6
      refine p_skip0 ?_
      change G _ _ _ _
      refine p_weaken [0, 3, 4, 5, 6, 7, 8, 9] rfl ?_
      refine p_plain0 (0 :: 1 :: 2 :: []) ?_
      refine go_q0 50 (.move (.tmp 9)) 3 (qv_move rfl) ?_
      refine go_q0 51 (.binOp .add 3 (.tmp 50) (.const (.int .i64 1)) 3) 3 (qv_add rfl rfl (by first | exact IntWalk.i64_in _ (by omega) | exact IntWalk.i64_in _ (by dsimp only; omega) | rfl)) ?_
      refine go_q0 9 (.assign (.tmp 51)) 3 (qv_assign rfl) ?_
      refine go_nil ?_
      exact ⟨_, ⟨j + 1, by omega, ⟨rfl, ⟨[0, 3, 4, 5, 6, 7, 8, 9], rfl⟩, .auto⟩, rfl⟩, by omega⟩
    obtain ⟨eb, eo, ecu, eee, eff, hpq, em, EH⟩ := hO.lst.at_ (i := j) (by omega)
    obtain ⟨x', hx'⟩ : ∃ x', es'[j]? = some x' := ⟨_, List.getElem?_eq_getElem (by omega)⟩
    have hcl := cntC_le es' j
    have hep : x'.there = true → x'.synced = false → x'.epoch = S2.boot := by
      obtain ⟨a, ha, hxa⟩ := hmv.mem (List.mem_of_getElem? hx')
      rw [hxa]
      exact hI2.2 a ha
    subst hpq
    refine p_draw (by kernel_rfl) mixed 23 23 _ (fun _ h => h) (by kernel_rfl) ?_
    refine gd_all (0 :: 1 :: 2 :: 3 :: 4 :: 5 :: 6 :: 7 :: 8 :: 9 :: 10 :: 11 :: 12 :: 13 :: 14 :: 15 :: 16 :: 17 :: 18 :: 19 :: 20 :: 21 :: 22 :: []) _ rfl (by kernel_rfl) (by decide) (fun _ h => h) rfl ?_
    refine sq_q0 59 (.move (.tmp 7)) 136 (qv_move rfl) ?_
    refine sq_q0 60 (.move (.tmp 9)) 3 (qv_move rfl) ?_
    refine sq_q0 61 (.indexAddr 136 (.tmp 59) (.tmp 60)) 0 (qv_index un136 sz139 rfl rfl rfl (by omega)) ?_
    refine sq_q0 62 (.fieldAddr 139 (.tmp 61) 3) 0 (qv_field rfl fd139_3) ?_
    refine sq_q0 63 (.load 4 (.tmp 62)) 4 (qv_load rfl (by repeat first | exact At.of_mem (List.mem_append_right _ (List.mem_append_right _ (List.mem_append_left _ em))) | apply At.next) (ldv_el (E := eEntR) EH hx' sc4 (get_Entr_3 x'.x) rfl)) ?_
    refine sq_q0 64 (.move (.tmp 63)) 4 (qv_move rfl) ?_
    refine sq_case (d := 64) rfl (fun _ => rfl) (fun g64 => ?_) (fun g64 => ?_)
    rotate_left
    · replace g64 := kn g64
      refine sq_n (d := 65) (op := .move (.tmp 7)) (ty := 136) (g := some (5, true)) (by kernel_rfl) ⟨64, _, by kernel_rfl, rfl, rfl⟩ ?_
      refine sq_n (d := 66) (op := .move (.tmp 9)) (ty := 3) (g := some (5, true)) (by kernel_rfl) ⟨64, _, by kernel_rfl, rfl, rfl⟩ ?_
      refine sq_n (d := 67) (op := .indexAddr 136 (.tmp 65) (.tmp 66)) (ty := 0) (g := some (5, true)) (by kernel_rfl) ⟨64, _, by kernel_rfl, rfl, rfl⟩ ?_
      refine sq_n (d := 68) (op := .fieldAddr 139 (.tmp 67) 4) (ty := 0) (g := some (5, true)) (by kernel_rfl) ⟨64, _, by kernel_rfl, rfl, rfl⟩ ?_
      refine sq_n (d := 69) (op := .load 4 (.tmp 68)) (ty := 4) (g := some (5, true)) (by kernel_rfl) ⟨64, _, by kernel_rfl, rfl, rfl⟩ ?_
      refine sq_n (d := 70) (op := .unOp .not 4 (.tmp 69)) (ty := 4) (g := some (5, true)) (by kernel_rfl) ⟨64, _, by kernel_rfl, rfl, rfl⟩ ?_
      refine sq_q0 71 (.pick (.tmp 64) (.tmp 70) (.const (.bool false))) 4 (qv_pick_f rfl rfl) ?_
      refine sq_q0 72 (.move (.tmp 71)) 4 (qv_move rfl) ?_
      refine sq_n (d := 73) (op := .move (.tmp 7)) (ty := 136) (g := some (13, true)) (by kernel_rfl) ⟨72, _, by kernel_rfl, rfl, rfl⟩ ?_
      refine sq_n (d := 74) (op := .move (.tmp 9)) (ty := 3) (g := some (13, true)) (by kernel_rfl) ⟨72, _, by kernel_rfl, rfl, rfl⟩ ?_
      refine sq_n (d := 75) (op := .indexAddr 136 (.tmp 73) (.tmp 74)) (ty := 0) (g := some (13, true)) (by kernel_rfl) ⟨72, _, by kernel_rfl, rfl, rfl⟩ ?_
      refine sq_n (d := 76) (op := .fieldAddr 139 (.tmp 75) 0) (ty := 0) (g := some (13, true)) (by kernel_rfl) ⟨72, _, by kernel_rfl, rfl, rfl⟩ ?_
      refine sq_n (d := 77) (op := .load 77 (.tmp 76)) (ty := 77) (g := some (13, true)) (by kernel_rfl) ⟨72, _, by kernel_rfl, rfl, rfl⟩ ?_
      refine sq_n (d := 78) (op := .move (.tmp 3)) (ty := 131) (g := some (13, true)) (by kernel_rfl) ⟨72, _, by kernel_rfl, rfl, rfl⟩ ?_
      refine sq_n (d := 79) (op := .call { callee := .value (.func 76), args := #[.tmp 78], argTypes := #[131] }) (ty := 77) (g := some (13, true)) (by kernel_rfl) ⟨72, _, by kernel_rfl, rfl, rfl⟩ ?_
      refine sq_n (d := 80) (op := .binOp .neq 77 (.tmp 77) (.tmp 79) 77) (ty := 4) (g := some (13, true)) (by kernel_rfl) ⟨72, _, by kernel_rfl, rfl, rfl⟩ ?_
      refine sq_q0 81 (.pick (.tmp 72) (.tmp 80) (.const (.bool false))) 4 (qv_pick_f rfl rfl) ?_
      refine SeqK.nil (fun β => ?_)
      refine gd_tail [] rfl (by kernel_rfl) (by kernel_rfl) ?_
      refine go_nil ?_
      exact ⟨_, by first | rfl | (simp [*]; done) | (simp; exact hep g64 g72), ⟨rfl, ⟨[81, 0, 3, 4, 5, 6, 7, 8, 9], rfl⟩, .auto⟩⟩
    replace g64 := kn g64
    refine sq_q (d := 65) (op := .move (.tmp 7)) (ty := 136) (g := some (5, true)) (by kernel_rfl) ⟨64, by kernel_rfl, rfl⟩ (fun _ h => nomatch h) (qv_move rfl) ?_
    refine sq_q (d := 66) (op := .move (.tmp 9)) (ty := 3) (g := some (5, true)) (by kernel_rfl) ⟨64, by kernel_rfl, rfl⟩ (fun _ h => nomatch h) (qv_move rfl) ?_
    refine sq_q (d := 67) (op := .indexAddr 136 (.tmp 65) (.tmp 66)) (ty := 0) (g := some (5, true)) (by kernel_rfl) ⟨64, by kernel_rfl, rfl⟩ (fun _ h => nomatch h) (qv_index un136 sz139 rfl rfl rfl (by omega)) ?_
    refine sq_q (d := 68) (op := .fieldAddr 139 (.tmp 67) 4) (ty := 0) (g := some (5, true)) (by kernel_rfl) ⟨64, by kernel_rfl, rfl⟩ (fun _ h => nomatch h) (qv_field rfl fd139_4) ?_
    refine sq_q (d := 69) (op := .load 4 (.tmp 68)) (ty := 4) (g := some (5, true)) (by kernel_rfl) ⟨64, by kernel_rfl, rfl⟩ (fun _ h => nomatch h) (qv_load rfl (by repeat first | exact At.of_mem (List.mem_append_right _ (List.mem_append_right _ (List.mem_append_left _ em))) | apply At.next) (ldv_el (E := eEntR) EH hx' sc4 (get_Entr_4 x'.x) rfl)) ?_
    refine sq_q (d := 70) (op := .unOp .not 4 (.tmp 69)) (ty := 4) (g := some (5, true)) (by kernel_rfl) ⟨64, by kernel_rfl, rfl⟩ (fun _ h => nomatch h) (qv_not rfl) ?_
    refine sq_q0 71 (.pick (.tmp 64) (.tmp 70) (.const (.bool false))) 4 (qv_pick_t rfl rfl) ?_
    refine sq_q0 72 (.move (.tmp 71)) 4 (qv_move rfl) ?_
    refine sq_case (d := 72) rfl (fun _ => rfl) (fun g72 => ?_) (fun g72 => ?_)
    · replace g72 := kn g72
      refine sq_q (d := 73) (op := .move (.tmp 7)) (ty := 136) (g := some (13, true)) (by kernel_rfl) ⟨72, by kernel_rfl, rfl⟩ (fun _ h => nomatch h) (qv_move rfl) ?_
      refine sq_q (d := 74) (op := .move (.tmp 9)) (ty := 3) (g := some (13, true)) (by kernel_rfl) ⟨72, by kernel_rfl, rfl⟩ (fun _ h => nomatch h) (qv_move rfl) ?_
      refine sq_q (d := 75) (op := .indexAddr 136 (.tmp 73) (.tmp 74)) (ty := 0) (g := some (13, true)) (by kernel_rfl) ⟨72, by kernel_rfl, rfl⟩ (fun _ h => nomatch h) (qv_index un136 sz139 rfl rfl rfl (by omega)) ?_
      refine sq_q (d := 76) (op := .fieldAddr 139 (.tmp 75) 0) (ty := 0) (g := some (13, true)) (by kernel_rfl) ⟨72, by kernel_rfl, rfl⟩ (fun _ h => nomatch h) (qv_field rfl fd139_0) ?_
      refine sq_q (d := 77) (op := .load 77 (.tmp 76)) (ty := 77) (g := some (13, true)) (by kernel_rfl) ⟨72, by kernel_rfl, rfl⟩ (fun _ h => nomatch h) (qv_load rfl (by repeat first | exact At.of_mem (List.mem_append_right _ (List.mem_append_right _ (List.mem_append_left _ em))) | apply At.next) (ldv_el (E := eEntR) EH hx' sc77 (get_Entr_0 x'.x) rfl)) ?_
      refine sq_q (d := 78) (op := .move (.tmp 3)) (ty := 131) (g := some (13, true)) (by kernel_rfl) ⟨72, by kernel_rfl, rfl⟩ (fun _ h => nomatch h) (qv_move rfl) ?_
      refine sq_p (d := 79) (op := .call { callee := .value (.func 76), args := #[.tmp 78], argTypes := #[131] }) (ty := 77) (g := some (13, true)) (by kernel_rfl) ⟨72, by kernel_rfl, rfl⟩ (pv_callR en76 rfl (Sel.skipA Sel.app) (ct_MBootM hM2)) ?_
      refine sq_q (d := 80) (op := .binOp .neq 77 (.tmp 77) (.tmp 79) 77) (ty := 4) (g := some (13, true)) (by kernel_rfl) ⟨72, by kernel_rfl, rfl⟩ (fun _ h => nomatch h) (qv_neq rfl rfl rfl) ?_
      refine sq_q0 81 (.pick (.tmp 72) (.tmp 80) (.const (.bool false))) 4 (qv_pick_t rfl rfl) ?_
      refine SeqK.nil (fun β => ?_)
      refine gd_tail [] rfl (by kernel_rfl) (by kernel_rfl) ?_
      refine go_nil ?_
      exact ⟨_, by first | rfl | (simp [*]; done) | (simp; exact hep g64 g72), ⟨rfl, ⟨[81, 0, 3, 4, 5, 6, 7, 8, 9], rfl⟩, .auto⟩⟩
    replace g72 := kn g72
    refine sq_n (d := 73) (op := .move (.tmp 7)) (ty := 136) (g := some (13, true)) (by kernel_rfl) ⟨72, _, by kernel_rfl, rfl, rfl⟩ ?_
    refine sq_n (d := 74) (op := .move (.tmp 9)) (ty := 3) (g := some (13, true)) (by kernel_rfl) ⟨72, _, by kernel_rfl, rfl, rfl⟩ ?_
    refine sq_n (d := 75) (op := .indexAddr 136 (.tmp 73) (.tmp 74)) (ty := 0) (g := some (13, true)) (by kernel_rfl) ⟨72, _, by kernel_rfl, rfl, rfl⟩ ?_
    refine sq_n (d := 76) (op := .fieldAddr 139 (.tmp 75) 0) (ty := 0) (g := some (13, true)) (by kernel_rfl) ⟨72, _, by kernel_rfl, rfl, rfl⟩ ?_
    refine sq_n (d := 77) (op := .load 77 (.tmp 76)) (ty := 77) (g := some (13, true)) (by kernel_rfl) ⟨72, _, by kernel_rfl, rfl, rfl⟩ ?_
    refine sq_n (d := 78) (op := .move (.tmp 3)) (ty := 131) (g := some (13, true)) (by kernel_rfl) ⟨72, _, by kernel_rfl, rfl, rfl⟩ ?_
    refine sq_n (d := 79) (op := .call { callee := .value (.func 76), args := #[.tmp 78], argTypes := #[131] }) (ty := 77) (g := some (13, true)) (by kernel_rfl) ⟨72, _, by kernel_rfl, rfl, rfl⟩ ?_
    refine sq_n (d := 80) (op := .binOp .neq 77 (.tmp 77) (.tmp 79) 77) (ty := 4) (g := some (13, true)) (by kernel_rfl) ⟨72, _, by kernel_rfl, rfl, rfl⟩ ?_
    refine sq_q0 81 (.pick (.tmp 72) (.tmp 80) (.const (.bool false))) 4 (qv_pick_f rfl rfl) ?_
    refine SeqK.nil (fun β => ?_)
    refine gd_tail [] rfl (by kernel_rfl) (by kernel_rfl) ?_
    refine go_nil ?_
    exact ⟨_, by first | rfl | (simp [*]; done) | (simp; exact hep g64 g72), ⟨rfl, ⟨[81, 0, 3, 4, 5, 6, 7, 8, 9], rfl⟩, .auto⟩⟩
  replace h49 := kn h49
  refine p_exit 2 (by kernel_rfl) ?_
  change G _ _ _ _
  refine p_weaken [0, 3, 4, 5, 6, 7, 8] rfl ?_
  refine p_seq0 ?_
  refine p_seq0 ?_
  have hje : j = es'.length := by omega
  rw [show es'.take j = es' by rw [hje, List.take_length]]
  refine p_plain0 (0 :: []) ?_
  refine go_q0 10 (.assign (.const (.int .i64 0))) 3 (qv_assign rfl) ?_
  refine go_nil ?_
  change G _ _ _ _
  refine p_block 4 (by kernel_rfl) ?_
  refine p_loopE (by kernel_rfl) (fun s m => ∃ (n' : Nat), (n' ≤ ks.length) ∧ Ge s ⟨[], [(0, .slice p l.length c), (3, .pointer (some ⟨bm, 0, none⟩)), (4, .int .i64 cnt2), (5, .int .i64 i), (6, .int .i64 (cntC es' : Nat)), (7, .slice q es'.length cq), (8, .slice qk ks.length ck), (10, .int .i64 n')], A2 ++ (N2 ++ (A ++ (B ++ R)))⟩ ∧ m = ks.length + 1 - n') ?_ ?_
  · exact ⟨_, ⟨0, by omega, ⟨rfl, ⟨[0, 3, 4, 5, 6, 7, 8, 10], rfl⟩, .auto⟩, rfl⟩⟩
  rintro s m ⟨n', hn, hs, rfl⟩
  refine ge_ok hs ?_
  refine p_seq0 ?_
  refine p_seq0 ?_
  refine p_plain0 (0 :: 1 :: 2 :: 3 :: []) ?_
  refine go_q0 82 (.move (.tmp 10)) 3 (qv_move rfl) ?_
  refine go_q0 83 (.move (.tmp 8)) 86 (qv_move rfl) ?_
  refine go_q0 84 (.call { callee := .builtin .len, args := #[.tmp 83], argTypes := #[86] }) 3 (qv_lenS un86 rfl) ?_
  refine go_q0 85 (.binOp .lss 3 (.tmp 82) (.tmp 84) 3) 4 (qv_lss rfl rfl rfl) ?_
  refine go_nil ?_
  change G _ _ _ _
  refine p_weaken [0, 3, 4, 5, 6, 7, 8, 10, 85] rfl ?_
  refine p_cond (.tmp 85) (by kernel_rfl) rfl (fun h85 => ?_) (fun h85 => ?_)
  rotate_left
  · replace h85 := kn h85
    refine p_exit 4 (by kernel_rfl) ?_
    change G _ _ _ _
    refine p_weaken [0, 3, 4, 5, 6] rfl ?_
    refine p_seq0 ?_
    refine p_plain0 (0 :: 1 :: 2 :: []) ?_
    refine go_q0 145 (.move (.tmp 6)) 3 (qv_move rfl) ?_
    refine go_q0 146 (.move (.tmp 4)) 3 (qv_move rfl) ?_
    refine go_q0 147 (.binOp .neq 3 (.tmp 145) (.tmp 146) 3) 4 (qv_neq rfl rfl rfl) ?_
    refine go_nil ?_
    change G _ _ _ _
    refine p_weaken [0, 3, 4, 5, 147] rfl ?_
    refine p_cond (.tmp 147) (by kernel_rfl) rfl (fun h147 => ?_) (fun h147 => ?_)
    · replace h147 := kn h147
      exact absurd (by rw [hmv.cnt]; exact congrArg Int.ofNat hI2.1) h147
    replace h147 := kn h147
    refine p_skip0 ?_
    change G _ _ _ _
    refine p_weaken [0, 3, 4, 5] rfl ?_
    refine p_plain0 (0 :: 1 :: 2 :: []) ?_
    refine go_q0 23 (.move (.tmp 5)) 3 (qv_move rfl) ?_
    refine go_q0 24 (.binOp .add 3 (.tmp 23) (.const (.int .i64 1)) 3) 3 (qv_add rfl rfl (by first | exact IntWalk.i64_in _ (by omega) | exact IntWalk.i64_in _ (by dsimp only; omega) | rfl)) ?_
    refine go_q0 5 (.assign (.tmp 24)) 3 (qv_assign rfl) ?_
    refine go_nil ?_
    exact ⟨_, ⟨i + 1, S2, N2, cnt2, by omega, hM2, hI2, by omega, by omega, hc2, ⟨rfl, ⟨[0, 3, 4, 5], rfl⟩, .auto⟩, rfl⟩, by omega⟩
  replace h85 := kn h85
  refine p_skip0 ?_
  change G _ _ _ _
  refine p_weaken [0, 3, 4, 5, 6, 7, 8, 10] rfl ?_
  refine p_seq0 ?_
  refine p_block 5 (by kernel_rfl) ?_
  refine p_seq0 ?_
  obtain ⟨kb, ko, kcu, kee, kff, hpk, km, KH⟩ := hOk.lst.at_ (i := n') (by omega)
  obtain ⟨k, hk⟩ : ∃ k, ks[n']? = some k := ⟨_, List.getElem?_eq_getElem (by omega)⟩
  subst hpk
  refine p_plain0 (0 :: []) ?_
  refine go_s0 (some 11) (.alloc 32) 0 ?_
  refine os_allocA rfl ze32 (fun b11 => ?_)
  refine go_nil ?_
  change G _ _ _ _
  refine p_seq0 ?_
  refine p_seq0 ?_
  refine p_plain0 (0 :: []) ?_
  refine go_q0 12 (.assign (.const (.int .i64 0))) 3 (qv_assign rfl) ?_
  refine go_nil ?_
  change G _ _ _ _
  refine p_block 6 (by kernel_rfl) ?_
  refine p_loopE (by kernel_rfl) (fun s m => ∃ (j : Nat) (T1 : Tot), (j ≤ es'.length) ∧ (T1 = (es'.take j).foldl (lawEnt k) ⟨0, 0⟩) ∧ (T1.Wf) ∧ Ge s ⟨[], [(0, .slice p l.length c), (3, .pointer (some ⟨bm, 0, none⟩)), (4, .int .i64 cnt2), (5, .int .i64 i), (6, .int .i64 (cntC es' : Nat)), (7, .slice q es'.length cq), (8, .slice (some ⟨kb, ko, none⟩) ks.length ck), (10, .int .i64 n'), (11, .pointer (some ⟨b11, 0, none⟩)), (12, .int .i64 j)], (b11, .cells T1.c 32 (0, 0)) :: (A2 ++ (N2 ++ (A ++ (B ++ R))))⟩ ∧ m = es'.length + 1 - j) ?_ ?_
  · exact ⟨_, ⟨0, ⟨0, 0⟩, by omega, rfl, tot0_wf, ⟨rfl, ⟨[0, 3, 4, 5, 6, 7, 8, 10, 11, 12], rfl⟩, .auto⟩, rfl⟩⟩
  rintro s m ⟨j, T1, hj, hT1, hW1, hs, rfl⟩
  refine ge_ok hs ?_
  refine p_seq0 ?_
  refine p_seq0 ?_
  refine p_plain0 (0 :: 1 :: 2 :: 3 :: []) ?_
  refine go_q0 88 (.move (.tmp 12)) 3 (qv_move rfl) ?_
  refine go_q0 89 (.move (.tmp 7)) 136 (qv_move rfl) ?_
  refine go_q0 90 (.call { callee := .builtin .len, args := #[.tmp 89], argTypes := #[136] }) 3 (qv_lenS un136 rfl) ?_
  refine go_q0 91 (.binOp .lss 3 (.tmp 88) (.tmp 90) 3) 4 (qv_lss rfl rfl rfl) ?_
  refine go_nil ?_
  change G _ _ _ _
  refine p_weaken [0, 3, 4, 5, 6, 7, 8, 10, 11, 12, 91] rfl ?_
  refine p_cond (.tmp 91) (by kernel_rfl) rfl (fun h91 => ?_) (fun h91 => ?_)
  rotate_left
  · replace h91 := kn h91
    refine p_exit 6 (by kernel_rfl) ?_
    change G _ _ _ _
    refine p_weaken [0, 3, 4, 5, 6, 7, 8, 10, 11] rfl ?_
    refine p_seq0 ?_
    have hje : j = es'.length := by omega
    rw [hje, List.take_length] at hT1
    refine p_draw (by kernel_rfl) mixed 9 9 _ (fun _ h => h) (by kernel_rfl) ?_
    refine gd_all (0 :: 1 :: 2 :: 3 :: 4 :: 5 :: 6 :: 7 :: 8 :: []) _ rfl (by kernel_rfl) (by decide) (fun _ h => h) rfl ?_
    refine sq_q0 136 (.move (.tmp 3)) 131 (qv_move rfl) ?_
    refine sq_q0 137 (.move (.tmp 8)) 86 (qv_move rfl) ?_
    refine sq_q0 138 (.move (.tmp 10)) 3 (qv_move rfl) ?_
    refine sq_q0 139 (.indexAddr 86 (.tmp 137) (.tmp 138)) 0 (qv_index un86 sz27 rfl rfl rfl (by omega)) ?_
    refine sq_q0 140 (.load 27 (.tmp 139)) 27 (qv_load rfl (by repeat first | exact At.of_mem (.tail _ (List.mem_append_left _ km)) | apply At.next) (ldv_els (E := eKey) KH hk (by decide) agg27 rfl)) ?_
    refine sq_p (d := 141) (op := .call { callee := .value (.func 77), args := #[.tmp 136, .tmp 140], argTypes := #[131, 27] }) (ty := 142) (g := none) (by kernel_rfl) trivial (pv_callR en77 rfl (Sel.skip (Sel.skipA Sel.app)) (ct_MOf (k := k) hM2)) ?_
    refine sq_q0 142 (.field 142 (.tmp 141) 5) 32 (qv_fieldC rfl) ?_
    refine sq_q0 143 (.load 32 (.tmp 11)) 32 (qv_load rfl .auto (ldv_agg agg32 (extw_Tot _) (Nat.le_of_ble_eq_true rfl))) ?_
    refine sq_q0 144 (.binOp .neq 32 (.tmp 142) (.tmp 143) 32) 4 (qv_neq_32 rfl rfl rfl) ?_
    refine SeqK.nil (fun β => ?_)
    refine gd_tail [] rfl (by kernel_rfl) (by kernel_rfl) ?_
    refine go_nil ?_
    change G _ _ _ _
    refine p_weaken [0, 3, 4, 5, 6, 7, 8, 10, 144] rfl ?_
    refine p_cond (.tmp 144) (by kernel_rfl) rfl (fun h144 => ?_) (fun h144 => ?_)
    · replace h144 := kn h144
      exact absurd (by rw [of_law k hmv, ← hT1]) h144
    replace h144 := kn h144
    refine p_skip0 ?_
    change G _ _ _ _
    refine p_weaken [0, 3, 4, 5, 6, 7, 8, 10] rfl ?_
    refine p_plain0 (0 :: 1 :: 2 :: []) ?_
    refine go_q0 86 (.move (.tmp 10)) 3 (qv_move rfl) ?_
    refine go_q0 87 (.binOp .add 3 (.tmp 86) (.const (.int .i64 1)) 3) 3 (qv_add rfl rfl (by first | exact IntWalk.i64_in _ (by omega) | exact IntWalk.i64_in _ (by dsimp only; omega) | rfl)) ?_
    refine go_q0 10 (.assign (.tmp 87)) 3 (qv_assign rfl) ?_
    refine go_nil ?_
    exact ⟨_, ⟨n' + 1, by omega, ⟨rfl, ⟨[0, 3, 4, 5, 6, 7, 8, 10], rfl⟩, .auto⟩, rfl⟩, by omega⟩
  replace h91 := kn h91
  refine p_skip0 ?_
  change G _ _ _ _
  refine p_weaken [0, 3, 4, 5, 6, 7, 8, 10, 11, 12] rfl ?_
  refine p_seq0 ?_
  refine p_block 7 (by kernel_rfl) ?_
  refine p_seq0 ?_
  obtain ⟨eb, eo, ecu, eee, eff, hpq, em, EH⟩ := hO.lst.at_ (i := j) (by omega)
  obtain ⟨x', hx'⟩ : ∃ x', es'[j]? = some x' := ⟨_, List.getElem?_eq_getElem (by omega)⟩
  have hxm' := List.mem_of_getElem? hx'
  have hBx := hB x' hxm'
  have hxo : EOk x' := by
    obtain ⟨a, ha, hxa⟩ := hmv.mem hxm'
    rw [hxa]
    exact ⟨(hM2.mi.ew a ha).ep, (hM2.mi.ew a ha).nn, (hM2.mi.ew a ha).rw, (hM2.mi.ew a ha).rl⟩
  have hxl' := hxo.rl
  subst hpq
  refine p_plain0 (0 :: []) ?_
  refine go_q0 13 (.assign (.const (.int .i64 0))) 3 (qv_assign rfl) ?_
  refine go_nil ?_
  change G _ _ _ _
  refine p_block 8 (by kernel_rfl) ?_
  refine p_loopE (by kernel_rfl) (fun s m => ∃ (rj : Nat) (T2 : Tot), (rj ≤ x'.recs.length) ∧ (x'.credited = false → rj = 0) ∧ (T2 = (x'.recs.take rj).foldl (lawRec k) T1) ∧ (T2.Wf) ∧ Ge s ⟨[], [(0, .slice p l.length c), (3, .pointer (some ⟨bm, 0, none⟩)), (4, .int .i64 cnt2), (5, .int .i64 i), (6, .int .i64 (cntC es' : Nat)), (7, .slice (some ⟨eb, eo, none⟩) es'.length cq), (8, .slice (some ⟨kb, ko, none⟩) ks.length ck), (10, .int .i64 n'), (11, .pointer (some ⟨b11, 0, none⟩)), (12, .int .i64 j), (13, .int .i64 rj)], (b11, .cells T2.c 32 (0, 0)) :: (A2 ++ (N2 ++ (A ++ (B ++ R))))⟩ ∧ m = x'.recs.length + 1 - rj) ?_ ?_
  · exact ⟨_, ⟨0, T1, by omega, fun _ => rfl, rfl, hW1, ⟨rfl, ⟨[0, 3, 4, 5, 6, 7, 8, 10, 11, 12, 13], rfl⟩, .auto⟩, rfl⟩⟩
  rintro s m ⟨rj, T2, hrj, hcr, hT2, hW2, hs, rfl⟩
  refine ge_ok hs ?_
  refine p_seq0 ?_
  refine p_seqK [0, 3, 4, 5, 6, 7, 8, 10, 11, 12, 13] rfl (fun frk Mk s => ∃ (z : Bool), (z = (decide ((rj : Int) < (x'.recs.length : Int)) && x'.credited)) ∧ Ge s ⟨[], (108, .bool z) :: frk, (b11, .cells T2.c 32 (0, 0)) :: (A2 ++ (N2 ++ (A ++ (B ++ R))))⟩) (by kernel_rfl) ?_ ?_
  · refine p_plain0 (0 :: 1 :: 2 :: 3 :: 4 :: 5 :: 6 :: 7 :: 8 :: 9 :: 10 :: 11 :: 12 :: 13 :: 14 :: []) ?_
    refine go_q0 94 (.move (.tmp 13)) 3 (qv_move rfl) ?_
    refine go_q0 95 (.move (.tmp 7)) 136 (qv_move rfl) ?_
    refine go_q0 96 (.move (.tmp 12)) 3 (qv_move rfl) ?_
    refine go_q0 97 (.indexAddr 136 (.tmp 95) (.tmp 96)) 0 (qv_index un136 sz139 rfl rfl rfl (by omega)) ?_
    refine go_q0 98 (.fieldAddr 139 (.tmp 97) 2) 0 (qv_field rfl fd139_2) ?_
    refine go_q0 99 (.load 102 (.tmp 98)) 102 (qv_load rfl (by repeat first | exact At.of_mem (.tail _ (List.mem_append_right _ (List.mem_append_right _ (List.mem_append_left _ em)))) | apply At.next) (ldv_el (E := eEntR) EH hx' sc102 (get_Entr_2 x'.x) rfl)) ?_
    refine go_q0 100 (.call { callee := .builtin .len, args := #[.tmp 99], argTypes := #[102] }) 3 (qv_lenS un102 rfl) ?_
    refine go_q0 101 (.binOp .lss 3 (.tmp 94) (.tmp 100) 3) 4 (qv_lss rfl rfl rfl) ?_
    refine go_q0 102 (.move (.tmp 101)) 4 (qv_move rfl) ?_
    refine go_case (d := 102) rfl (fun g102 => ?_) (fun g102 => ?_)
    · replace g102 := kn g102
      refine go_q (d := 103) (op := .move (.tmp 7)) (ty := 136) (g := some (8, true)) (by kernel_rfl) ⟨102, by kernel_rfl, rfl⟩ rfl (qv_move rfl) ?_
      refine go_q (d := 104) (op := .move (.tmp 12)) (ty := 3) (g := some (8, true)) (by kernel_rfl) ⟨102, by kernel_rfl, rfl⟩ rfl (qv_move rfl) ?_
      refine go_q (d := 105) (op := .indexAddr 136 (.tmp 103) (.tmp 104)) (ty := 0) (g := some (8, true)) (by kernel_rfl) ⟨102, by kernel_rfl, rfl⟩ rfl (qv_index un136 sz139 rfl rfl rfl (by omega)) ?_
      refine go_q (d := 106) (op := .fieldAddr 139 (.tmp 105) 5) (ty := 0) (g := some (8, true)) (by kernel_rfl) ⟨102, by kernel_rfl, rfl⟩ rfl (qv_field rfl fd139_5) ?_
      refine go_q (d := 107) (op := .load 4 (.tmp 106)) (ty := 4) (g := some (8, true)) (by kernel_rfl) ⟨102, by kernel_rfl, rfl⟩ rfl (qv_load rfl (by repeat first | exact At.of_mem (.tail _ (List.mem_append_right _ (List.mem_append_right _ (List.mem_append_left _ em)))) | apply At.next) (ldv_el (E := eEntR) EH hx' sc4 (get_Entr_5 x'.x) rfl)) ?_
      refine go_q0 108 (.pick (.tmp 102) (.tmp 107) (.const (.bool false))) 4 (qv_pick_t rfl rfl) ?_
      refine go_nil ?_
      exact ⟨_, by first | (rw [decide_eq_true g102]; rfl) | (rw [decide_eq_false g102]; rfl), ⟨rfl, ⟨[108, 0, 3, 4, 5, 6, 7, 8, 10, 11, 12, 13], rfl⟩, .auto⟩⟩
    replace g102 := kn g102
    refine go_n (d := 103) (op := .move (.tmp 7)) (ty := 136) (g := some (8, true)) (by kernel_rfl) ⟨102, _, by kernel_rfl, rfl, rfl⟩ rfl ?_
    refine go_n (d := 104) (op := .move (.tmp 12)) (ty := 3) (g := some (8, true)) (by kernel_rfl) ⟨102, _, by kernel_rfl, rfl, rfl⟩ rfl ?_
    refine go_n (d := 105) (op := .indexAddr 136 (.tmp 103) (.tmp 104)) (ty := 0) (g := some (8, true)) (by kernel_rfl) ⟨102, _, by kernel_rfl, rfl, rfl⟩ rfl ?_
    refine go_n (d := 106) (op := .fieldAddr 139 (.tmp 105) 5) (ty := 0) (g := some (8, true)) (by kernel_rfl) ⟨102, _, by kernel_rfl, rfl, rfl⟩ rfl ?_
    refine go_n (d := 107) (op := .load 4 (.tmp 106)) (ty := 4) (g := some (8, true)) (by kernel_rfl) ⟨102, _, by kernel_rfl, rfl, rfl⟩ rfl ?_
    refine go_q0 108 (.pick (.tmp 102) (.tmp 107) (.const (.bool false))) 4 (qv_pick_f rfl rfl) ?_
    refine go_nil ?_
    exact ⟨_, by first | (rw [decide_eq_true g102]; rfl) | (rw [decide_eq_false g102]; rfl), ⟨rfl, ⟨[108, 0, 3, 4, 5, 6, 7, 8, 10, 11, 12, 13], rfl⟩, .auto⟩⟩
  rintro s ⟨z, hz, hs⟩
  refine ge_ok hs ?_
  refine p_cond (.tmp 108) (by kernel_rfl) rfl (fun h108 => ?_) (fun h108 => ?_)
  rotate_left
  · replace h108 := kn h108
    rw [h108] at hz
    have hz2 : x'.credited = true → rj = x'.recs.length := fun h => by
      rw [h, Bool.and_true] at hz
      have := of_decide_eq_false hz.symm
      omega
    refine p_exit 8 (by kernel_rfl) ?_
    change G _ _ _ _
    refine p_weaken [0, 3, 4, 5, 6, 7, 8, 10, 11, 12] rfl ?_
    have hT2n : T2 = (es'.take (j + 1)).foldl (lawEnt k) ⟨0, 0⟩ := by
      rw [lawEnt_succ hx', ← hT1]
      unfold lawEnt
      cases hcc : x'.credited with
      | true => rw [if_pos rfl, hT2, hz2 hcc, List.take_length]
      | false => rw [if_neg (by decide), hT2, hcr hcc]; rfl
    refine p_plain0 (0 :: 1 :: 2 :: []) ?_
    refine go_q0 92 (.move (.tmp 12)) 3 (qv_move rfl) ?_
    refine go_q0 93 (.binOp .add 3 (.tmp 92) (.const (.int .i64 1)) 3) 3 (qv_add rfl rfl (by first | exact IntWalk.i64_in _ (by omega) | exact IntWalk.i64_in _ (by dsimp only; omega) | rfl)) ?_
    refine go_q0 12 (.assign (.tmp 93)) 3 (qv_assign rfl) ?_
    refine go_nil ?_
    exact ⟨_, ⟨j + 1, T2, by omega, hT2n, hW2, ⟨rfl, ⟨[0, 3, 4, 5, 6, 7, 8, 10, 11, 12], rfl⟩, .auto⟩, rfl⟩, by omega⟩
  replace h108 := kn h108
  rw [h108] at hz
  have hz2 := hz.symm
  simp only [Bool.and_eq_true, decide_eq_true_eq] at hz2
  obtain ⟨hrl, hcre⟩ := hz2
  refine p_skip0 ?_
  change G _ _ _ _
  refine p_weaken [0, 3, 4, 5, 6, 7, 8, 10, 11, 12, 13] rfl ?_
  refine p_seq0 ?_
  refine p_block 9 (by kernel_rfl) ?_
  refine p_seq0 ?_
  obtain ⟨rb, ro, rcu, ree, rff, hpr, rm, RH⟩ := hBx.at_ (i := rj) (by omega)
  obtain ⟨r, hr⟩ : ∃ r, x'.recs[rj]? = some r := ⟨_, List.getElem?_eq_getElem (by omega)⟩
  have hrw := hxo.rw r (List.mem_of_getElem? hr)
  have hsl : (eEntR.c x')[2]? = some (.slice (some ⟨rb, ro, none⟩) x'.recs.length x'.cap) := by show some (Value.slice x'.p x'.recs.length x'.cap) = _; rw [hpr]
  refine p_draw (by kernel_rfl) mixed 14 14 _ (fun _ h => h) (by kernel_rfl) ?_
  refine gd_all (0 :: 1 :: 2 :: 3 :: 4 :: 5 :: 6 :: 7 :: 8 :: 9 :: 10 :: 11 :: 12 :: 13 :: []) _ rfl (by kernel_rfl) (by decide) (fun _ h => h) rfl ?_
  refine sq_q0 111 (.move (.tmp 7)) 136 (qv_move rfl) ?_
  refine sq_q0 112 (.move (.tmp 12)) 3 (qv_move rfl) ?_
  refine sq_q0 113 (.indexAddr 136 (.tmp 111) (.tmp 112)) 0 (qv_index un136 sz139 rfl rfl rfl (by omega)) ?_
  refine sq_q0 114 (.fieldAddr 139 (.tmp 113) 2) 0 (qv_field rfl fd139_2) ?_
  refine sq_q0 115 (.load 102 (.tmp 114)) 102 (qv_load rfl (by repeat first | exact At.of_mem (.tail _ (List.mem_append_right _ (List.mem_append_right _ (List.mem_append_left _ em)))) | apply At.next) (ldv_el (E := eEntR) EH hx' sc102 hsl rfl)) ?_
  refine sq_q0 116 (.move (.tmp 13)) 3 (qv_move rfl) ?_
  refine sq_q0 117 (.indexAddr 102 (.tmp 115) (.tmp 116)) 0 (qv_index un102 sz35 rfl rfl rfl (by omega)) ?_
  refine sq_q0 118 (.fieldAddr 35 (.tmp 117) 0) 0 (qv_field rfl fd35_0) ?_
  refine sq_q0 119 (.load 27 (.tmp 118)) 27 (qv_load rfl (by repeat first | exact At.of_mem (.tail _ (List.mem_append_right _ (List.mem_append_right _ (List.mem_append_right _ (List.mem_append_left _ rm))))) | apply At.next) (ldv_elp (E := eRec) RH hr agg27 (ext_Rec_0_37 r) (by decide) (by decide) rfl)) ?_
  refine sq_q0 120 (.move (.tmp 8)) 86 (qv_move rfl) ?_
  refine sq_q0 121 (.move (.tmp 10)) 3 (qv_move rfl) ?_
  refine sq_q0 122 (.indexAddr 86 (.tmp 120) (.tmp 121)) 0 (qv_index un86 sz27 rfl rfl rfl (by omega)) ?_
  refine sq_q0 123 (.load 27 (.tmp 122)) 27 (qv_load rfl (by repeat first | exact At.of_mem (.tail _ (List.mem_append_left _ km)) | apply At.next) (ldv_els (E := eKey) KH hk (by decide) agg27 rfl)) ?_
  refine sq_q0 124 (.binOp .eql 27 (.tmp 119) (.tmp 123) 27) 4 (qv_eql_27 rfl rfl rfl) ?_
  refine SeqK.nil (fun β => ?_)
  refine gd_tail [] rfl (by kernel_rfl) (by kernel_rfl) ?_
  refine go_nil ?_
  change G _ _ _ _
  refine p_weaken [0, 3, 4, 5, 6, 7, 8, 10, 11, 12, 13, 124] rfl ?_
  refine p_cond (.tmp 124) (by kernel_rfl) rfl (fun h124 => ?_) (fun h124 => ?_)
  rotate_left
  · replace h124 := kn h124
    have hT3n : T2 = (x'.recs.take (rj + 1)).foldl (lawRec k) T1 := by rw [lawRec_succ hr, ← hT2]; unfold lawRec; rw [if_neg h124]
    have hW3n := hW2
    refine p_skip0 ?_
    change G _ _ _ _
    refine p_weaken [0, 3, 4, 5, 6, 7, 8, 10, 11, 12, 13] rfl ?_
    refine p_plain0 (0 :: 1 :: 2 :: []) ?_
    refine go_q0 109 (.move (.tmp 13)) 3 (qv_move rfl) ?_
    refine go_q0 110 (.binOp .add 3 (.tmp 109) (.const (.int .i64 1)) 3) 3 (qv_add rfl rfl (by first | exact IntWalk.i64_in _ (by omega) | exact IntWalk.i64_in _ (by dsimp only; omega) | rfl)) ?_
    refine go_q0 13 (.assign (.tmp 110)) 3 (qv_assign rfl) ?_
    refine go_nil ?_
    exact ⟨_, ⟨rj + 1, _, by omega, fun h => (by rw [hcre] at h; cases h), hT3n, hW3n, ⟨rfl, ⟨[0, 3, 4, 5, 6, 7, 8, 10, 11, 12, 13], rfl⟩, .auto⟩, rfl⟩, by omega⟩
  replace h124 := kn h124
  have hT3n : T2.plus ⟨r.packets, r.bytes⟩ = (x'.recs.take (rj + 1)).foldl (lawRec k) T1 := by rw [lawRec_succ hr, ← hT2]; unfold lawRec; rw [if_pos h124]
  have hW3n : (T2.plus ⟨r.packets, r.bytes⟩).Wf := tot_wf (Tot.plus_ok (tot_ok hW2) ⟨hrw.packets_, hrw.bytes_⟩)
  refine p_draw (by kernel_rfl) mixed 11 12 _ (fun _ h => h) (by kernel_rfl) ?_
  refine gd_all (0 :: 1 :: 2 :: 3 :: 4 :: 5 :: 6 :: 7 :: 8 :: 9 :: 10 :: []) _ rfl (by kernel_rfl) (by decide) (fun _ h => h) rfl ?_
  refine sq_q0 125 (.load 32 (.tmp 11)) 32 (qv_load rfl .auto (ldv_agg agg32 (extw_Tot _) (Nat.le_of_ble_eq_true rfl))) ?_
  refine sq_q0 126 (.move (.tmp 7)) 136 (qv_move rfl) ?_
  refine sq_q0 127 (.move (.tmp 12)) 3 (qv_move rfl) ?_
  refine sq_q0 128 (.indexAddr 136 (.tmp 126) (.tmp 127)) 0 (qv_index un136 sz139 rfl rfl rfl (by omega)) ?_
  refine sq_q0 129 (.fieldAddr 139 (.tmp 128) 2) 0 (qv_field rfl fd139_2) ?_
  refine sq_q0 130 (.load 102 (.tmp 129)) 102 (qv_load rfl (by repeat first | exact At.of_mem (.tail _ (List.mem_append_right _ (List.mem_append_right _ (List.mem_append_left _ em)))) | apply At.next) (ldv_el (E := eEntR) EH hx' sc102 hsl rfl)) ?_
  refine sq_q0 131 (.move (.tmp 13)) 3 (qv_move rfl) ?_
  refine sq_q0 132 (.indexAddr 102 (.tmp 130) (.tmp 131)) 0 (qv_index un102 sz35 rfl rfl rfl (by omega)) ?_
  refine sq_q0 133 (.load 35 (.tmp 132)) 35 (qv_load rfl (by repeat first | exact At.of_mem (.tail _ (List.mem_append_right _ (List.mem_append_right _ (List.mem_append_right _ (List.mem_append_left _ rm))))) | apply At.next) (ldv_els (E := eRec) RH hr (by decide) agg35 rfl)) ?_
  refine sq_p (d := 134) (op := .call { callee := .value (.func 18), args := #[.tmp 133], argTypes := #[35] }) (ty := 32) (g := none) (by kernel_rfl) trivial (pv_call en18 rfl (pu_Total r)) ?_
  refine sq_p (d := 135) (op := .call { callee := .value (.func 19), args := #[.tmp 125, .tmp 134], argTypes := #[32, 32] }) (ty := 32) (g := none) (by kernel_rfl) trivial (pv_call en19 rfl (pu_Plus (tot_ok hW2) ⟨hrw.packets_, hrw.bytes_⟩)) ?_
  refine SeqK.nil (fun β => ?_)
  refine gd_tail [11] rfl (by kernel_rfl) (by kernel_rfl) ?_
  refine go_s0 none (.store 32 (.tmp 11) (.tmp 135)) 0 ?_
  refine os_store rfl rfl sz32 rfl (one_Tot _) .auto (Nat.le_of_ble_eq_true rfl) (splw_Tot _ _ (siz_Tot _)) ?_
  refine go_nil ?_
  change G _ _ _ _
  refine p_weaken [0, 3, 4, 5, 6, 7, 8, 10, 11, 12, 13] rfl ?_
  refine p_plain0 (0 :: 1 :: 2 :: []) ?_
  refine go_q0 109 (.move (.tmp 13)) 3 (qv_move rfl) ?_
  refine go_q0 110 (.binOp .add 3 (.tmp 109) (.const (.int .i64 1)) 3) 3 (qv_add rfl rfl (by first | exact IntWalk.i64_in _ (by omega) | exact IntWalk.i64_in _ (by dsimp only; omega) | rfl)) ?_
  refine go_q0 13 (.assign (.tmp 110)) 3 (qv_assign rfl) ?_
  refine go_nil ?_
  exact ⟨_, ⟨rj + 1, _, by omega, fun h => (by rw [hcre] at h; cases h), hT3n, hW3n, ⟨rfl, ⟨[0, 3, 4, 5, 6, 7, 8, 10, 11, 12, 13], rfl⟩, .auto⟩, rfl⟩, by omega⟩
end Go.Proofs.Ytobmcpoejhhemaa
