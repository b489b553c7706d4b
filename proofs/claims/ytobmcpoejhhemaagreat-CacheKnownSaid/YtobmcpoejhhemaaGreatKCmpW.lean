import Derived.Test.YtobmcpoejhhemaaGreatKRefB
import Derived.Test.YtobmcpoejhhemaaGreatKLay
import Derived.Lib.BytesEntry
namespace Go.Proofs.YtobmcpoejhhemaaGreat
open Go.E

theorem qv_bstr {P : Program} {fr : Fr} {M : Mem} {ty s d e : TypeId} {x : Operand} {p : Option Addr} {n c : Nat} {l : List Int} (hs : P.underlying s = some (.slice e)) (he : P.underlying e = some (.int .u8)) (hd : P.underlying d = some .string)
    (hx : evo fr x = some (.slice p n c)) (hn : n = l.length) (h : Lst (eI .u8) p l M) : QV P (.convert s d x) ty fr M (.string (strOfNums l)) := fun o ho _ a w m ds hf hM => ⟨by simp, by
  subst hn
  have hr : (convert s d (.slice p l.length c)).run P w = .ok (.string (strOfNums l)) w := by
    rw [run_convert_bytes_string w s d e p l.length c hs he hd]
    cases p with
    | none =>
      have hl : l = [] := by
        rcases h with h | ⟨b, off, cur, e, fz, h, _⟩
        · exact h
        · cases h
      subst hl
      rfl
    | some ad =>
      have hc : ∀ j v, (l.map (Value.int .u8))[j]? = some v → w.cell? (ad.add j) = some v := fun j v hj => by
        rcases h with rfl | ⟨b, off, cur, e, fz, h, hm, hh⟩
        · simp at hj
        · cases h
          have e1 : (⟨b, off, none⟩ : Addr).add j = ⟨b, off + j, none⟩ := by unfold Addr.add; split <;> simp_all
          rw [e1, cell_of_row w b _ cur _ fz (hM _ hm)]
          rw [List.getElem?_map] at hj
          obtain ⟨x, hx1, rfl⟩ := Option.map_eq_some_iff.1 hj
          have := hh.cell hx1 (k := 0) (by decide)
          simpa [eI] using this
      have hl := run_loadCells_list (P := P) w ad (l.map (Value.int .u8)) hc
      rw [List.length_map] at hl
      rw [run_bytesToString w ad l.length c l hl]
      congr 2
      have hf : ∀ (l : List Int) (b : ByteArray), l.foldl (fun r n => r.push (UInt8.ofNat n.toNat)) b = ⟨b.data ++ (l.map fun n => UInt8.ofNat n.toNat).toArray⟩ := by
        intro l
        induction l with
        | nil => intro b; simp
        | cons x l ih =>
          intro b
          rw [List.foldl_cons, ih]
          apply ByteArray.ext
          simp [ByteArray.push]
      rw [hf]
      apply ByteArray.ext
      show (#[] : Array UInt8) ++ _ = _
      simp [strOfNums]
  simp only [execOp, ho, hf.ev hx, Sem.run_bind, hr, Result.andThen, Sem.run_pure]⟩
theorem qv_strlss {P : Program} {fr : Fr} {M : Mem} {ty t u : TypeId} {x y : Operand} {l l' : List Int} {b : Bool} (hx : evo fr x = some (.string (strOfNums l))) (hy : evo fr y = some (.string (strOfNums l'))) (hb : decide (Lib.compareBytes (Lib.bytesOf l) (Lib.bytesOf l') < 0) = b) : QV P (.binOp .lss t x y u) ty fr M (.bool b) :=
  qv_bin hx hy (fun w => by simp [eqGuard, Sem.run_pure]) (fun w => by
    rw [binOp_string_lss, Lib.strOfNums_toList, Lib.strOfNums_toList, cb_less, hb]
    rfl)
theorem qv_strgtr {P : Program} {fr : Fr} {M : Mem} {ty t u : TypeId} {x y : Operand} {l l' : List Int} {b : Bool} (hx : evo fr x = some (.string (strOfNums l))) (hy : evo fr y = some (.string (strOfNums l'))) (hb : decide (0 < Lib.compareBytes (Lib.bytesOf l) (Lib.bytesOf l')) = b) : QV P (.binOp .gtr t x y u) ty fr M (.bool b) :=
  qv_bin hx hy (fun w => by simp [eqGuard, Sem.run_pure]) (fun w => by
    have e : ∀ a c : List UInt8, (!(Op.bytesLess a c || a == c)) = decide (0 < Lib.compareBytes a c) := fun a c => by
      rw [cb_less]
      rcases cb_range a c with h | h | h
      · rw [h]; rfl
      · have := cb_zero a c h
        subst this
        rw [h]; simp
      · have hne : (a == c) = false := by
          rw [beq_eq_false_iff_ne]
          intro e; subst e; rw [cb_self] at h; cases h
        rw [h, hne]; rfl
    have hs : binOp .gtr t (.string (strOfNums l)) (.string (strOfNums l')) = (pure (.bool (!(Op.bytesLess (strOfNums l).toList (strOfNums l').toList || (strOfNums l).toList == (strOfNums l').toList))) : Sem Value) := by simp [binOp, Op.stringOp]
    rw [hs, Lib.strOfNums_toList, Lib.strOfNums_toList, e, hb]
    rfl)

theorem pu_Cmp (a b : Key) (ha : a.Wf) (hb : b.Wf) : Pu Tryz.prog 77 [.agg a.c, .agg b.c] (.int .i64 (cmpK a b)) := by
  refine ct_body (rv := [.tmp 4]) [(0, _), (1, _)] Tryz.func77 (by kernel_rfl) Tryz.ntmps77 Tryz.results77 rfl rfl (fun w0 => ?_)
  refine p_seq0 ?_
  refine p_plain0 (0 :: 1 :: 2 :: []) ?_
  refine go_s0 (some 2) (.box 29 (.tmp 0)) 0 ?_
  refine os_boxA rfl rfl (fun b2 => ?_)
  refine go_s0 (some 3) (.box 29 (.tmp 1)) 0 ?_
  refine os_boxA rfl rfl (fun b3 => ?_)
  refine go_q0 4 (.assign (.const (.int .i64 0))) 3 (qv_assign rfl) ?_
  refine go_nil ?_
  change G _ _ _ _
  refine p_weaken [2, 3, 4] rfl ?_
  refine p_seq0 ?_
  refine p_draw (by kernel_rfl) mixed 5 6 _ (fun _ h => h) (by kernel_rfl) ?_
  refine gd_q (i := 0) (d := 5) (op := .load 29 (.tmp 2)) (ty := 29) (g := none) (by kernel_rfl) trivial rfl (by kernel_rfl) (by kernel_rfl) (by kernel_rfl) (by kernel_rfl) (qv_load rfl .auto (ldv_agg agg29 (extw_Key _) (Nat.le_of_ble_eq_true rfl))) ?_
  refine gd_q (i := 2) (d := 7) (op := .load 29 (.tmp 3)) (ty := 29) (g := none) (by kernel_rfl) trivial rfl (by kernel_rfl) (by kernel_rfl) (by kernel_rfl) (by kernel_rfl) (qv_load rfl .auto (ldv_agg agg29 (extw_Key _) (Nat.le_of_ble_eq_true rfl))) ?_
  refine gd_one (i := 1) (d := some 6) (op := .call { callee := .value (.func 104), args := #[.tmp 5], argTypes := #[29] }) (ty := 143) (g := none) (by kernel_rfl) trivial rfl (by kernel_rfl) ?_
  refine os_call (Nat.le_of_ble_eq_true rfl) en104 rfl .auto (ct_KeyBytes a ha) ?_
  rintro v6 A6 ⟨p6, c6, rfl, h6⟩
  try dsimp only [List.nil_append, List.cons_append]
  refine ⟨fun _ h => by first | exact h | (cases h; done) | exact .tail _ h | exact .tail _ (.tail _ h) | exact List.mem_append_right _ (List.mem_append_right _ h) | exact List.mem_append_right _ h | (simp only [List.mem_cons, List.not_mem_nil, or_false] at h ⊢; first | exact .inl h | exact .inr (.inl h) | exact .inr (.inr (.inl h)) | exact .inr (.inr (.inr (.inl h))) | (subst h; simp; done) | grind), ?_⟩
  refine gd_one (i := 3) (d := some 8) (op := .call { callee := .value (.func 104), args := #[.tmp 7], argTypes := #[29] }) (ty := 143) (g := none) (by kernel_rfl) trivial rfl (by kernel_rfl) ?_
  refine os_call (Nat.le_of_ble_eq_true rfl) en104 rfl .auto (ct_KeyBytes b hb) ?_
  rintro v8 A8 ⟨p8, c8, rfl, h8⟩
  try dsimp only [List.nil_append, List.cons_append]
  refine ⟨fun _ h => by first | exact h | (cases h; done) | exact .tail _ h | exact .tail _ (.tail _ h) | exact List.mem_append_right _ (List.mem_append_right _ h) | exact List.mem_append_right _ h | (simp only [List.mem_cons, List.not_mem_nil, or_false] at h ⊢; first | exact .inl h | exact .inr (.inl h) | exact .inr (.inr (.inl h)) | exact .inr (.inr (.inr (.inl h))) | (subst h; simp; done) | grind), ?_⟩
  refine gd_one (i := 4) (d := some 9) (op := .call { callee := .value (.func 103), args := #[.tmp 6, .tmp 8], argTypes := #[143, 143] }) (ty := 3) (g := none) (by kernel_rfl) trivial rfl (by kernel_rfl) ?_
  refine os_pv rfl (pv_callR en103 rfl (by rw [← List.append_assoc]; exact Sel.app) (ct_bytesCompare (M := A8 ++ A6) (Lst.right h6.lst) (Lst.left h8.lst))) ?_
  refine ⟨fun _ h => by first | exact h | (cases h; done) | exact .tail _ h | exact .tail _ (.tail _ h) | exact List.mem_append_right _ (List.mem_append_right _ h) | exact List.mem_append_right _ h | (simp only [List.mem_cons, List.not_mem_nil, or_false] at h ⊢; first | exact .inl h | exact .inr (.inl h) | exact .inr (.inr (.inl h)) | exact .inr (.inr (.inr (.inl h))) | (subst h; simp; done) | grind), ?_⟩
  refine gd_tail [5] rfl (by kernel_rfl) (by kernel_rfl) ?_
  refine go_q0 4 (.assign (.tmp 9)) 3 (qv_assign rfl) ?_
  refine go_nil ?_
  change G _ _ _ _
  refine p_weaken [4] rfl ?_
  refine p_ret0 ?_
  try dsimp only [thenQ, inBlockQ]
  try rw [if_pos rfl]
  refine ret_left ([]) (.inr rfl) (.cons (res_tmp rfl) .nil) .auto ?_
  exact ⟨rfl, rfl⟩
theorem pu_refCmp (a b : Key) (ha : a.Wf) (hb : b.Wf) : Pu Tryz.prog 91 [.agg a.c, .agg b.c] (.int .i64 (cmpK a b)) := by
  refine ct_body (rv := [.tmp 4]) [(0, _), (1, _)] Tryz.func91 (by kernel_rfl) Tryz.ntmps91 Tryz.results91 rfl rfl (fun w0 => ?_)
  refine p_seq0 ?_
  refine p_plain0 (0 :: 1 :: 2 :: []) ?_
  refine go_s0 (some 2) (.box 92 (.tmp 0)) 0 ?_
  refine os_boxA rfl rfl (fun b2 => ?_)
  refine go_s0 (some 3) (.box 92 (.tmp 1)) 0 ?_
  refine os_boxA rfl rfl (fun b3 => ?_)
  refine go_q0 4 (.assign (.const (.int .i64 0))) 3 (qv_assign rfl) ?_
  refine go_nil ?_
  change G _ _ _ _
  refine p_weaken [2, 3, 4] rfl ?_
  refine p_seq0 ?_
  refine p_draw (by kernel_rfl) mixed 8 8 _ (fun _ h => h) (by kernel_rfl) ?_
  refine gd_q (i := 0) (d := 7) (op := .load 92 (.tmp 2)) (ty := 92) (g := none) (by kernel_rfl) trivial rfl (by kernel_rfl) (by kernel_rfl) (by kernel_rfl) (by kernel_rfl) (qv_load rfl .auto (ldv_agg agg92 (extw_Key _) (Nat.le_of_ble_eq_true rfl))) ?_
  refine gd_q (i := 3) (d := 10) (op := .load 92 (.tmp 3)) (ty := 92) (g := none) (by kernel_rfl) trivial rfl (by kernel_rfl) (by kernel_rfl) (by kernel_rfl) (by kernel_rfl) (qv_load rfl .auto (ldv_agg agg92 (extw_Key _) (Nat.le_of_ble_eq_true rfl))) ?_
  refine gd_one (i := 1) (d := some 8) (op := .call { callee := .value (.func 108), args := #[.tmp 7], argTypes := #[92] }) (ty := 143) (g := none) (by kernel_rfl) trivial rfl (by kernel_rfl) ?_
  refine os_call (Nat.le_of_ble_eq_true rfl) en108 rfl .auto (ct_refKeyBytes a ha) ?_
  rintro v8 A8 ⟨p8, c8, rfl, h8⟩
  try dsimp only [List.nil_append, List.cons_append]
  refine ⟨fun _ h => by first | exact h | (cases h; done) | exact .tail _ h | exact .tail _ (.tail _ h) | exact List.mem_append_right _ (List.mem_append_right _ h) | exact List.mem_append_right _ h | (simp only [List.mem_cons, List.not_mem_nil, or_false] at h ⊢; first | exact .inl h | exact .inr (.inl h) | exact .inr (.inr (.inl h)) | exact .inr (.inr (.inr (.inl h))) | (subst h; simp; done) | grind), ?_⟩
  refine gd_two (i := 2) (j := 4) (d := some 9) (op := .convert 143 9 (.tmp 8)) (ty := 9) (g := none) (d' := some 11) (op' := .call { callee := .value (.func 108), args := #[.tmp 10], argTypes := #[92] }) (ty' := 143) (g' := none) (by kernel_rfl) (by kernel_rfl) trivial rfl (by kernel_rfl) trivial rfl ?_ ?_
  · refine os_of_qv (Nat.le_of_ble_eq_true rfl) (qv_bstr (l := keyBytes a) un143 un5 un9 rfl rfl (by first | exact Lst.left h8.lst | exact Lst.right (Lst.left h8.lst))) ?_
    refine ⟨fun _ h => by first | exact h | (cases h; done) | exact .tail _ h | exact .tail _ (.tail _ h) | exact List.mem_append_right _ (List.mem_append_right _ h) | exact List.mem_append_right _ h | (simp only [List.mem_cons, List.not_mem_nil, or_false] at h ⊢; first | exact .inl h | exact .inr (.inl h) | exact .inr (.inr (.inl h)) | exact .inr (.inr (.inr (.inl h))) | (subst h; simp; done) | grind), ?_⟩
    refine gd_one (i := 4) (d := some 11) (op := .call { callee := .value (.func 108), args := #[.tmp 10], argTypes := #[92] }) (ty := 143) (g := none) (by kernel_rfl) trivial rfl (by kernel_rfl) ?_
    refine os_call (Nat.le_of_ble_eq_true rfl) en108 rfl .auto (ct_refKeyBytes b hb) ?_
    rintro v11 A11 ⟨p11, c11, rfl, h11⟩
    try dsimp only [List.nil_append, List.cons_append]
    refine ⟨fun _ h => by first | exact h | (cases h; done) | exact .tail _ h | exact .tail _ (.tail _ h) | exact List.mem_append_right _ (List.mem_append_right _ h) | exact List.mem_append_right _ h | (simp only [List.mem_cons, List.not_mem_nil, or_false] at h ⊢; first | exact .inl h | exact .inr (.inl h) | exact .inr (.inr (.inl h)) | exact .inr (.inr (.inr (.inl h))) | (subst h; simp; done) | grind), ?_⟩
    refine gd_q (i := 6) (d := 5) (op := .assign (.tmp 9)) (ty := 9) (g := none) (by kernel_rfl) trivial rfl (by kernel_rfl) (by kernel_rfl) (by kernel_rfl) (by kernel_rfl) (qv_assign rfl) ?_
    refine gd_one (i := 5) (d := some 12) (op := .convert 143 9 (.tmp 11)) (ty := 9) (g := none) (by kernel_rfl) trivial rfl (by kernel_rfl) ?_
    refine os_of_qv (Nat.le_of_ble_eq_true rfl) (qv_bstr (l := keyBytes b) un143 un5 un9 rfl rfl (by first | exact Lst.left h11.lst | exact Lst.right (Lst.left h11.lst))) ?_
    refine ⟨fun _ h => by first | exact h | (cases h; done) | exact .tail _ h | exact .tail _ (.tail _ h) | exact List.mem_append_right _ (List.mem_append_right _ h) | exact List.mem_append_right _ h | (simp only [List.mem_cons, List.not_mem_nil, or_false] at h ⊢; first | exact .inl h | exact .inr (.inl h) | exact .inr (.inr (.inl h)) | exact .inr (.inr (.inr (.inl h))) | (subst h; simp; done) | grind), ?_⟩
    refine gd_q (i := 7) (d := 6) (op := .assign (.tmp 12)) (ty := 9) (g := none) (by kernel_rfl) trivial rfl (by kernel_rfl) (by kernel_rfl) (by kernel_rfl) (by kernel_rfl) (qv_assign rfl) ?_
    refine gd_tail [] rfl (by kernel_rfl) (by kernel_rfl) ?_
    refine go_nil ?_
    change G _ _ _ _
    refine p_weaken [4, 5, 6] rfl ?_
    refine p_seq0 ?_
    refine p_seq0 ?_
    refine p_plain0 (0 :: 1 :: 2 :: []) ?_
    refine go_q0 13 (.move (.tmp 5)) 9 (qv_move rfl) ?_
    refine go_q0 14 (.move (.tmp 6)) 9 (qv_move rfl) ?_
    refine go_q0 15 (.binOp .lss 9 (.tmp 13) (.tmp 14) 9) 4 (qv_strlss rfl rfl rfl) ?_
    refine go_nil ?_
    change G _ _ _ _
    refine p_weaken [4, 5, 6, 15] rfl ?_
    refine p_cond (.tmp 15) (by kernel_rfl) rfl (fun h15 => ?_) (fun h15 => ?_)
    · replace h15 := kn h15
      have hr := cb_range (kb a) (kb b)
      have hv : cmpK a b = -1 := by unfold cmpK kb at *; omega
      refine p_seq0 ?_
      refine p_plain0 (0 :: []) ?_
      refine go_q0 4 (.assign (.const (.int .i64 (-1)))) 3 (qv_assign rfl) ?_
      refine go_nil ?_
      change G _ _ _ _
      refine p_weaken [4, 5, 6] rfl ?_
      refine p_ret0 ?_
      try dsimp only [thenQ, inBlockQ]
      try rw [if_pos rfl]
      refine ret_left ([]) (.inr rfl) (.cons (res_tmp rfl) .nil) .auto ?_
      exact ⟨by rw [hv]; rfl, rfl⟩
    replace h15 := kn h15
    refine p_skip0 ?_
    change G _ _ _ _
    refine p_weaken [4, 5, 6] rfl ?_
    refine p_seq0 ?_
    refine p_seq0 ?_
    refine p_plain0 (0 :: 1 :: 2 :: []) ?_
    refine go_q0 16 (.move (.tmp 5)) 9 (qv_move rfl) ?_
    refine go_q0 17 (.move (.tmp 6)) 9 (qv_move rfl) ?_
    refine go_q0 18 (.binOp .gtr 9 (.tmp 16) (.tmp 17) 9) 4 (qv_strgtr rfl rfl rfl) ?_
    refine go_nil ?_
    change G _ _ _ _
    refine p_weaken [4, 18] rfl ?_
    refine p_cond (.tmp 18) (by kernel_rfl) rfl (fun h18 => ?_) (fun h18 => ?_)
    · replace h18 := kn h18
      have hr := cb_range (kb a) (kb b)
      have hv : cmpK a b = 1 := by unfold cmpK kb at *; omega
      refine p_seq0 ?_
      refine p_plain0 (0 :: []) ?_
      refine go_q0 4 (.assign (.const (.int .i64 1))) 3 (qv_assign rfl) ?_
      refine go_nil ?_
      change G _ _ _ _
      refine p_weaken [4] rfl ?_
      refine p_ret0 ?_
      try dsimp only [thenQ, inBlockQ]
      try rw [if_pos rfl]
      refine ret_left ([]) (.inr rfl) (.cons (res_tmp rfl) .nil) .auto ?_
      exact ⟨by rw [hv]; rfl, rfl⟩
    replace h18 := kn h18
    have hr := cb_range (kb a) (kb b)
    have hv : cmpK a b = 0 := by unfold cmpK kb at *; omega
    refine p_skip0 ?_
    change G _ _ _ _
    refine p_weaken [4] rfl ?_
    refine p_seq0 ?_
    refine p_plain0 (0 :: []) ?_
    refine go_q0 4 (.assign (.const (.int .i64 0))) 3 (qv_assign rfl) ?_
    refine go_nil ?_
    change G _ _ _ _
    refine p_ret0 ?_
    try dsimp only [thenQ, inBlockQ]
    try rw [if_pos rfl]
    refine ret_left ([]) (.inr rfl) (.cons (res_tmp rfl) .nil) .auto ?_
    exact ⟨by rw [hv]; rfl, rfl⟩
  refine os_call (Nat.le_of_ble_eq_true rfl) en108 rfl .auto (ct_refKeyBytes b hb) ?_
  rintro v11 A11 ⟨p11, c11, rfl, h11⟩
  try dsimp only [List.nil_append, List.cons_append]
  refine ⟨fun _ h => by first | exact h | (cases h; done) | exact .tail _ h | exact .tail _ (.tail _ h) | exact List.mem_append_right _ (List.mem_append_right _ h) | exact List.mem_append_right _ h | (simp only [List.mem_cons, List.not_mem_nil, or_false] at h ⊢; first | exact .inl h | exact .inr (.inl h) | exact .inr (.inr (.inl h)) | exact .inr (.inr (.inr (.inl h))) | (subst h; simp; done) | grind), ?_⟩
  refine gd_two (i := 2) (j := 5) (d := some 9) (op := .convert 143 9 (.tmp 8)) (ty := 9) (g := none) (d' := some 12) (op' := .convert 143 9 (.tmp 11)) (ty' := 9) (g' := none) (by kernel_rfl) (by kernel_rfl) trivial rfl (by kernel_rfl) trivial rfl ?_ ?_
  · refine os_of_qv (Nat.le_of_ble_eq_true rfl) (qv_bstr (l := keyBytes a) un143 un5 un9 rfl rfl (by first | exact Lst.left h8.lst | exact Lst.right (Lst.left h8.lst))) ?_
    refine ⟨fun _ h => by first | exact h | (cases h; done) | exact .tail _ h | exact .tail _ (.tail _ h) | exact List.mem_append_right _ (List.mem_append_right _ h) | exact List.mem_append_right _ h | (simp only [List.mem_cons, List.not_mem_nil, or_false] at h ⊢; first | exact .inl h | exact .inr (.inl h) | exact .inr (.inr (.inl h)) | exact .inr (.inr (.inr (.inl h))) | (subst h; simp; done) | grind), ?_⟩
    refine gd_q (i := 6) (d := 5) (op := .assign (.tmp 9)) (ty := 9) (g := none) (by kernel_rfl) trivial rfl (by kernel_rfl) (by kernel_rfl) (by kernel_rfl) (by kernel_rfl) (qv_assign rfl) ?_
    refine gd_one (i := 5) (d := some 12) (op := .convert 143 9 (.tmp 11)) (ty := 9) (g := none) (by kernel_rfl) trivial rfl (by kernel_rfl) ?_
    refine os_of_qv (Nat.le_of_ble_eq_true rfl) (qv_bstr (l := keyBytes b) un143 un5 un9 rfl rfl (by first | exact Lst.left h11.lst | exact Lst.right (Lst.left h11.lst))) ?_
    refine ⟨fun _ h => by first | exact h | (cases h; done) | exact .tail _ h | exact .tail _ (.tail _ h) | exact List.mem_append_right _ (List.mem_append_right _ h) | exact List.mem_append_right _ h | (simp only [List.mem_cons, List.not_mem_nil, or_false] at h ⊢; first | exact .inl h | exact .inr (.inl h) | exact .inr (.inr (.inl h)) | exact .inr (.inr (.inr (.inl h))) | (subst h; simp; done) | grind), ?_⟩
    refine gd_q (i := 7) (d := 6) (op := .assign (.tmp 12)) (ty := 9) (g := none) (by kernel_rfl) trivial rfl (by kernel_rfl) (by kernel_rfl) (by kernel_rfl) (by kernel_rfl) (qv_assign rfl) ?_
    refine gd_tail [] rfl (by kernel_rfl) (by kernel_rfl) ?_
    refine go_nil ?_
    change G _ _ _ _
    refine p_weaken [4, 5, 6] rfl ?_
    refine p_seq0 ?_
    refine p_seq0 ?_
    refine p_plain0 (0 :: 1 :: 2 :: []) ?_
    refine go_q0 13 (.move (.tmp 5)) 9 (qv_move rfl) ?_
    refine go_q0 14 (.move (.tmp 6)) 9 (qv_move rfl) ?_
    refine go_q0 15 (.binOp .lss 9 (.tmp 13) (.tmp 14) 9) 4 (qv_strlss rfl rfl rfl) ?_
    refine go_nil ?_
    change G _ _ _ _
    refine p_weaken [4, 5, 6, 15] rfl ?_
    refine p_cond (.tmp 15) (by kernel_rfl) rfl (fun h15 => ?_) (fun h15 => ?_)
    · replace h15 := kn h15
      have hr := cb_range (kb a) (kb b)
      have hv : cmpK a b = -1 := by unfold cmpK kb at *; omega
      refine p_seq0 ?_
      refine p_plain0 (0 :: []) ?_
      refine go_q0 4 (.assign (.const (.int .i64 (-1)))) 3 (qv_assign rfl) ?_
      refine go_nil ?_
      change G _ _ _ _
      refine p_weaken [4, 5, 6] rfl ?_
      refine p_ret0 ?_
      try dsimp only [thenQ, inBlockQ]
      try rw [if_pos rfl]
      refine ret_left ([]) (.inr rfl) (.cons (res_tmp rfl) .nil) .auto ?_
      exact ⟨by rw [hv]; rfl, rfl⟩
    replace h15 := kn h15
    refine p_skip0 ?_
    change G _ _ _ _
    refine p_weaken [4, 5, 6] rfl ?_
    refine p_seq0 ?_
    refine p_seq0 ?_
    refine p_plain0 (0 :: 1 :: 2 :: []) ?_
    refine go_q0 16 (.move (.tmp 5)) 9 (qv_move rfl) ?_
    refine go_q0 17 (.move (.tmp 6)) 9 (qv_move rfl) ?_
    refine go_q0 18 (.binOp .gtr 9 (.tmp 16) (.tmp 17) 9) 4 (qv_strgtr rfl rfl rfl) ?_
    refine go_nil ?_
    change G _ _ _ _
    refine p_weaken [4, 18] rfl ?_
    refine p_cond (.tmp 18) (by kernel_rfl) rfl (fun h18 => ?_) (fun h18 => ?_)
    · replace h18 := kn h18
      have hr := cb_range (kb a) (kb b)
      have hv : cmpK a b = 1 := by unfold cmpK kb at *; omega
      refine p_seq0 ?_
      refine p_plain0 (0 :: []) ?_
      refine go_q0 4 (.assign (.const (.int .i64 1))) 3 (qv_assign rfl) ?_
      refine go_nil ?_
      change G _ _ _ _
      refine p_weaken [4] rfl ?_
      refine p_ret0 ?_
      try dsimp only [thenQ, inBlockQ]
      try rw [if_pos rfl]
      refine ret_left ([]) (.inr rfl) (.cons (res_tmp rfl) .nil) .auto ?_
      exact ⟨by rw [hv]; rfl, rfl⟩
    replace h18 := kn h18
    have hr := cb_range (kb a) (kb b)
    have hv : cmpK a b = 0 := by unfold cmpK kb at *; omega
    refine p_skip0 ?_
    change G _ _ _ _
    refine p_weaken [4] rfl ?_
    refine p_seq0 ?_
    refine p_plain0 (0 :: []) ?_
    refine go_q0 4 (.assign (.const (.int .i64 0))) 3 (qv_assign rfl) ?_
    refine go_nil ?_
    change G _ _ _ _
    refine p_ret0 ?_
    try dsimp only [thenQ, inBlockQ]
    try rw [if_pos rfl]
    refine ret_left ([]) (.inr rfl) (.cons (res_tmp rfl) .nil) .auto ?_
    exact ⟨by rw [hv]; rfl, rfl⟩
  refine os_of_qv (Nat.le_of_ble_eq_true rfl) (qv_bstr (l := keyBytes b) un143 un5 un9 rfl rfl (by first | exact Lst.left h11.lst | exact Lst.right (Lst.left h11.lst))) ?_
  refine ⟨fun _ h => by first | exact h | (cases h; done) | exact .tail _ h | exact .tail _ (.tail _ h) | exact List.mem_append_right _ (List.mem_append_right _ h) | exact List.mem_append_right _ h | (simp only [List.mem_cons, List.not_mem_nil, or_false] at h ⊢; first | exact .inl h | exact .inr (.inl h) | exact .inr (.inr (.inl h)) | exact .inr (.inr (.inr (.inl h))) | (subst h; simp; done) | grind), ?_⟩
  refine gd_one (i := 2) (d := some 9) (op := .convert 143 9 (.tmp 8)) (ty := 9) (g := none) (by kernel_rfl) trivial rfl (by kernel_rfl) ?_
  refine os_of_qv (Nat.le_of_ble_eq_true rfl) (qv_bstr (l := keyBytes a) un143 un5 un9 rfl rfl (by first | exact Lst.left h8.lst | exact Lst.right (Lst.left h8.lst))) ?_
  refine ⟨fun _ h => by first | exact h | (cases h; done) | exact .tail _ h | exact .tail _ (.tail _ h) | exact List.mem_append_right _ (List.mem_append_right _ h) | exact List.mem_append_right _ h | (simp only [List.mem_cons, List.not_mem_nil, or_false] at h ⊢; first | exact .inl h | exact .inr (.inl h) | exact .inr (.inr (.inl h)) | exact .inr (.inr (.inr (.inl h))) | (subst h; simp; done) | grind), ?_⟩
  refine gd_q (i := 6) (d := 5) (op := .assign (.tmp 9)) (ty := 9) (g := none) (by kernel_rfl) trivial rfl (by kernel_rfl) (by kernel_rfl) (by kernel_rfl) (by kernel_rfl) (qv_assign rfl) ?_
  refine gd_q (i := 7) (d := 6) (op := .assign (.tmp 12)) (ty := 9) (g := none) (by kernel_rfl) trivial rfl (by kernel_rfl) (by kernel_rfl) (by kernel_rfl) (by kernel_rfl) (qv_assign rfl) ?_
  refine gd_tail [] rfl (by kernel_rfl) (by kernel_rfl) ?_
  refine go_nil ?_
  change G _ _ _ _
  refine p_weaken [4, 5, 6] rfl ?_
  refine p_seq0 ?_
  refine p_seq0 ?_
  refine p_plain0 (0 :: 1 :: 2 :: []) ?_
  refine go_q0 13 (.move (.tmp 5)) 9 (qv_move rfl) ?_
  refine go_q0 14 (.move (.tmp 6)) 9 (qv_move rfl) ?_
  refine go_q0 15 (.binOp .lss 9 (.tmp 13) (.tmp 14) 9) 4 (qv_strlss rfl rfl rfl) ?_
  refine go_nil ?_
  change G _ _ _ _
  refine p_weaken [4, 5, 6, 15] rfl ?_
  refine p_cond (.tmp 15) (by kernel_rfl) rfl (fun h15 => ?_) (fun h15 => ?_)
  · replace h15 := kn h15
    have hr := cb_range (kb a) (kb b)
    have hv : cmpK a b = -1 := by unfold cmpK kb at *; omega
    refine p_seq0 ?_
    refine p_plain0 (0 :: []) ?_
    refine go_q0 4 (.assign (.const (.int .i64 (-1)))) 3 (qv_assign rfl) ?_
    refine go_nil ?_
    change G _ _ _ _
    refine p_weaken [4, 5, 6] rfl ?_
    refine p_ret0 ?_
    try dsimp only [thenQ, inBlockQ]
    try rw [if_pos rfl]
    refine ret_left ([]) (.inr rfl) (.cons (res_tmp rfl) .nil) .auto ?_
    exact ⟨by rw [hv]; rfl, rfl⟩
  replace h15 := kn h15
  refine p_skip0 ?_
  change G _ _ _ _
  refine p_weaken [4, 5, 6] rfl ?_
  refine p_seq0 ?_
  refine p_seq0 ?_
  refine p_plain0 (0 :: 1 :: 2 :: []) ?_
  refine go_q0 16 (.move (.tmp 5)) 9 (qv_move rfl) ?_
  refine go_q0 17 (.move (.tmp 6)) 9 (qv_move rfl) ?_
  refine go_q0 18 (.binOp .gtr 9 (.tmp 16) (.tmp 17) 9) 4 (qv_strgtr rfl rfl rfl) ?_
  refine go_nil ?_
  change G _ _ _ _
  refine p_weaken [4, 18] rfl ?_
  refine p_cond (.tmp 18) (by kernel_rfl) rfl (fun h18 => ?_) (fun h18 => ?_)
  · replace h18 := kn h18
    have hr := cb_range (kb a) (kb b)
    have hv : cmpK a b = 1 := by unfold cmpK kb at *; omega
    refine p_seq0 ?_
    refine p_plain0 (0 :: []) ?_
    refine go_q0 4 (.assign (.const (.int .i64 1))) 3 (qv_assign rfl) ?_
    refine go_nil ?_
    change G _ _ _ _
    refine p_weaken [4] rfl ?_
    refine p_ret0 ?_
    try dsimp only [thenQ, inBlockQ]
    try rw [if_pos rfl]
    refine ret_left ([]) (.inr rfl) (.cons (res_tmp rfl) .nil) .auto ?_
    exact ⟨by rw [hv]; rfl, rfl⟩
  replace h18 := kn h18
  have hr := cb_range (kb a) (kb b)
  have hv : cmpK a b = 0 := by unfold cmpK kb at *; omega
  refine p_skip0 ?_
  change G _ _ _ _
  refine p_weaken [4] rfl ?_
  refine p_seq0 ?_
  refine p_plain0 (0 :: []) ?_
  refine go_q0 4 (.assign (.const (.int .i64 0))) 3 (qv_assign rfl) ?_
  refine go_nil ?_
  change G _ _ _ _
  refine p_ret0 ?_
  try dsimp only [thenQ, inBlockQ]
  try rw [if_pos rfl]
  refine ret_left ([]) (.inr rfl) (.cons (res_tmp rfl) .nil) .auto ?_
  exact ⟨by rw [hv]; rfl, rfl⟩
theorem adrBytes_inj {a b : Adr} (ha : a.right = true) (hb : b.right = true) (hs : a.six = b.six) (h : adrBytes a = adrBytes b) : a = b := by
  obtain ⟨six, x⟩ := a
  obtain ⟨six', y⟩ := b
  simp only at hs
  subst hs
  obtain ⟨x0, x1, x2, x3, x4, x5, x6, x7, x8, x9, x10, x11, x12, x13, x14, x15⟩ := x
  obtain ⟨y0, y1, y2, y3, y4, y5, y6, y7, y8, y9, y10, y11, y12, y13, y14, y15⟩ := y
  cases six with
  | true => simp [adrBytes] at h; simp [h]
  | false =>
    simp [adrBytes] at h
    simp [Adr.right, b4] at ha hb
    simp [h, ha, hb]
theorem keyBytes_inj {a b : Key} (ha : a.right = true) (hb : b.right = true) (h : keyBytes a = keyBytes b) : a = b := by
  have ra := ha
  have rb := hb
  unfold Key.right at ra rb
  simp only [Bool.and_eq_true, decide_eq_true_eq] at ra rb
  obtain ⟨⟨⟨ra1, ra2⟩, ra3⟩, _⟩ := ra
  obtain ⟨⟨⟨rb1, rb2⟩, rb3⟩, _⟩ := rb
  unfold keyBytes at h
  rw [if_pos ha, if_pos hb] at h
  simp only [List.append_assoc, List.cons_append, List.nil_append] at h
  have h0 := (List.cons.inj h).1
  have h1 := (List.cons.inj h).2
  have hsix : a.src.six = b.src.six := by
    cases e1 : a.src.six <;> cases e2 : b.src.six <;> simp [e1, e2] at h0 ⊢
  have hd6 : a.dst.six = b.dst.six := by rw [← ra3, ← rb3, hsix]
  obtain ⟨h2, h3⟩ := List.append_inj h1 (by rw [len_adrBytes, len_adrBytes, hsix])
  obtain ⟨h4, h5⟩ := List.append_inj h3 (by rw [len_adrBytes, len_adrBytes, hd6])
  simp only [List.cons.injEq, and_true] at h5
  have e1 := adrBytes_inj ra1 rb1 hsix h2
  have e2 := adrBytes_inj ra2 rb2 hd6 h4
  obtain ⟨ar, ad, ap, asp, adp⟩ := a
  obtain ⟨br, bd, bp, bsp, bdp⟩ := b
  simp only [Key.mk.injEq] at *
  exact ⟨e1, e2, h5.1, by omega, by omega⟩
theorem kb_inj {a b : Key} (wa : a.Wf) (wb : b.Wf) (ha : a.right = true) (hb : b.right = true) (h : kb a = kb b) : a = b :=
  keyBytes_inj ha hb (bytesOf_inj (keyBytes_in wa) (keyBytes_in wb) h)
/-- The order of keys. -/
def ltK (a b : Key) : Prop := cmpK a b < 0
theorem ltK_trans {a b c : Key} (h1 : ltK a b) (h2 : ltK b c) : ltK a c := cb_trans _ _ _ h1 h2
theorem ltK_irrefl (a : Key) : ¬ ltK a a := by unfold ltK cmpK; rw [cb_self]; decide
theorem ltK_of {a b : Key} (wa : a.Wf) (wb : b.Wf) (ha : a.right = true) (hb : b.right = true) (hne : a ≠ b) (h : ¬ ltK b a) : ltK a b := by
  unfold ltK cmpK at *
  have hf := cb_flip (kb a) (kb b)
  have hz : Lib.compareBytes (kb a) (kb b) ≠ 0 := fun e => hne (kb_inj wa wb ha hb (cb_zero _ _ e))
  omega
end Go.Proofs.YtobmcpoejhhemaaGreat
