import Derived.Test.YtobmcpoejhhemaaTCacM
namespace Go.Proofs.Ytobmcpoejhhemaa
open Go.E

/-- The least due tick. -/
def nextS (bd : Bnd) (fl : List Rec) : Option Int := fl.foldl (fun s r => match s with | none => some (dueR bd r) | some a => if dueR bd r < a then some (dueR bd r) else some a) none
theorem nextS_succ {bd : Bnd} {fl : List Rec} {i : Nat} {x : Rec} (h : fl[i]? = some x) : nextS bd (fl.take (i + 1)) = match nextS bd (fl.take i) with | none => some (dueR bd x) | some a => if dueR bd x < a then some (dueR bd x) else some a := by
  unfold nextS
  rw [List.take_add_one, h, List.foldl_append]
  rfl
theorem ct_Next {bc : Nat} {tick : Int} {bd : Bnd} {fl : List Rec} {M : Mem} (hM : CacM bc tick bd fl M) :
    Ct Try.prog 49 [.pointer (some ⟨bc, 0, none⟩)].toArray M (fun v M' => v = .tuple #[.int .u64 ((nextS bd fl).getD 0), .bool (nextS bd fl).isSome] ∧ M' = M) := by
  have hle := hM.le
  obtain ⟨bt, bs, n, L, pf, cf, Af, hI, hO, rfl⟩ := hM
  have hbd := hI.bw
  refine ct_body (rv := [.tmp 2, .tmp 3]) [(0, _)] Try.func49 (by kernel_rfl) Try.ntmps49 Try.results49 rfl rfl (fun w0 => ?_)
  refine p_seq0 ?_
  refine p_plain0 (0 :: 1 :: []) ?_
  refine go_q0 2 (.assign (.const (.int .u64 0))) 30 (qv_assign rfl) ?_
  refine go_q0 3 (.assign (.const (.bool false))) 4 (qv_assign rfl) ?_
  refine go_nil ?_
  change G _ _ _ _
  refine p_seq0 ?_
  refine p_seq0 ?_
  refine p_plain0 (0 :: 1 :: []) ?_
  refine go_q0 7 (.move (.tmp 0)) 101 (qv_move rfl) ?_
  refine go_q0 8 (.binOp .eql 101 (.tmp 7) (.const (.pointer none)) 101) 4 (qv_eqlP un101 rfl) ?_
  refine go_nil ?_
  change G _ _ _ _
  refine p_weaken [0, 2, 3, 8] rfl ?_
  refine p_condF (.tmp 8) (by kernel_rfl) rfl ?_
  refine p_skip0 ?_
  change G _ _ _ _
  refine p_weaken [0, 2, 3] rfl ?_
  refine p_seq0 ?_
  refine p_seq0 ?_
  refine p_plain0 (0 :: 1 :: 2 :: 3 :: 4 :: 5 :: []) ?_
  refine go_q0 9 (.move (.tmp 0)) 101 (qv_move rfl) ?_
  refine go_q0 10 (.nilCheck (.tmp 9)) 0 (qv_nilCheck rfl) ?_
  refine go_q0 11 (.fieldAddr 178 (.tmp 10) 3) 0 (qv_field rfl fd178_3) ?_
  refine go_q0 12 (.load 102 (.tmp 11)) 102 (qv_load rfl .auto (ldv_sca sc102 (get_Cac_7 _))) ?_
  refine go_q0 13 (.call { callee := .builtin .len, args := #[.tmp 12], argTypes := #[102] }) 3 (qv_lenS un102 rfl) ?_
  refine go_q0 14 (.move (.const (.int .i64 0))) 3 (qv_move rfl) ?_
  refine go_nil ?_
  change G _ _ _ _
  refine p_weaken [0, 2, 3, 12, 13, 14] rfl ?_
  refine p_block 0 (by kernel_rfl) ?_
  refine p_loopE (by kernel_rfl) (fun s m => ∃ (i : Nat), (i ≤ fl.length) ∧ Ge s ⟨[], [(0, .pointer (some ⟨bc, 0, none⟩)), (2, .int .u64 ((nextS bd (fl.take i)).getD 0)), (3, .bool (nextS bd (fl.take i)).isSome), (12, .slice pf fl.length cf), (13, .int .i64 fl.length), (14, .int .i64 i)], cacO bc tick bd bt pf fl.length cf :: tabO bt bs n fl.length :: slotO bs L :: Af⟩ ∧ m = fl.length + 1 - i) ?_ ?_
  · exact ⟨_, ⟨0, by omega, ⟨rfl, ⟨[0, 2, 3, 12, 13, 14], rfl⟩, .auto⟩, rfl⟩⟩
  rintro s m ⟨i, hi, hs, rfl⟩
  refine ge_ok hs ?_
  refine p_seq0 ?_
  refine p_plain0 (0 :: []) ?_
  refine go_q0 15 (.binOp .lss 3 (.tmp 14) (.tmp 13) 3) 0 (qv_lss rfl rfl rfl) ?_
  refine go_nil ?_
  change G _ _ _ _
  refine p_seq0 ?_
  refine p_cond (.tmp 15) (by kernel_rfl) rfl (fun h15 => ?_) (fun h15 => ?_)
  rotate_left
  · replace h15 := kn h15
    refine p_exit 0 (by kernel_rfl) ?_
    change G _ _ _ _
    refine p_weaken [2, 3] rfl ?_
    refine p_seq0 ?_
    refine p_plain0 (0 :: 1 :: 2 :: 3 :: []) ?_
    refine go_q0 30 (.move (.tmp 2)) 30 (qv_move rfl) ?_
    refine go_q0 31 (.move (.tmp 3)) 4 (qv_move rfl) ?_
    refine go_q0 2 (.assign (.tmp 30)) 30 (qv_assign rfl) ?_
    refine go_q0 3 (.assign (.tmp 31)) 4 (qv_assign rfl) ?_
    refine go_nil ?_
    change G _ _ _ _
    refine p_weaken [2, 3] rfl ?_
    refine p_ret0 ?_
    try dsimp only [thenQ, inBlockQ]
    try rw [if_pos rfl]
    refine ret_left (cacO bc tick bd bt pf fl.length cf :: tabO bt bs n fl.length :: slotO bs L :: Af) (.inr rfl) (.cons (res_tmp rfl) (.cons (res_tmp rfl) .nil)) .auto ?_
    have hie : i = fl.length := by omega
    subst hie
    exact ⟨by rw [List.take_length]; rfl, rfl⟩
  replace h15 := kn h15
  refine p_skip0 ?_
  change G _ _ _ _
  refine p_weaken [0, 2, 3, 12, 13, 14] rfl ?_
  refine p_seqJ (fun s => Ge s ⟨[], [(0, .pointer (some ⟨bc, 0, none⟩)), (2, .int .u64 ((nextS bd (fl.take (i + 1))).getD 0)), (3, .bool (nextS bd (fl.take (i + 1))).isSome), (12, .slice pf fl.length cf), (13, .int .i64 fl.length), (14, .int .i64 i)], cacO bc tick bd bt pf fl.length cf :: tabO bt bs n fl.length :: slotO bs L :: Af⟩) (by kernel_rfl) ?_ ?_
  rotate_left
  · rintro s hs
    refine ge_ok hs ?_
    refine p_plain0 (0 :: 1 :: []) ?_
    refine go_q0 29 (.binOp .add 3 (.tmp 14) (.const (.int .i64 1)) 3) 3 (qv_add rfl rfl (by first | exact IntWalk.i64_in _ (by omega) | exact IntWalk.i64_in _ (by dsimp only; omega) | rfl)) ?_
    refine go_q0 14 (.move (.tmp 29)) 3 (qv_move rfl) ?_
    refine go_nil ?_
    exact ⟨_, ⟨i + 1, by omega, ⟨rfl, ⟨[0, 2, 3, 12, 13, 14], rfl⟩, .auto⟩, rfl⟩, by omega⟩
  refine p_block 1 (by kernel_rfl) ?_
  refine p_seq0 ?_
  obtain ⟨bb, oo, cu, ee, ff, hpe, mm, H⟩ := hO.lst.at_ (i := i) (by omega)
  obtain ⟨x, hx⟩ : ∃ x, fl[i]? = some x := ⟨_, List.getElem?_eq_getElem (by omega)⟩
  have hD := ct_due (bc := bc) (bt := bt) (nf := fl.length) (cf := cf) (tick := tick) (pf := pf) hbd (hI.wf x (List.mem_of_getElem? hx))
  have hsu := nextS_succ (bd := bd) hx
  generalize hst : nextS bd (fl.take i) = st at *
  subst hpe
  refine p_plain0 (0 :: 1 :: 2 :: 3 :: []) ?_
  refine go_q0 16 (.indexAddr 102 (.tmp 12) (.tmp 14)) 0 (qv_index un102 sz35 rfl rfl rfl (by omega)) ?_
  refine go_q0 17 (.load 35 (.tmp 16)) 35 (qv_load rfl (At.of_mem (by repeat first | exact mm | exact List.mem_append_left _ mm | apply List.mem_cons_of_mem | apply List.mem_append_right)) (ldv_els H hx (by decide) agg35 rfl)) ?_
  refine go_s0 (some 5) (.alloc 35) 0 ?_
  refine os_allocA rfl ze35 (fun b5 => ?_)
  refine go_s0 none (.store 35 (.tmp 5) (.tmp 17)) 0 ?_
  refine os_store rfl rfl sz35 rfl (one_Rec _) .auto (Nat.le_of_ble_eq_true rfl) (splw_Rec _ _ (siz_Rec _)) ?_
  refine go_nil ?_
  change G _ _ _ _
  refine p_weaken [0, 2, 3, 5, 12, 13, 14] rfl ?_
  refine p_seq0 ?_
  refine p_plain0 (0 :: 1 :: 2 :: 3 :: []) ?_
  refine go_q0 18 (.move (.tmp 0)) 101 (qv_move rfl) ?_
  refine go_q0 19 (.load 35 (.tmp 5)) 35 (qv_load rfl .auto (ldv_agg agg35 (extw_Rec _) (Nat.le_of_ble_eq_true rfl))) ?_
  refine go_s0 (some 20) (.call { callee := .value (.func 101), args := #[.tmp 18, .tmp 19], argTypes := #[101, 35] }) 30 ?_
  refine os_pv rfl (pv_callR en101 rfl .auto (hD)) ?_
  refine go_q0 6 (.assign (.tmp 20)) 30 (qv_assign rfl) ?_
  refine go_nil ?_
  change G _ _ _ _
  refine p_weaken [0, 2, 3, 6, 12, 13, 14] rfl ?_
  refine p_seq0 ?_
  refine p_plain0 (0 :: 1 :: 2 :: 3 :: 4 :: 5 :: 6 :: []) ?_
  refine go_q0 21 (.move (.tmp 3)) 4 (qv_move rfl) ?_
  refine go_q0 22 (.unOp .not 4 (.tmp 21)) 4 (qv_not rfl) ?_
  refine go_q0 23 (.move (.tmp 22)) 4 (qv_move rfl) ?_
  refine go_case (d := 23) rfl (fun g23 => ?_) (fun g23 => ?_)
  · replace g23 := kn g23
    have hsn : nextS bd (fl.take (i + 1)) = some (dueR bd x) := by rw [hsu]; cases st with | none => rfl | some a => cases g23
    refine go_n (d := 24) (op := .move (.tmp 6)) (ty := 30) (g := some (2, false)) (by kernel_rfl) ⟨23, _, by kernel_rfl, rfl, rfl⟩ rfl ?_
    refine go_n (d := 25) (op := .move (.tmp 2)) (ty := 30) (g := some (2, false)) (by kernel_rfl) ⟨23, _, by kernel_rfl, rfl, rfl⟩ rfl ?_
    refine go_n (d := 26) (op := .binOp .lss 30 (.tmp 24) (.tmp 25) 30) (ty := 4) (g := some (2, false)) (by kernel_rfl) ⟨23, _, by kernel_rfl, rfl, rfl⟩ rfl ?_
    refine go_q0 27 (.pick (.tmp 23) (.const (.bool true)) (.tmp 26)) 4 (qv_pick_t rfl rfl) ?_
    refine go_nil ?_
    change G _ _ _ _
    refine p_weaken [0, 2, 3, 6, 12, 13, 14, 27] rfl ?_
    refine p_condT (.tmp 27) (by kernel_rfl) rfl ?_
    refine p_plain0 (0 :: 1 :: 2 :: []) ?_
    refine go_q0 28 (.move (.tmp 6)) 30 (qv_move rfl) ?_
    refine go_q0 2 (.assign (.tmp 28)) 30 (qv_assign rfl) ?_
    refine go_q0 3 (.assign (.const (.bool true))) 4 (qv_assign rfl) ?_
    refine go_nil ?_
    rw [hsn]
    exact ⟨rfl, ⟨[0, 2, 3, 12, 13, 14], rfl⟩, .auto⟩
  replace g23 := kn g23
  refine go_q (d := 24) (op := .move (.tmp 6)) (ty := 30) (g := some (2, false)) (by kernel_rfl) ⟨23, by kernel_rfl, rfl⟩ rfl (qv_move rfl) ?_
  refine go_q (d := 25) (op := .move (.tmp 2)) (ty := 30) (g := some (2, false)) (by kernel_rfl) ⟨23, by kernel_rfl, rfl⟩ rfl (qv_move rfl) ?_
  refine go_q (d := 26) (op := .binOp .lss 30 (.tmp 24) (.tmp 25) 30) (ty := 4) (g := some (2, false)) (by kernel_rfl) ⟨23, by kernel_rfl, rfl⟩ rfl (qv_lss rfl rfl rfl) ?_
  refine go_q0 27 (.pick (.tmp 23) (.const (.bool true)) (.tmp 26)) 4 (qv_pick_f rfl rfl) ?_
  refine go_nil ?_
  change G _ _ _ _
  refine p_weaken [0, 2, 3, 6, 12, 13, 14, 27] rfl ?_
  refine p_cond (.tmp 27) (by kernel_rfl) rfl (fun h27 => ?_) (fun h27 => ?_)
  rotate_left
  · replace h27 := kn h27
    obtain ⟨a, rfl⟩ : ∃ a, st = some a := by cases st with | none => cases g23 | some a => exact ⟨a, rfl⟩
    have hsn : nextS bd (fl.take (i + 1)) = some a := by rw [hsu]; exact if_neg h27
    refine p_skip0 ?_
    rw [hsn]
    exact ⟨rfl, ⟨[0, 2, 3, 12, 13, 14], rfl⟩, .auto⟩
  replace h27 := kn h27
  have hsn : nextS bd (fl.take (i + 1)) = some (dueR bd x) := by rw [hsu]; cases st with | none => rfl | some a => exact if_pos h27
  refine p_plain0 (0 :: 1 :: 2 :: []) ?_
  refine go_q0 28 (.move (.tmp 6)) 30 (qv_move rfl) ?_
  refine go_q0 2 (.assign (.tmp 28)) 30 (qv_assign rfl) ?_
  refine go_q0 3 (.assign (.const (.bool true))) 4 (qv_assign rfl) ?_
  refine go_nil ?_
  rw [hsn]
  exact ⟨rfl, ⟨[0, 2, 3, 12, 13, 14], rfl⟩, .auto⟩
theorem CacI.empty {bd : Bnd} {n : Nat} {L : List Slot} {fl : List Rec} (h : CacI bd n L fl) : CacI bd n (List.replicate n zeroS) [] :=
  ⟨h.pow, h.big, Kp.new n, by simp, by simp, by have := h.least; simp; omega, h.bw, h.most, h.least⟩
theorem pu_bitsLen (x : Int) (h0 : 0 ≤ x) (h1 : x ≤ 18446744073709551615) : Pu Try.prog 139 [.int .u64 x] (.int .i64 (Lib.bitLen x.toNat : Nat)) := fun w hn hM =>
  (Any.bits_Len (SlLaysF0.n15.bits (P := Try.prog) (ρ := laySortKey_ren) { laySortKey with }) x w h0 h1).mono fun e w' ⟨he, hw⟩ => by subst hw; exact ⟨_, [], he, ⟨rfl, rfl⟩, Chg.refl hn hM⟩
def okBnd (b : Bnd) : Bool := decide (1 ≤ b.flows) && decide (b.flows ≤ 4096) && decide (b.idle ≠ 0) && decide (b.active ≠ 0) && decide (b.packets ≠ 0) && decide (b.bytes ≠ 0)
set_option maxRecDepth 100000 in
theorem bitLen_le13 : ∀ m : Fin 4097, Lib.bitLen m.val ≤ 13 ∧ m.val < p2 (Lib.bitLen m.val) := by decide +kernel
theorem p2_pow : ∀ e : Fin 17, 0 < p2 e.val ∧ p2 e.val ≤ 65536 ∧ (p2 e.val : Int) ∣ 18446744073709551616 := by decide +kernel
theorem shl_p2 : ∀ e : Fin 17, IntKind.i64.wrap (1 * 2 ^ min ((e.val : Nat) : Int).toNat IntKind.i64.bits) = (p2 e.val : Int) := by decide +kernel
theorem pu_CNewBad (tick : Int) (b : Bnd) (h : okBnd b = false) : Pu Try.prog 80 [.int .u64 tick, .agg b.c] (.tuple #[.pointer none, .int .i64 2]) := by
  refine ct_body (rv := [.tmp 4, .tmp 5]) [(0, _), (1, _)] Try.func80 (by kernel_rfl) Try.ntmps80 Try.results80 rfl rfl (fun w0 => ?_)
  refine p_seq0 ?_
  refine p_plain0 (0 :: 1 :: 2 :: []) ?_
  refine go_s0 (some 3) (.box 148 (.tmp 1)) 0 ?_
  refine os_boxA rfl rfl (fun b3 => ?_)
  refine go_q0 4 (.assign (.const (.pointer none))) 101 (qv_assign rfl) ?_
  refine go_q0 5 (.assign (.const (.int .i64 0))) 61 (qv_assign rfl) ?_
  refine go_nil ?_
  change G _ _ _ _
  refine p_weaken [0, 3, 4, 5] rfl ?_
  refine p_seq0 ?_
  refine p_seq0 ?_
  refine p_plain0 (0 :: 1 :: 2 :: 3 :: 4 :: 5 :: 6 :: 7 :: 8 :: 9 :: 10 :: 11 :: 12 :: 13 :: 14 :: 15 :: 16 :: 17 :: 18 :: 19 :: 20 :: 21 :: 22 :: 23 :: 24 :: 25 :: 26 :: 27 :: []) ?_
  refine go_q0 8 (.fieldAddr 148 (.tmp 3) 0) 0 (qv_field rfl fd148_0) ?_
  refine go_q0 9 (.load 3 (.tmp 8)) 3 (qv_load rfl .auto (ldv_sca sc3 (get_Bnd_0 _))) ?_
  refine go_q0 10 (.binOp .lss 3 (.tmp 9) (.const (.int .i64 1)) 3) 4 (qv_lss rfl rfl rfl) ?_
  refine go_q0 11 (.move (.tmp 10)) 4 (qv_move rfl) ?_
  refine go_case (d := 11) rfl (fun g11 => ?_) (fun g11 => ?_)
  · replace g11 := kn g11
    refine go_n (d := 12) (op := .fieldAddr 148 (.tmp 3) 0) (ty := 0) (g := some (3, false)) (by kernel_rfl) ⟨11, _, by kernel_rfl, rfl, rfl⟩ rfl ?_
    refine go_n (d := 13) (op := .load 3 (.tmp 12)) (ty := 3) (g := some (3, false)) (by kernel_rfl) ⟨11, _, by kernel_rfl, rfl, rfl⟩ rfl ?_
    refine go_n (d := 14) (op := .binOp .gtr 3 (.tmp 13) (.const (.int .i64 4096)) 3) (ty := 4) (g := some (3, false)) (by kernel_rfl) ⟨11, _, by kernel_rfl, rfl, rfl⟩ rfl ?_
    refine go_q0 15 (.pick (.tmp 11) (.const (.bool true)) (.tmp 14)) 4 (qv_pick_t rfl rfl) ?_
    refine go_q0 16 (.move (.tmp 15)) 4 (qv_move rfl) ?_
    refine go_n (d := 17) (op := .fieldAddr 148 (.tmp 3) 1) (ty := 0) (g := some (8, false)) (by kernel_rfl) ⟨16, _, by kernel_rfl, rfl, rfl⟩ rfl ?_
    refine go_n (d := 18) (op := .load 30 (.tmp 17)) (ty := 30) (g := some (8, false)) (by kernel_rfl) ⟨16, _, by kernel_rfl, rfl, rfl⟩ rfl ?_
    refine go_n (d := 19) (op := .binOp .eql 30 (.tmp 18) (.const (.int .u64 0)) 30) (ty := 4) (g := some (8, false)) (by kernel_rfl) ⟨16, _, by kernel_rfl, rfl, rfl⟩ rfl ?_
    refine go_q0 20 (.pick (.tmp 16) (.const (.bool true)) (.tmp 19)) 4 (qv_pick_t rfl rfl) ?_
    refine go_q0 21 (.move (.tmp 20)) 4 (qv_move rfl) ?_
    refine go_n (d := 22) (op := .fieldAddr 148 (.tmp 3) 2) (ty := 0) (g := some (13, false)) (by kernel_rfl) ⟨21, _, by kernel_rfl, rfl, rfl⟩ rfl ?_
    refine go_n (d := 23) (op := .load 30 (.tmp 22)) (ty := 30) (g := some (13, false)) (by kernel_rfl) ⟨21, _, by kernel_rfl, rfl, rfl⟩ rfl ?_
    refine go_n (d := 24) (op := .binOp .eql 30 (.tmp 23) (.const (.int .u64 0)) 30) (ty := 4) (g := some (13, false)) (by kernel_rfl) ⟨21, _, by kernel_rfl, rfl, rfl⟩ rfl ?_
    refine go_q0 25 (.pick (.tmp 21) (.const (.bool true)) (.tmp 24)) 4 (qv_pick_t rfl rfl) ?_
    refine go_q0 26 (.move (.tmp 25)) 4 (qv_move rfl) ?_
    refine go_n (d := 27) (op := .fieldAddr 148 (.tmp 3) 3) (ty := 0) (g := some (18, false)) (by kernel_rfl) ⟨26, _, by kernel_rfl, rfl, rfl⟩ rfl ?_
    refine go_n (d := 28) (op := .load 30 (.tmp 27)) (ty := 30) (g := some (18, false)) (by kernel_rfl) ⟨26, _, by kernel_rfl, rfl, rfl⟩ rfl ?_
    refine go_n (d := 29) (op := .binOp .eql 30 (.tmp 28) (.const (.int .u64 0)) 30) (ty := 4) (g := some (18, false)) (by kernel_rfl) ⟨26, _, by kernel_rfl, rfl, rfl⟩ rfl ?_
    refine go_q0 30 (.pick (.tmp 26) (.const (.bool true)) (.tmp 29)) 4 (qv_pick_t rfl rfl) ?_
    refine go_q0 31 (.move (.tmp 30)) 4 (qv_move rfl) ?_
    refine go_n (d := 32) (op := .fieldAddr 148 (.tmp 3) 4) (ty := 0) (g := some (23, false)) (by kernel_rfl) ⟨31, _, by kernel_rfl, rfl, rfl⟩ rfl ?_
    refine go_n (d := 33) (op := .load 30 (.tmp 32)) (ty := 30) (g := some (23, false)) (by kernel_rfl) ⟨31, _, by kernel_rfl, rfl, rfl⟩ rfl ?_
    refine go_n (d := 34) (op := .binOp .eql 30 (.tmp 33) (.const (.int .u64 0)) 30) (ty := 4) (g := some (23, false)) (by kernel_rfl) ⟨31, _, by kernel_rfl, rfl, rfl⟩ rfl ?_
    refine go_q0 35 (.pick (.tmp 31) (.const (.bool true)) (.tmp 34)) 4 (qv_pick_t rfl rfl) ?_
    refine go_nil ?_
    change G _ _ _ _
    refine p_weaken [0, 3, 4, 5, 35] rfl ?_
    refine p_condT (.tmp 35) (by kernel_rfl) rfl ?_
    refine p_seq0 ?_
    refine p_plain0 (0 :: 1 :: []) ?_
    refine go_q0 4 (.assign (.const (.pointer none))) 101 (qv_assign rfl) ?_
    refine go_q0 5 (.assign (.const (.int .i64 2))) 61 (qv_assign rfl) ?_
    refine go_nil ?_
    change G _ _ _ _
    refine p_weaken [0, 3, 4, 5] rfl ?_
    refine p_ret0 ?_
    try dsimp only [thenQ, inBlockQ]
    try rw [if_pos rfl]
    refine ret_now (.inr rfl) (.cons (res_tmp rfl) (.cons (res_tmp rfl) .nil)) (by repeat constructor) ?_
    exact ⟨rfl, rfl⟩
  replace g11 := kn g11
  refine go_q (d := 12) (op := .fieldAddr 148 (.tmp 3) 0) (ty := 0) (g := some (3, false)) (by kernel_rfl) ⟨11, by kernel_rfl, rfl⟩ rfl (qv_field rfl fd148_0) ?_
  refine go_q (d := 13) (op := .load 3 (.tmp 12)) (ty := 3) (g := some (3, false)) (by kernel_rfl) ⟨11, by kernel_rfl, rfl⟩ rfl (qv_load rfl .auto (ldv_sca sc3 (get_Bnd_0 _))) ?_
  refine go_q (d := 14) (op := .binOp .gtr 3 (.tmp 13) (.const (.int .i64 4096)) 3) (ty := 4) (g := some (3, false)) (by kernel_rfl) ⟨11, by kernel_rfl, rfl⟩ rfl (qv_gtr rfl rfl rfl) ?_
  refine go_q0 15 (.pick (.tmp 11) (.const (.bool true)) (.tmp 14)) 4 (qv_pick_f rfl rfl) ?_
  refine go_q0 16 (.move (.tmp 15)) 4 (qv_move rfl) ?_
  refine go_case (d := 16) rfl (fun g16 => ?_) (fun g16 => ?_)
  · replace g16 := kn g16
    refine go_n (d := 17) (op := .fieldAddr 148 (.tmp 3) 1) (ty := 0) (g := some (8, false)) (by kernel_rfl) ⟨16, _, by kernel_rfl, rfl, rfl⟩ rfl ?_
    refine go_n (d := 18) (op := .load 30 (.tmp 17)) (ty := 30) (g := some (8, false)) (by kernel_rfl) ⟨16, _, by kernel_rfl, rfl, rfl⟩ rfl ?_
    refine go_n (d := 19) (op := .binOp .eql 30 (.tmp 18) (.const (.int .u64 0)) 30) (ty := 4) (g := some (8, false)) (by kernel_rfl) ⟨16, _, by kernel_rfl, rfl, rfl⟩ rfl ?_
    refine go_q0 20 (.pick (.tmp 16) (.const (.bool true)) (.tmp 19)) 4 (qv_pick_t rfl rfl) ?_
    refine go_q0 21 (.move (.tmp 20)) 4 (qv_move rfl) ?_
    refine go_n (d := 22) (op := .fieldAddr 148 (.tmp 3) 2) (ty := 0) (g := some (13, false)) (by kernel_rfl) ⟨21, _, by kernel_rfl, rfl, rfl⟩ rfl ?_
    refine go_n (d := 23) (op := .load 30 (.tmp 22)) (ty := 30) (g := some (13, false)) (by kernel_rfl) ⟨21, _, by kernel_rfl, rfl, rfl⟩ rfl ?_
    refine go_n (d := 24) (op := .binOp .eql 30 (.tmp 23) (.const (.int .u64 0)) 30) (ty := 4) (g := some (13, false)) (by kernel_rfl) ⟨21, _, by kernel_rfl, rfl, rfl⟩ rfl ?_
    refine go_q0 25 (.pick (.tmp 21) (.const (.bool true)) (.tmp 24)) 4 (qv_pick_t rfl rfl) ?_
    refine go_q0 26 (.move (.tmp 25)) 4 (qv_move rfl) ?_
    refine go_n (d := 27) (op := .fieldAddr 148 (.tmp 3) 3) (ty := 0) (g := some (18, false)) (by kernel_rfl) ⟨26, _, by kernel_rfl, rfl, rfl⟩ rfl ?_
    refine go_n (d := 28) (op := .load 30 (.tmp 27)) (ty := 30) (g := some (18, false)) (by kernel_rfl) ⟨26, _, by kernel_rfl, rfl, rfl⟩ rfl ?_
    refine go_n (d := 29) (op := .binOp .eql 30 (.tmp 28) (.const (.int .u64 0)) 30) (ty := 4) (g := some (18, false)) (by kernel_rfl) ⟨26, _, by kernel_rfl, rfl, rfl⟩ rfl ?_
    refine go_q0 30 (.pick (.tmp 26) (.const (.bool true)) (.tmp 29)) 4 (qv_pick_t rfl rfl) ?_
    refine go_q0 31 (.move (.tmp 30)) 4 (qv_move rfl) ?_
    refine go_n (d := 32) (op := .fieldAddr 148 (.tmp 3) 4) (ty := 0) (g := some (23, false)) (by kernel_rfl) ⟨31, _, by kernel_rfl, rfl, rfl⟩ rfl ?_
    refine go_n (d := 33) (op := .load 30 (.tmp 32)) (ty := 30) (g := some (23, false)) (by kernel_rfl) ⟨31, _, by kernel_rfl, rfl, rfl⟩ rfl ?_
    refine go_n (d := 34) (op := .binOp .eql 30 (.tmp 33) (.const (.int .u64 0)) 30) (ty := 4) (g := some (23, false)) (by kernel_rfl) ⟨31, _, by kernel_rfl, rfl, rfl⟩ rfl ?_
    refine go_q0 35 (.pick (.tmp 31) (.const (.bool true)) (.tmp 34)) 4 (qv_pick_t rfl rfl) ?_
    refine go_nil ?_
    change G _ _ _ _
    refine p_weaken [0, 3, 4, 5, 35] rfl ?_
    refine p_condT (.tmp 35) (by kernel_rfl) rfl ?_
    refine p_seq0 ?_
    refine p_plain0 (0 :: 1 :: []) ?_
    refine go_q0 4 (.assign (.const (.pointer none))) 101 (qv_assign rfl) ?_
    refine go_q0 5 (.assign (.const (.int .i64 2))) 61 (qv_assign rfl) ?_
    refine go_nil ?_
    change G _ _ _ _
    refine p_weaken [0, 3, 4, 5] rfl ?_
    refine p_ret0 ?_
    try dsimp only [thenQ, inBlockQ]
    try rw [if_pos rfl]
    refine ret_now (.inr rfl) (.cons (res_tmp rfl) (.cons (res_tmp rfl) .nil)) (by repeat constructor) ?_
    exact ⟨rfl, rfl⟩
  replace g16 := kn g16
  refine go_q (d := 17) (op := .fieldAddr 148 (.tmp 3) 1) (ty := 0) (g := some (8, false)) (by kernel_rfl) ⟨16, by kernel_rfl, rfl⟩ rfl (qv_field rfl fd148_1) ?_
  refine go_q (d := 18) (op := .load 30 (.tmp 17)) (ty := 30) (g := some (8, false)) (by kernel_rfl) ⟨16, by kernel_rfl, rfl⟩ rfl (qv_load rfl .auto (ldv_sca sc30 (get_Bnd_1 _))) ?_
  refine go_q (d := 19) (op := .binOp .eql 30 (.tmp 18) (.const (.int .u64 0)) 30) (ty := 4) (g := some (8, false)) (by kernel_rfl) ⟨16, by kernel_rfl, rfl⟩ rfl (qv_eql rfl rfl rfl) ?_
  refine go_q0 20 (.pick (.tmp 16) (.const (.bool true)) (.tmp 19)) 4 (qv_pick_f rfl rfl) ?_
  refine go_q0 21 (.move (.tmp 20)) 4 (qv_move rfl) ?_
  refine go_case (d := 21) rfl (fun g21 => ?_) (fun g21 => ?_)
  · replace g21 := kn g21
    refine go_n (d := 22) (op := .fieldAddr 148 (.tmp 3) 2) (ty := 0) (g := some (13, false)) (by kernel_rfl) ⟨21, _, by kernel_rfl, rfl, rfl⟩ rfl ?_
    refine go_n (d := 23) (op := .load 30 (.tmp 22)) (ty := 30) (g := some (13, false)) (by kernel_rfl) ⟨21, _, by kernel_rfl, rfl, rfl⟩ rfl ?_
    refine go_n (d := 24) (op := .binOp .eql 30 (.tmp 23) (.const (.int .u64 0)) 30) (ty := 4) (g := some (13, false)) (by kernel_rfl) ⟨21, _, by kernel_rfl, rfl, rfl⟩ rfl ?_
    refine go_q0 25 (.pick (.tmp 21) (.const (.bool true)) (.tmp 24)) 4 (qv_pick_t rfl rfl) ?_
    refine go_q0 26 (.move (.tmp 25)) 4 (qv_move rfl) ?_
    refine go_n (d := 27) (op := .fieldAddr 148 (.tmp 3) 3) (ty := 0) (g := some (18, false)) (by kernel_rfl) ⟨26, _, by kernel_rfl, rfl, rfl⟩ rfl ?_
    refine go_n (d := 28) (op := .load 30 (.tmp 27)) (ty := 30) (g := some (18, false)) (by kernel_rfl) ⟨26, _, by kernel_rfl, rfl, rfl⟩ rfl ?_
    refine go_n (d := 29) (op := .binOp .eql 30 (.tmp 28) (.const (.int .u64 0)) 30) (ty := 4) (g := some (18, false)) (by kernel_rfl) ⟨26, _, by kernel_rfl, rfl, rfl⟩ rfl ?_
    refine go_q0 30 (.pick (.tmp 26) (.const (.bool true)) (.tmp 29)) 4 (qv_pick_t rfl rfl) ?_
    refine go_q0 31 (.move (.tmp 30)) 4 (qv_move rfl) ?_
    refine go_n (d := 32) (op := .fieldAddr 148 (.tmp 3) 4) (ty := 0) (g := some (23, false)) (by kernel_rfl) ⟨31, _, by kernel_rfl, rfl, rfl⟩ rfl ?_
    refine go_n (d := 33) (op := .load 30 (.tmp 32)) (ty := 30) (g := some (23, false)) (by kernel_rfl) ⟨31, _, by kernel_rfl, rfl, rfl⟩ rfl ?_
    refine go_n (d := 34) (op := .binOp .eql 30 (.tmp 33) (.const (.int .u64 0)) 30) (ty := 4) (g := some (23, false)) (by kernel_rfl) ⟨31, _, by kernel_rfl, rfl, rfl⟩ rfl ?_
    refine go_q0 35 (.pick (.tmp 31) (.const (.bool true)) (.tmp 34)) 4 (qv_pick_t rfl rfl) ?_
    refine go_nil ?_
    change G _ _ _ _
    refine p_weaken [0, 3, 4, 5, 35] rfl ?_
    refine p_condT (.tmp 35) (by kernel_rfl) rfl ?_
    refine p_seq0 ?_
    refine p_plain0 (0 :: 1 :: []) ?_
    refine go_q0 4 (.assign (.const (.pointer none))) 101 (qv_assign rfl) ?_
    refine go_q0 5 (.assign (.const (.int .i64 2))) 61 (qv_assign rfl) ?_
    refine go_nil ?_
    change G _ _ _ _
    refine p_weaken [0, 3, 4, 5] rfl ?_
    refine p_ret0 ?_
    try dsimp only [thenQ, inBlockQ]
    try rw [if_pos rfl]
    refine ret_now (.inr rfl) (.cons (res_tmp rfl) (.cons (res_tmp rfl) .nil)) (by repeat constructor) ?_
    exact ⟨rfl, rfl⟩
  replace g21 := kn g21
  refine go_q (d := 22) (op := .fieldAddr 148 (.tmp 3) 2) (ty := 0) (g := some (13, false)) (by kernel_rfl) ⟨21, by kernel_rfl, rfl⟩ rfl (qv_field rfl fd148_2) ?_
  refine go_q (d := 23) (op := .load 30 (.tmp 22)) (ty := 30) (g := some (13, false)) (by kernel_rfl) ⟨21, by kernel_rfl, rfl⟩ rfl (qv_load rfl .auto (ldv_sca sc30 (get_Bnd_2 _))) ?_
  refine go_q (d := 24) (op := .binOp .eql 30 (.tmp 23) (.const (.int .u64 0)) 30) (ty := 4) (g := some (13, false)) (by kernel_rfl) ⟨21, by kernel_rfl, rfl⟩ rfl (qv_eql rfl rfl rfl) ?_
  refine go_q0 25 (.pick (.tmp 21) (.const (.bool true)) (.tmp 24)) 4 (qv_pick_f rfl rfl) ?_
  refine go_q0 26 (.move (.tmp 25)) 4 (qv_move rfl) ?_
  refine go_case (d := 26) rfl (fun g26 => ?_) (fun g26 => ?_)
  · replace g26 := kn g26
    refine go_n (d := 27) (op := .fieldAddr 148 (.tmp 3) 3) (ty := 0) (g := some (18, false)) (by kernel_rfl) ⟨26, _, by kernel_rfl, rfl, rfl⟩ rfl ?_
    refine go_n (d := 28) (op := .load 30 (.tmp 27)) (ty := 30) (g := some (18, false)) (by kernel_rfl) ⟨26, _, by kernel_rfl, rfl, rfl⟩ rfl ?_
    refine go_n (d := 29) (op := .binOp .eql 30 (.tmp 28) (.const (.int .u64 0)) 30) (ty := 4) (g := some (18, false)) (by kernel_rfl) ⟨26, _, by kernel_rfl, rfl, rfl⟩ rfl ?_
    refine go_q0 30 (.pick (.tmp 26) (.const (.bool true)) (.tmp 29)) 4 (qv_pick_t rfl rfl) ?_
    refine go_q0 31 (.move (.tmp 30)) 4 (qv_move rfl) ?_
    refine go_n (d := 32) (op := .fieldAddr 148 (.tmp 3) 4) (ty := 0) (g := some (23, false)) (by kernel_rfl) ⟨31, _, by kernel_rfl, rfl, rfl⟩ rfl ?_
    refine go_n (d := 33) (op := .load 30 (.tmp 32)) (ty := 30) (g := some (23, false)) (by kernel_rfl) ⟨31, _, by kernel_rfl, rfl, rfl⟩ rfl ?_
    refine go_n (d := 34) (op := .binOp .eql 30 (.tmp 33) (.const (.int .u64 0)) 30) (ty := 4) (g := some (23, false)) (by kernel_rfl) ⟨31, _, by kernel_rfl, rfl, rfl⟩ rfl ?_
    refine go_q0 35 (.pick (.tmp 31) (.const (.bool true)) (.tmp 34)) 4 (qv_pick_t rfl rfl) ?_
    refine go_nil ?_
    change G _ _ _ _
    refine p_weaken [0, 3, 4, 5, 35] rfl ?_
    refine p_condT (.tmp 35) (by kernel_rfl) rfl ?_
    refine p_seq0 ?_
    refine p_plain0 (0 :: 1 :: []) ?_
    refine go_q0 4 (.assign (.const (.pointer none))) 101 (qv_assign rfl) ?_
    refine go_q0 5 (.assign (.const (.int .i64 2))) 61 (qv_assign rfl) ?_
    refine go_nil ?_
    change G _ _ _ _
    refine p_weaken [0, 3, 4, 5] rfl ?_
    refine p_ret0 ?_
    try dsimp only [thenQ, inBlockQ]
    try rw [if_pos rfl]
    refine ret_now (.inr rfl) (.cons (res_tmp rfl) (.cons (res_tmp rfl) .nil)) (by repeat constructor) ?_
    exact ⟨rfl, rfl⟩
  replace g26 := kn g26
  refine go_q (d := 27) (op := .fieldAddr 148 (.tmp 3) 3) (ty := 0) (g := some (18, false)) (by kernel_rfl) ⟨26, by kernel_rfl, rfl⟩ rfl (qv_field rfl fd148_3) ?_
  refine go_q (d := 28) (op := .load 30 (.tmp 27)) (ty := 30) (g := some (18, false)) (by kernel_rfl) ⟨26, by kernel_rfl, rfl⟩ rfl (qv_load rfl .auto (ldv_sca sc30 (get_Bnd_3 _))) ?_
  refine go_q (d := 29) (op := .binOp .eql 30 (.tmp 28) (.const (.int .u64 0)) 30) (ty := 4) (g := some (18, false)) (by kernel_rfl) ⟨26, by kernel_rfl, rfl⟩ rfl (qv_eql rfl rfl rfl) ?_
  refine go_q0 30 (.pick (.tmp 26) (.const (.bool true)) (.tmp 29)) 4 (qv_pick_f rfl rfl) ?_
  refine go_q0 31 (.move (.tmp 30)) 4 (qv_move rfl) ?_
  refine go_case (d := 31) rfl (fun g31 => ?_) (fun g31 => ?_)
  · replace g31 := kn g31
    refine go_n (d := 32) (op := .fieldAddr 148 (.tmp 3) 4) (ty := 0) (g := some (23, false)) (by kernel_rfl) ⟨31, _, by kernel_rfl, rfl, rfl⟩ rfl ?_
    refine go_n (d := 33) (op := .load 30 (.tmp 32)) (ty := 30) (g := some (23, false)) (by kernel_rfl) ⟨31, _, by kernel_rfl, rfl, rfl⟩ rfl ?_
    refine go_n (d := 34) (op := .binOp .eql 30 (.tmp 33) (.const (.int .u64 0)) 30) (ty := 4) (g := some (23, false)) (by kernel_rfl) ⟨31, _, by kernel_rfl, rfl, rfl⟩ rfl ?_
    refine go_q0 35 (.pick (.tmp 31) (.const (.bool true)) (.tmp 34)) 4 (qv_pick_t rfl rfl) ?_
    refine go_nil ?_
    change G _ _ _ _
    refine p_weaken [0, 3, 4, 5, 35] rfl ?_
    refine p_condT (.tmp 35) (by kernel_rfl) rfl ?_
    refine p_seq0 ?_
    refine p_plain0 (0 :: 1 :: []) ?_
    refine go_q0 4 (.assign (.const (.pointer none))) 101 (qv_assign rfl) ?_
    refine go_q0 5 (.assign (.const (.int .i64 2))) 61 (qv_assign rfl) ?_
    refine go_nil ?_
    change G _ _ _ _
    refine p_weaken [0, 3, 4, 5] rfl ?_
    refine p_ret0 ?_
    try dsimp only [thenQ, inBlockQ]
    try rw [if_pos rfl]
    refine ret_now (.inr rfl) (.cons (res_tmp rfl) (.cons (res_tmp rfl) .nil)) (by repeat constructor) ?_
    exact ⟨rfl, rfl⟩
  replace g31 := kn g31
  refine go_q (d := 32) (op := .fieldAddr 148 (.tmp 3) 4) (ty := 0) (g := some (23, false)) (by kernel_rfl) ⟨31, by kernel_rfl, rfl⟩ rfl (qv_field rfl fd148_4) ?_
  refine go_q (d := 33) (op := .load 30 (.tmp 32)) (ty := 30) (g := some (23, false)) (by kernel_rfl) ⟨31, by kernel_rfl, rfl⟩ rfl (qv_load rfl .auto (ldv_sca sc30 (get_Bnd_4 _))) ?_
  refine go_q (d := 34) (op := .binOp .eql 30 (.tmp 33) (.const (.int .u64 0)) 30) (ty := 4) (g := some (23, false)) (by kernel_rfl) ⟨31, by kernel_rfl, rfl⟩ rfl (qv_eql rfl rfl rfl) ?_
  refine go_q0 35 (.pick (.tmp 31) (.const (.bool true)) (.tmp 34)) 4 (qv_pick_f rfl rfl) ?_
  refine go_nil ?_
  change G _ _ _ _
  refine p_weaken [0, 3, 4, 5, 35] rfl ?_
  refine p_cond (.tmp 35) (by kernel_rfl) rfl (fun h35 => ?_) (fun h35 => ?_)
  rotate_left
  · replace h35 := kn h35
    exfalso
    rw [show okBnd b = true by unfold okBnd; simp [*]; omega] at h
    cases h
  replace h35 := kn h35
  refine p_seq0 ?_
  refine p_plain0 (0 :: 1 :: []) ?_
  refine go_q0 4 (.assign (.const (.pointer none))) 101 (qv_assign rfl) ?_
  refine go_q0 5 (.assign (.const (.int .i64 2))) 61 (qv_assign rfl) ?_
  refine go_nil ?_
  change G _ _ _ _
  refine p_weaken [0, 3, 4, 5] rfl ?_
  refine p_ret0 ?_
  try dsimp only [thenQ, inBlockQ]
  try rw [if_pos rfl]
  refine ret_now (.inr rfl) (.cons (res_tmp rfl) (.cons (res_tmp rfl) .nil)) (by repeat constructor) ?_
  exact ⟨rfl, rfl⟩
theorem ct_CNew {tick : Int} {b : Bnd} (h : okBnd b = true) (hb : b.Wf) : Ct Try.prog 80 [.int .u64 tick, .agg b.c].toArray [] (fun v M' => ∃ bc, v = .tuple #[.pointer (some ⟨bc, 0, none⟩), .int .i64 0] ∧ CacM bc tick b [] M') := by
  unfold okBnd at h
  simp only [Bool.and_eq_true, decide_eq_true_eq] at h
  obtain ⟨⟨⟨⟨⟨h1, h2⟩, h3⟩, h4⟩, h5⟩, h6⟩ := h
  obtain ⟨m, hm⟩ : ∃ m : Nat, b.flows = m := ⟨b.flows.toNat, by omega⟩
  obtain ⟨e1, e2⟩ := bitLen_le13 ⟨m, by omega⟩
  simp only at e1 e2
  generalize hE : Lib.bitLen m = e at *
  obtain ⟨g1, g2, g3⟩ := p2_pow ⟨e, by omega⟩
  have g4 := shl_p2 ⟨e, by omega⟩
  have hok := okSize_pos (ok_pow ⟨e, by omega⟩)
  simp only at g1 g2 g3 g4 hok
  have hL := pu_bitsLen b.flows (by omega) (by omega)
  rw [show b.flows.toNat = m by omega, hE] at hL
  refine ct_body (rv := [.tmp 4, .tmp 5]) [(0, _), (1, _)] Try.func80 (by kernel_rfl) Try.ntmps80 Try.results80 rfl rfl (fun w0 => ?_)
  refine p_seq0 ?_
  refine p_plain0 (0 :: 1 :: 2 :: []) ?_
  refine go_s0 (some 3) (.box 148 (.tmp 1)) 0 ?_
  refine os_boxA rfl rfl (fun b3 => ?_)
  refine go_q0 4 (.assign (.const (.pointer none))) 101 (qv_assign rfl) ?_
  refine go_q0 5 (.assign (.const (.int .i64 0))) 61 (qv_assign rfl) ?_
  refine go_nil ?_
  change G _ _ _ _
  refine p_weaken [0, 3, 4, 5] rfl ?_
  refine p_seq0 ?_
  refine p_seq0 ?_
  refine p_plain0 (0 :: 1 :: 2 :: 3 :: 4 :: 5 :: 6 :: 7 :: 8 :: 9 :: 10 :: 11 :: 12 :: 13 :: 14 :: 15 :: 16 :: 17 :: 18 :: 19 :: 20 :: 21 :: 22 :: 23 :: 24 :: 25 :: 26 :: 27 :: []) ?_
  refine go_q0 8 (.fieldAddr 148 (.tmp 3) 0) 0 (qv_field rfl fd148_0) ?_
  refine go_q0 9 (.load 3 (.tmp 8)) 3 (qv_load rfl .auto (ldv_sca sc3 (get_Bnd_0 _))) ?_
  refine go_q0 10 (.binOp .lss 3 (.tmp 9) (.const (.int .i64 1)) 3) 4 (qv_lss (b := false) rfl rfl (decide_eq_false (by omega))) ?_
  refine go_q0 11 (.move (.tmp 10)) 4 (qv_move rfl) ?_
  refine go_q (d := 12) (op := .fieldAddr 148 (.tmp 3) 0) (ty := 0) (g := some (3, false)) (by kernel_rfl) ⟨11, by kernel_rfl, rfl⟩ rfl (qv_field rfl fd148_0) ?_
  refine go_q (d := 13) (op := .load 3 (.tmp 12)) (ty := 3) (g := some (3, false)) (by kernel_rfl) ⟨11, by kernel_rfl, rfl⟩ rfl (qv_load rfl .auto (ldv_sca sc3 (get_Bnd_0 _))) ?_
  refine go_q (d := 14) (op := .binOp .gtr 3 (.tmp 13) (.const (.int .i64 4096)) 3) (ty := 4) (g := some (3, false)) (by kernel_rfl) ⟨11, by kernel_rfl, rfl⟩ rfl (qv_gtr (b := false) rfl rfl (decide_eq_false (by omega))) ?_
  refine go_q0 15 (.pick (.tmp 11) (.const (.bool true)) (.tmp 14)) 4 (qv_pick_f rfl rfl) ?_
  refine go_q0 16 (.move (.tmp 15)) 4 (qv_move rfl) ?_
  refine go_q (d := 17) (op := .fieldAddr 148 (.tmp 3) 1) (ty := 0) (g := some (8, false)) (by kernel_rfl) ⟨16, by kernel_rfl, rfl⟩ rfl (qv_field rfl fd148_1) ?_
  refine go_q (d := 18) (op := .load 30 (.tmp 17)) (ty := 30) (g := some (8, false)) (by kernel_rfl) ⟨16, by kernel_rfl, rfl⟩ rfl (qv_load rfl .auto (ldv_sca sc30 (get_Bnd_1 _))) ?_
  refine go_q (d := 19) (op := .binOp .eql 30 (.tmp 18) (.const (.int .u64 0)) 30) (ty := 4) (g := some (8, false)) (by kernel_rfl) ⟨16, by kernel_rfl, rfl⟩ rfl (qv_eql (b := false) rfl rfl (beq_eq_false_iff_ne.2 (by omega))) ?_
  refine go_q0 20 (.pick (.tmp 16) (.const (.bool true)) (.tmp 19)) 4 (qv_pick_f rfl rfl) ?_
  refine go_q0 21 (.move (.tmp 20)) 4 (qv_move rfl) ?_
  refine go_q (d := 22) (op := .fieldAddr 148 (.tmp 3) 2) (ty := 0) (g := some (13, false)) (by kernel_rfl) ⟨21, by kernel_rfl, rfl⟩ rfl (qv_field rfl fd148_2) ?_
  refine go_q (d := 23) (op := .load 30 (.tmp 22)) (ty := 30) (g := some (13, false)) (by kernel_rfl) ⟨21, by kernel_rfl, rfl⟩ rfl (qv_load rfl .auto (ldv_sca sc30 (get_Bnd_2 _))) ?_
  refine go_q (d := 24) (op := .binOp .eql 30 (.tmp 23) (.const (.int .u64 0)) 30) (ty := 4) (g := some (13, false)) (by kernel_rfl) ⟨21, by kernel_rfl, rfl⟩ rfl (qv_eql (b := false) rfl rfl (beq_eq_false_iff_ne.2 (by omega))) ?_
  refine go_q0 25 (.pick (.tmp 21) (.const (.bool true)) (.tmp 24)) 4 (qv_pick_f rfl rfl) ?_
  refine go_q0 26 (.move (.tmp 25)) 4 (qv_move rfl) ?_
  refine go_q (d := 27) (op := .fieldAddr 148 (.tmp 3) 3) (ty := 0) (g := some (18, false)) (by kernel_rfl) ⟨26, by kernel_rfl, rfl⟩ rfl (qv_field rfl fd148_3) ?_
  refine go_q (d := 28) (op := .load 30 (.tmp 27)) (ty := 30) (g := some (18, false)) (by kernel_rfl) ⟨26, by kernel_rfl, rfl⟩ rfl (qv_load rfl .auto (ldv_sca sc30 (get_Bnd_3 _))) ?_
  refine go_q (d := 29) (op := .binOp .eql 30 (.tmp 28) (.const (.int .u64 0)) 30) (ty := 4) (g := some (18, false)) (by kernel_rfl) ⟨26, by kernel_rfl, rfl⟩ rfl (qv_eql (b := false) rfl rfl (beq_eq_false_iff_ne.2 (by omega))) ?_
  refine go_q0 30 (.pick (.tmp 26) (.const (.bool true)) (.tmp 29)) 4 (qv_pick_f rfl rfl) ?_
  refine go_q0 31 (.move (.tmp 30)) 4 (qv_move rfl) ?_
  refine go_q (d := 32) (op := .fieldAddr 148 (.tmp 3) 4) (ty := 0) (g := some (23, false)) (by kernel_rfl) ⟨31, by kernel_rfl, rfl⟩ rfl (qv_field rfl fd148_4) ?_
  refine go_q (d := 33) (op := .load 30 (.tmp 32)) (ty := 30) (g := some (23, false)) (by kernel_rfl) ⟨31, by kernel_rfl, rfl⟩ rfl (qv_load rfl .auto (ldv_sca sc30 (get_Bnd_4 _))) ?_
  refine go_q (d := 34) (op := .binOp .eql 30 (.tmp 33) (.const (.int .u64 0)) 30) (ty := 4) (g := some (23, false)) (by kernel_rfl) ⟨31, by kernel_rfl, rfl⟩ rfl (qv_eql (b := false) rfl rfl (beq_eq_false_iff_ne.2 (by omega))) ?_
  refine go_q0 35 (.pick (.tmp 31) (.const (.bool true)) (.tmp 34)) 4 (qv_pick_f rfl rfl) ?_
  refine go_nil ?_
  change G _ _ _ _
  refine p_weaken [0, 3, 4, 5, 35] rfl ?_
  refine p_condF (.tmp 35) (by kernel_rfl) rfl ?_
  refine p_skip0 ?_
  change G _ _ _ _
  refine p_weaken [0, 3, 4, 5] rfl ?_
  refine p_seq0 ?_
  refine p_plain0 (0 :: 1 :: 2 :: 3 :: 4 :: 5 :: 6 :: 7 :: 8 :: 9 :: 10 :: []) ?_
  refine go_q0 37 (.fieldAddr 148 (.tmp 3) 0) 0 (qv_field rfl fd148_0) ?_
  refine go_q0 38 (.load 3 (.tmp 37)) 3 (qv_load rfl .auto (ldv_sca sc3 (get_Bnd_0 _))) ?_
  refine go_q0 39 (.convert 3 220 (.tmp 38)) 220 (qv_conv un3 un220 rfl (IntWalk.u64_in _ (by omega))) ?_
  refine go_s0 (some 40) (.call { callee := .value (.func 139), args := #[.tmp 39], argTypes := #[220] }) 3 ?_
  refine os_callP rfl en139 rfl (hL) ?_
  refine go_q0 41 (.binOp .shl 3 (.const (.int .i64 1)) (.tmp 40) 3) 3 (qv_shl rfl rfl (by omega) (g4)) ?_
  refine go_s0 (some 42) (.call { callee := .value (.func 39), args := #[.tmp 41], argTypes := #[3] }) 84 ?_
  refine os_call (Nat.le_of_ble_eq_true rfl) en39 rfl .auto (ct_New (p2 e) g1 g2 hok.2.2) ?_
  rintro v42 A42 ⟨bt, bs, rfl, rfl⟩
  try dsimp only [List.nil_append, List.cons_append]
  refine go_q0 36 (.move (.tmp 42)) 84 (qv_move rfl) ?_
  refine go_q0 43 (.extract (.tmp 36) 0) 83 (qv_extract rfl rfl) ?_
  refine go_q0 44 (.extract (.tmp 36) 1) 61 (qv_extract rfl rfl) ?_
  refine go_q0 6 (.assign (.tmp 43)) 83 (qv_assign rfl) ?_
  refine go_q0 7 (.assign (.tmp 44)) 61 (qv_assign rfl) ?_
  refine go_nil ?_
  change G _ _ _ _
  refine p_weaken [0, 3, 4, 5, 6, 7] rfl ?_
  refine p_seq0 ?_
  refine p_seq0 ?_
  refine p_plain0 (0 :: 1 :: []) ?_
  refine go_q0 45 (.move (.tmp 7)) 61 (qv_move rfl) ?_
  refine go_q0 46 (.binOp .neq 61 (.tmp 45) (.const (.int .i64 0)) 61) 4 (qv_neq (b := false) rfl rfl (by decide)) ?_
  refine go_nil ?_
  change G _ _ _ _
  refine p_weaken [0, 3, 4, 5, 6, 7, 46] rfl ?_
  refine p_condF (.tmp 46) (by kernel_rfl) rfl ?_
  refine p_skip0 ?_
  change G _ _ _ _
  refine p_weaken [0, 3, 4, 5, 6] rfl ?_
  refine p_seq0 ?_
  refine p_plain0 (0 :: 1 :: 2 :: 3 :: 4 :: 5 :: 6 :: []) ?_
  refine go_q0 48 (.move (.tmp 0)) 30 (qv_move rfl) ?_
  refine go_q0 49 (.load 148 (.tmp 3)) 148 (qv_load rfl .auto (ldv_agg agg148 (extw_Bnd _) (Nat.le_of_ble_eq_true rfl))) ?_
  refine go_q0 50 (.move (.tmp 6)) 83 (qv_move rfl) ?_
  refine go_q0 51 (.build 178 #[(0, .tmp 48), (1, .tmp 49), (2, .tmp 50)]) 178 (qv_build (v := .agg (⟨tick, b, .pointer (some ⟨bt, 0, none⟩), .slice none 0 0⟩ : Cac).c) rfl (fun w => by kernel_rfl)) ?_
  refine go_s0 (some 52) (.box 178 (.tmp 51)) 101 ?_
  refine os_boxA rfl rfl (fun b52 => ?_)
  refine go_q0 4 (.assign (.tmp 52)) 101 (qv_assign rfl) ?_
  refine go_q0 5 (.assign (.const (.int .i64 0))) 61 (qv_assign rfl) ?_
  refine go_nil ?_
  change G _ _ _ _
  refine p_weaken [4, 5] rfl ?_
  refine p_ret0 ?_
  try dsimp only [thenQ, inBlockQ]
  try rw [if_pos rfl]
  refine ret_left ([cacO b52 tick b bt none 0 0, tabO bt bs (p2 e) 0, slotO bs (List.replicate (p2 e) zeroS)]) (.inr rfl) (.cons (res_tmp rfl) (.cons (res_tmp rfl) .nil)) .auto ?_
  exact ⟨b52, rfl, bt, bs, p2 e, _, none, 0, [], ⟨⟨g1, g2, g3⟩, by omega, Kp.new _, by simp, by simp, by simp; omega, hb, h2, h1⟩, OwnL.nil, rfl⟩
end Go.Proofs.Ytobmcpoejhhemaa
