import Derived.Test.YtobmcpoejhhemaaGreatKCacX
namespace Go.Proofs.YtobmcpoejhhemaaGreat
open Go.E

theorem CacM.wfr {bc : Nat} {tick : Int} {bd : Bnd} {fl : List Rec} {M : Mem} (hM : CacM bc tick bd fl M) : ∀ r ∈ fl, WfR r := by
  obtain ⟨_, _, _, _, _, _, _, hI, _⟩ := hM
  exact fun r hr => ⟨hI.wf r hr, hI.rt r hr⟩
theorem CacM.room {bc : Nat} {tick : Int} {bd : Bnd} {fl : List Rec} {M : Mem} (hM : CacM bc tick bd fl M) : (fl.length : Int) ≤ bd.flows := by
  obtain ⟨_, _, _, _, _, _, _, hI, _⟩ := hM
  exact hI.le
theorem AccR.out_len {bc : Nat} {bd : Bnd} {tick tick' cls : Int} {p : Pkt} {fl fl' out : List Rec} {M : Mem} (h : AccR bd tick tick' p cls fl fl' out) (hM : CacM bc tick bd fl M) : out.length ≤ 4098 := by
  obtain ⟨fl1, out1, out2, r, X, hA, hc, he⟩ := h.perm
  have h1 := hA.out_len hM
  have h2 : out2.length ≤ 1 := by
    rcases hc with ⟨_, _, rfl⟩ | ⟨_, hB, _⟩
    · simp
    · exact hB.out_len
  rcases he with ⟨_, _, rfl⟩ | ⟨_, _, rfl⟩ <;> simp <;> omega
/-- The packet as the law hands it on. -/
def cutP (p : Pkt) : Pkt := { p with length := p.length.tmod 100000 }
theorem cutP_bound (p : Pkt) : -100000 < (cutP p).length ∧ (cutP p).length < 100000 :=
  ⟨by have := Int.lt_tmod_of_pos p.length (show (0 : Int) < 100000 by decide); exact this, Int.tmod_lt_of_pos p.length (by decide)⟩
theorem cutP_wf {p : Pkt} (h : p.Wf) : (cutP p).Wf := by
  have hb := cutP_bound p
  exact ⟨h.key_, ⟨show (-9223372036854775808 : Int) ≤ (cutP p).length by omega, show (cutP p).length ≤ 9223372036854775807 by omega⟩, h.flags_⟩
theorem CkJ.add_in {tick : Int} {fl done : List Rec} {ins outs : List Sum24} {n : Nat} (h : CkJ tick fl ins outs done n) (hn : n ≤ 80) (p : Pkt) : ∀ s ∈ ins, s.key = p.key → InK .u64 (s.total.packets + (⟨1, max 0 (cutP p).length⟩ : Tot).packets) ∧ InK .u64 (s.total.bytes + (⟨1, max 0 (cutP p).length⟩ : Tot).bytes) := by
  have h1 := h.most p.key
  have h2 := cutP_bound p
  refine add_ok h.ip (by show (0 : Int) ≤ 1; decide) (by show 0 ≤ max 0 _; omega) ?_ ?_
  · show _ + (1 : Int) ≤ _; omega
  · show _ + max 0 (cutP p).length ≤ _; omega
theorem sel_mid {A B C : Mem} : Sel (A ++ B ++ C) B (A ++ C) := by rw [List.append_assoc]; exact Sel.skipA Sel.app
theorem ct_CacheKeepsBad (bd : Bnd) (acts : List Act24) (R : Mem) (pl : Option Addr) (cl : Nat) (hb : okBnd bd = false) :
    Ct Tryz.prog 6 [.agg bd.c, .slice pl acts.length cl].toArray R (fun v M' => v = .bool true ∧ M' = R) := by
  refine ct_body (rv := [.tmp 4]) [(0, _), (1, _)] Tryz.func6 (by kernel_rfl) Tryz.ntmps6 Tryz.results6 rfl rfl (fun w0 => ?_)
  refine p_seq0 ?_
  refine p_plain0 (0 :: 1 :: []) ?_
  refine go_s0 (some 2) (.box 36 (.tmp 0)) 0 ?_
  refine os_boxA rfl rfl (fun b2 => ?_)
  refine go_q0 4 (.assign (.const (.bool false))) 4 (qv_assign rfl) ?_
  refine go_nil ?_
  change G _ _ _ _
  refine p_weaken [1, 2, 4] rfl ?_
  refine p_seq0 ?_
  refine p_seq0 ?_
  refine p_plain0 (0 :: 1 :: 2 :: []) ?_
  refine go_q0 19 (.move (.tmp 1)) 22 (qv_move rfl) ?_
  refine go_q0 20 (.call { callee := .builtin .len, args := #[.tmp 19], argTypes := #[22] }) 3 (qv_lenS un22 rfl) ?_
  refine go_q0 21 (.binOp .gtr 3 (.tmp 20) (.const (.int .i64 80)) 3) 4 (qv_gtr rfl rfl rfl) ?_
  refine go_nil ?_
  change G _ _ _ _
  refine p_weaken [1, 2, 4, 21] rfl ?_
  refine p_cond (.tmp 21) (by kernel_rfl) rfl (fun h21 => ?_) (fun h21 => ?_)
  · replace h21 := kn h21
    refine p_seq0 ?_
    refine p_plain0 (0 :: 1 :: []) ?_
    refine go_s0 (some 22) (.call { callee := .value (.func 9), args := #[], argTypes := #[] }) 4 ?_
    refine os_callP rfl en9 rfl (pu_works24) ?_
    refine go_q0 4 (.assign (.tmp 22)) 4 (qv_assign rfl) ?_
    refine go_nil ?_
    change G _ _ _ _
    refine p_weaken [1, 2, 4] rfl ?_
    refine p_ret0 ?_
    try dsimp only [thenQ, inBlockQ]
    try rw [if_pos rfl]
    refine ret_left (R) (.inr rfl) (.cons (res_tmp rfl) .nil) .auto ?_
    exact ⟨rfl, rfl⟩
  replace h21 := kn h21
  refine p_skip0 ?_
  change G _ _ _ _
  refine p_weaken [1, 2, 4] rfl ?_
  refine p_seq0 ?_
  refine p_plain0 (0 :: 1 :: 2 :: 3 :: 4 :: 5 :: 6 :: []) ?_
  refine go_q0 24 (.load 36 (.tmp 2)) 36 (qv_load rfl .auto (ldv_agg agg36 (extw_Bnd _) (Nat.le_of_ble_eq_true rfl))) ?_
  refine go_s0 (some 25) (.call { callee := .value (.func 10), args := #[.const (.int .u64 0), .tmp 24], argTypes := #[23, 36] }) 45 ?_
  refine os_callP rfl en10 rfl (pu_CNewBad 0 bd hb) ?_
  refine go_q0 23 (.move (.tmp 25)) 45 (qv_move rfl) ?_
  refine go_q0 26 (.extract (.tmp 23) 0) 43 (qv_extract rfl rfl) ?_
  refine go_q0 27 (.extract (.tmp 23) 1) 44 (qv_extract rfl rfl) ?_
  refine go_q0 5 (.assign (.tmp 26)) 43 (qv_assign rfl) ?_
  refine go_q0 6 (.assign (.tmp 27)) 44 (qv_assign rfl) ?_
  refine go_nil ?_
  change G _ _ _ _
  refine p_weaken [1, 2, 4, 5, 6] rfl ?_
  refine p_seq0 ?_
  refine p_seq0 ?_
  refine p_plain0 (0 :: 1 :: []) ?_
  refine go_q0 28 (.move (.tmp 6)) 44 (qv_move rfl) ?_
  refine go_q0 29 (.binOp .neq 44 (.tmp 28) (.const (.int .i64 0)) 44) 4 (qv_neq (b := true) rfl rfl (by decide)) ?_
  refine go_nil ?_
  change G _ _ _ _
  refine p_weaken [1, 2, 4, 5, 29] rfl ?_
  refine p_condT (.tmp 29) (by kernel_rfl) rfl ?_
  refine p_seq0 ?_
  refine p_plain0 (0 :: 1 :: []) ?_
  refine go_s0 (some 30) (.call { callee := .value (.func 9), args := #[], argTypes := #[] }) 4 ?_
  refine os_callP rfl en9 rfl (pu_works24) ?_
  refine go_q0 4 (.assign (.tmp 30)) 4 (qv_assign rfl) ?_
  refine go_nil ?_
  change G _ _ _ _
  refine p_weaken [1, 2, 4, 5] rfl ?_
  refine p_ret0 ?_
  try dsimp only [thenQ, inBlockQ]
  try rw [if_pos rfl]
  refine ret_left (R) (.inr rfl) (.cons (res_tmp rfl) .nil) .auto ?_
  exact ⟨rfl, rfl⟩
theorem ct_CacheKeeps (bd : Bnd) (acts : List Act24) (R : Mem) (pl : Option Addr) (cl : Nat) (hok : okBnd bd = true) (hbw : bd.Wf) (hl : Lst eAct24 pl acts R) (hwf : ∀ a ∈ acts, a.Wf) :
    Ct Tryz.prog 6 [.agg bd.c, .slice pl acts.length cl].toArray R (fun v M' => v = .bool true ∧ M' = R) := by
  refine ct_body (rv := [.tmp 4]) [(0, _), (1, _)] Tryz.func6 (by kernel_rfl) Tryz.ntmps6 Tryz.results6 rfl rfl (fun w0 => ?_)
  refine p_seq0 ?_
  refine p_plain0 (0 :: 1 :: []) ?_
  refine go_s0 (some 2) (.box 36 (.tmp 0)) 0 ?_
  refine os_boxA rfl rfl (fun b2 => ?_)
  refine go_q0 4 (.assign (.const (.bool false))) 4 (qv_assign rfl) ?_
  refine go_nil ?_
  change G _ _ _ _
  refine p_weaken [1, 2, 4] rfl ?_
  refine p_seq0 ?_
  refine p_seq0 ?_
  refine p_plain0 (0 :: 1 :: 2 :: []) ?_
  refine go_q0 19 (.move (.tmp 1)) 22 (qv_move rfl) ?_
  refine go_q0 20 (.call { callee := .builtin .len, args := #[.tmp 19], argTypes := #[22] }) 3 (qv_lenS un22 rfl) ?_
  refine go_q0 21 (.binOp .gtr 3 (.tmp 20) (.const (.int .i64 80)) 3) 4 (qv_gtr rfl rfl rfl) ?_
  refine go_nil ?_
  change G _ _ _ _
  refine p_weaken [1, 2, 4, 21] rfl ?_
  refine p_cond (.tmp 21) (by kernel_rfl) rfl (fun h21 => ?_) (fun h21 => ?_)
  · replace h21 := kn h21
    refine p_seq0 ?_
    refine p_plain0 (0 :: 1 :: []) ?_
    refine go_s0 (some 22) (.call { callee := .value (.func 9), args := #[], argTypes := #[] }) 4 ?_
    refine os_callP rfl en9 rfl (pu_works24) ?_
    refine go_q0 4 (.assign (.tmp 22)) 4 (qv_assign rfl) ?_
    refine go_nil ?_
    change G _ _ _ _
    refine p_weaken [1, 2, 4] rfl ?_
    refine p_ret0 ?_
    try dsimp only [thenQ, inBlockQ]
    try rw [if_pos rfl]
    refine ret_left (R) (.inr rfl) (.cons (res_tmp rfl) .nil) .auto ?_
    exact ⟨rfl, rfl⟩
  replace h21 := kn h21
  refine p_skip0 ?_
  change G _ _ _ _
  refine p_weaken [1, 2, 4] rfl ?_
  refine p_seq0 ?_
  refine p_plain0 (0 :: 1 :: 2 :: 3 :: 4 :: 5 :: 6 :: []) ?_
  refine go_q0 24 (.load 36 (.tmp 2)) 36 (qv_load rfl .auto (ldv_agg agg36 (extw_Bnd _) (Nat.le_of_ble_eq_true rfl))) ?_
  refine go_s0 (some 25) (.call { callee := .value (.func 10), args := #[.const (.int .u64 0), .tmp 24], argTypes := #[23, 36] }) 45 ?_
  refine os_call (Nat.le_of_ble_eq_true rfl) en10 rfl .auto (ct_CNew (tick := 0) (b := bd) hok hbw) ?_
  rintro v25 A25 ⟨bc, rfl, hM0⟩
  try dsimp only [List.nil_append, List.cons_append]
  refine go_q0 23 (.move (.tmp 25)) 45 (qv_move rfl) ?_
  refine go_q0 26 (.extract (.tmp 23) 0) 43 (qv_extract rfl rfl) ?_
  refine go_q0 27 (.extract (.tmp 23) 1) 44 (qv_extract rfl rfl) ?_
  refine go_q0 5 (.assign (.tmp 26)) 43 (qv_assign rfl) ?_
  refine go_q0 6 (.assign (.tmp 27)) 44 (qv_assign rfl) ?_
  refine go_nil ?_
  change G _ _ _ _
  refine p_weaken [1, 2, 4, 5, 6] rfl ?_
  refine p_seq0 ?_
  refine p_seq0 ?_
  refine p_plain0 (0 :: 1 :: []) ?_
  refine go_q0 28 (.move (.tmp 6)) 44 (qv_move rfl) ?_
  refine go_q0 29 (.binOp .neq 44 (.tmp 28) (.const (.int .i64 0)) 44) 4 (qv_neq (b := false) rfl rfl (by decide)) ?_
  refine go_nil ?_
  change G _ _ _ _
  refine p_weaken [1, 2, 4, 5, 29] rfl ?_
  refine p_condF (.tmp 29) (by kernel_rfl) rfl ?_
  refine p_skip0 ?_
  change G _ _ _ _
  refine p_weaken [1, 2, 4, 5] rfl ?_
  refine p_seq0 ?_
  refine p_plain0 (0 :: 1 :: []) ?_
  refine go_q0 7 (.assign (.const (.slice none 0 0))) 54 (qv_assign rfl) ?_
  refine go_q0 8 (.assign (.const (.slice none 0 0))) 54 (qv_assign rfl) ?_
  refine go_nil ?_
  change G _ _ _ _
  refine p_seq0 ?_
  refine p_seq0 ?_
  refine p_plain0 (0 :: []) ?_
  refine go_q0 9 (.assign (.const (.int .i64 0))) 3 (qv_assign rfl) ?_
  refine go_nil ?_
  change G _ _ _ _
  refine p_block 0 (by kernel_rfl) ?_
  refine p_loopE (by kernel_rfl) (fun s m => ∃ (i : Nat) (tick : Int) (fl : List Rec) (ins : List Sum24) (outs : List Sum24) (p7 : Option Addr) (c7 : Nat) (A7 : Mem) (p8 : Option Addr) (c8 : Nat) (A8 : Mem) (M1 : Mem), (i ≤ acts.length) ∧ (CkJ tick fl ins outs [] i) ∧ (outs.length ≤ i * 4098) ∧ (OwnL eSum24 119 p7 c7 ins A7) ∧ (OwnL eSum24 119 p8 c8 outs A8) ∧ (CacM bc tick bd fl M1) ∧ Ge s ⟨[], [(1, .slice pl acts.length cl), (2, .pointer (some ⟨b2, 0, none⟩)), (4, .bool false), (5, .pointer (some ⟨bc, 0, none⟩)), (7, .slice p7 ins.length c7), (8, .slice p8 outs.length c8), (9, .int .i64 i)], (b2, .cells bd.c 36 (0, 0)) :: (M1 ++ (A7 ++ (A8 ++ R)))⟩ ∧ m = acts.length + 1 - i) ?_ ?_
  · exact ⟨_, ⟨0, 0, [], [], [], none, 0, [], none, 0, [], _, by omega, CkJ.start, Nat.zero_le _, OwnL.nil, OwnL.nil, hM0, ⟨rfl, ⟨[1, 2, 4, 5, 7, 8, 9], rfl⟩, .auto⟩, rfl⟩⟩
  rintro s m ⟨i, tick, fl, ins, outs, p7, c7, A7, p8, c8, A8, M1, hi, hJ, hol, h7, h8, hM1, hs, rfl⟩
  refine ge_ok hs ?_
  refine p_seq0 ?_
  refine p_seq0 ?_
  refine p_plain0 (0 :: 1 :: 2 :: 3 :: []) ?_
  refine go_q0 31 (.move (.tmp 9)) 3 (qv_move rfl) ?_
  refine go_q0 32 (.move (.tmp 1)) 22 (qv_move rfl) ?_
  refine go_q0 33 (.call { callee := .builtin .len, args := #[.tmp 32], argTypes := #[22] }) 3 (qv_lenS un22 rfl) ?_
  refine go_q0 34 (.binOp .lss 3 (.tmp 31) (.tmp 33) 3) 4 (qv_lss rfl rfl rfl) ?_
  refine go_nil ?_
  change G _ _ _ _
  refine p_weaken [1, 2, 4, 5, 7, 8, 9, 34] rfl ?_
  refine p_cond (.tmp 34) (by kernel_rfl) rfl (fun h34 => ?_) (fun h34 => ?_)
  rotate_left
  · replace h34 := kn h34
    refine p_exit 0 (by kernel_rfl) ?_
    change G _ _ _ _
    refine p_weaken [4, 5, 7, 8] rfl ?_
    refine p_seq0 ?_
    have hie : i = acts.length := by omega
    have hwr := hM1.wfr
    have hfle := hM1.le
    refine p_plain0 (0 :: 1 :: 2 :: []) ?_
    refine go_q0 120 (.move (.tmp 5)) 43 (qv_move rfl) ?_
    refine go_s0 (some 121) (.call { callee := .value (.func 24), args := #[.tmp 120], argTypes := #[43] }) 55 ?_
    refine os_call (Nat.le_of_ble_eq_true rfl) en24 rfl .auto (ct_All hM1) ?_
    rintro v121 A121 ⟨al, q, cq, B, hA, rfl, hB, rfl⟩
    try dsimp only [List.nil_append, List.cons_append]
    have hal := hA.1.length_eq
    have hroom : Room outs al := fun k => by have h1 := hJ.sums _ lin_p k; have h2 := hJ.sums _ lin_b k; have h3 := hJ.most k; rw [sR_perm hA.1, sR_perm hA.1]; rw [sR_nil] at h1 h2; omega
    have halw : ∀ r ∈ al, r.Wf := fun r hr => (hwr r (hA.1.mem_iff.1 hr)).1
    refine go_q0 17 (.assign (.tmp 121)) 55 (qv_assign rfl) ?_
    refine go_nil ?_
    change G _ _ _ _
    refine p_weaken [4, 7, 8, 17] rfl ?_
    refine p_seq0 ?_
    refine p_seq0 ?_
    refine p_plain0 (0 :: []) ?_
    refine go_q0 18 (.assign (.const (.int .i64 0))) 3 (qv_assign rfl) ?_
    refine go_nil ?_
    change G _ _ _ _
    refine p_block 3 (by kernel_rfl) ?_
    refine p_loopE (by kernel_rfl) (fun s m => ∃ (j : Nat) (o2 : List Sum24) (q8 : Option Addr) (d8 : Nat) (B8 : Mem), (j ≤ al.length) ∧ (o2 = addRs outs (al.take j)) ∧ (OwnL eSum24 119 q8 d8 o2 B8) ∧ Ge s ⟨[], [(4, .bool false), (7, .slice p7 ins.length c7), (8, .slice q8 o2.length d8), (17, .slice q al.length cq), (18, .int .i64 j)], B ++ (A7 ++ (B8 ++ R))⟩ ∧ m = al.length + 1 - j) ?_ ?_
    · exact ⟨_, ⟨0, outs, p8, c8, A8, by omega, rfl, h8, ⟨rfl, ⟨[4, 7, 8, 17, 18], rfl⟩, .auto⟩, rfl⟩⟩
    rintro s m ⟨j, o2, q8, d8, B8, hj, ho2, g8, hs, rfl⟩
    refine ge_ok hs ?_
    refine p_seq0 ?_
    refine p_seq0 ?_
    refine p_plain0 (0 :: 1 :: 2 :: 3 :: []) ?_
    refine go_q0 122 (.move (.tmp 18)) 3 (qv_move rfl) ?_
    refine go_q0 123 (.move (.tmp 17)) 55 (qv_move rfl) ?_
    refine go_q0 124 (.call { callee := .builtin .len, args := #[.tmp 123], argTypes := #[55] }) 3 (qv_lenS un55 rfl) ?_
    refine go_q0 125 (.binOp .lss 3 (.tmp 122) (.tmp 124) 3) 4 (qv_lss rfl rfl rfl) ?_
    refine go_nil ?_
    change G _ _ _ _
    refine p_weaken [4, 7, 8, 17, 18, 125] rfl ?_
    refine p_cond (.tmp 125) (by kernel_rfl) rfl (fun h125 => ?_) (fun h125 => ?_)
    rotate_left
    · replace h125 := kn h125
      refine p_exit 3 (by kernel_rfl) ?_
      change G _ _ _ _
      refine p_weaken [4, 7, 8] rfl ?_
      refine p_seq0 ?_
      have hje : j = al.length := by omega
      rw [hje, List.take_length] at ho2
      subst ho2
      have hno := addRs_nodup al hJ.no
      have hol2 : (addRs outs al).length ≤ 1000000 := by have := addRs_len al outs; omega
      have hil : ins.length ≤ 1000000 := by have := hJ.il; omega
      have hS1 := ct_same (c := c7) (d := d8) (M := A7 ++ B8) h7.lst.left g8.lst.right hil hol2 (same_of hJ.ni hno fun g hg k => hJ.all hA hg k)
      have hS2 := ct_same (c := d8) (d := c7) (M := A7 ++ B8) g8.lst.right h7.lst.left hol2 hil (same_of hno hJ.ni fun g hg k => (hJ.all hA hg k).symm)
      refine p_plain0 (0 :: 1 :: 2 :: 3 :: 4 :: 5 :: 6 :: 7 :: 8 :: 9 :: 10 :: 11 :: []) ?_
      refine go_q0 140 (.move (.tmp 7)) 54 (qv_move rfl) ?_
      refine go_q0 141 (.move (.tmp 8)) 54 (qv_move rfl) ?_
      refine go_s0 (some 142) (.call { callee := .value (.func 26), args := #[.tmp 140, .tmp 141], argTypes := #[54, 54] }) 4 ?_
      refine os_pv rfl (pv_callR en26 rfl (Sel.append (Sel.skipA Sel.app) (Sel.skipA Sel.app)) (hS1)) ?_
      refine go_q0 143 (.move (.tmp 142)) 4 (qv_move rfl) ?_
      refine go_q (d := 144) (op := .move (.tmp 8)) (ty := 54) (g := some (3, true)) (by kernel_rfl) ⟨143, by kernel_rfl, rfl⟩ rfl (qv_move rfl) ?_
      refine go_q (d := 145) (op := .move (.tmp 7)) (ty := 54) (g := some (3, true)) (by kernel_rfl) ⟨143, by kernel_rfl, rfl⟩ rfl (qv_move rfl) ?_
      refine go_s (d := some 146) (op := .call { callee := .value (.func 26), args := #[.tmp 144, .tmp 145], argTypes := #[54, 54] }) (ty := 4) (g := some (3, true)) (by kernel_rfl) ⟨143, by kernel_rfl, rfl⟩ ?_
      refine os_pv rfl (pv_callR en26 rfl (Sel.append (Sel.skipA Sel.app) (Sel.skipA Sel.app)) (hS2)) ?_
      refine go_q0 147 (.pick (.tmp 143) (.tmp 146) (.const (.bool false))) 4 (qv_pick_t rfl rfl) ?_
      refine go_q0 148 (.move (.tmp 147)) 4 (qv_move rfl) ?_
      refine go_s (d := some 149) (op := .call { callee := .value (.func 9), args := #[], argTypes := #[] }) (ty := 4) (g := some (8, true)) (by kernel_rfl) ⟨148, by kernel_rfl, rfl⟩ ?_
      refine os_callP rfl en9 rfl (pu_works24) ?_
      refine go_q0 150 (.pick (.tmp 148) (.tmp 149) (.const (.bool false))) 4 (qv_pick_t rfl rfl) ?_
      refine go_q0 4 (.assign (.tmp 150)) 4 (qv_assign rfl) ?_
      refine go_nil ?_
      change G _ _ _ _
      refine p_weaken [4] rfl ?_
      refine p_ret0 ?_
      try dsimp only [thenQ, inBlockQ]
      try rw [if_pos rfl]
      refine ret_left (R) (.inr rfl) (.cons (res_tmp rfl) .nil) .auto ?_
      exact ⟨rfl, rfl⟩
    replace h125 := kn h125
    refine p_skip0 ?_
    change G _ _ _ _
    refine p_weaken [4, 7, 8, 17, 18] rfl ?_
    refine p_seq0 ?_
    refine p_block 4 (by kernel_rfl) ?_
    obtain ⟨b, o, cu, e, f, hpe, mm, H⟩ := hB.lst.at_ (i := j) (by omega)
    subst hpe
    obtain ⟨x, hy⟩ : ∃ x, al[j]? = some x := ⟨_, List.getElem?_eq_getElem (by omega)⟩
    have hokA := hroom.at_ hJ.op halw hy
    rw [← ho2] at hokA
    have hsl : o2.length ≤ 1000000 := by have := addRs_len (al.take j) outs; rw [← ho2] at this; simp at this; omega
    have hAd := ct_add g8 hsl hokA
    refine p_draw (by kernel_rfl) mixed 11 13 _ (fun _ h => h) (by kernel_rfl) ?_
    refine gd_all (0 :: 1 :: 2 :: 3 :: 4 :: 5 :: 6 :: 7 :: 8 :: 9 :: 10 :: []) _ rfl (by kernel_rfl) (by decide) (fun _ h => h) rfl ?_
    refine sq_q0 128 (.move (.tmp 8)) 54 (qv_move rfl) ?_
    refine sq_q0 129 (.move (.tmp 17)) 55 (qv_move rfl) ?_
    refine sq_q0 130 (.move (.tmp 18)) 3 (qv_move rfl) ?_
    refine sq_q0 131 (.indexAddr 55 (.tmp 129) (.tmp 130)) 0 (qv_index un55 sz69 rfl rfl rfl (by omega)) ?_
    refine sq_q0 132 (.fieldAddr 69 (.tmp 131) 0) 0 (qv_field rfl fd69_0) ?_
    refine sq_q0 133 (.load 29 (.tmp 132)) 29 (qv_load rfl (At.of_mem (by repeat first | exact mm | exact List.mem_append_left _ mm | apply List.mem_cons_of_mem | apply List.mem_append_right)) (ldv_elp H hy agg29 (ext_Rec_0_37 _) (by decide) (by decide) rfl)) ?_
    refine sq_q0 134 (.move (.tmp 17)) 55 (qv_move rfl) ?_
    refine sq_q0 135 (.move (.tmp 18)) 3 (qv_move rfl) ?_
    refine sq_q0 136 (.indexAddr 55 (.tmp 134) (.tmp 135)) 0 (qv_index un55 sz69 rfl rfl rfl (by omega)) ?_
    refine sq_q0 137 (.load 69 (.tmp 136)) 69 (qv_load rfl (At.of_mem (by repeat first | exact mm | exact List.mem_append_left _ mm | apply List.mem_cons_of_mem | apply List.mem_append_right)) (ldv_els H hy (by decide) agg69 rfl)) ?_
    refine sq_p (d := 138) (op := .call { callee := .value (.func 25), args := #[.tmp 137], argTypes := #[69] }) (ty := 65) (g := none) (by kernel_rfl) trivial (pv_call en25 rfl (pu_Total x)) ?_
    refine SeqK.nil (fun β => ?_)
    refine gd_tail [11, 12] rfl (by kernel_rfl) (by kernel_rfl) ?_
    refine go_s0 (some 139) (.call { callee := .value (.func 22), args := #[.tmp 128, .tmp 133, .tmp 138], argTypes := #[54, 29, 65] }) 54 ?_
    refine os_call (Nat.le_of_ble_eq_true rfl) en22 rfl .auto (hAd) ?_
    rintro v139 A139 ⟨q9, d9, B9, rfl, h8m, rfl⟩
    try dsimp only [List.nil_append, List.cons_append]
    refine go_q0 8 (.assign (.tmp 139)) 54 (qv_assign rfl) ?_
    refine go_nil ?_
    change G _ _ _ _
    refine p_weaken [4, 7, 8, 17, 18] rfl ?_
    refine p_plain0 (0 :: 1 :: 2 :: []) ?_
    refine go_q0 126 (.move (.tmp 18)) 3 (qv_move rfl) ?_
    refine go_q0 127 (.binOp .add 3 (.tmp 126) (.const (.int .i64 1)) 3) 3 (qv_add rfl rfl (by first | exact IntWalk.i64_in _ (by omega) | exact IntWalk.i64_in _ (by dsimp only; omega) | rfl)) ?_
    refine go_q0 18 (.assign (.tmp 127)) 3 (qv_assign rfl) ?_
    refine go_nil ?_
    exact ⟨_, ⟨j + 1, _, _, _, _, by omega, by rw [addRs_succ hy, ← ho2], h8m, ⟨rfl, ⟨[4, 7, 8, 17, 18], rfl⟩, .auto⟩, rfl⟩, by omega⟩
  replace h34 := kn h34
  refine p_skip0 ?_
  change G _ _ _ _
  refine p_weaken [1, 2, 4, 5, 7, 8, 9] rfl ?_
  refine p_seq0 ?_
  refine p_block 1 (by kernel_rfl) ?_
  refine p_seq0 ?_
  obtain ⟨ba, oa, ca, ea, fa, rfl, ma, Ha⟩ := hl.at_ (i := i) (by omega)
  obtain ⟨a, hx⟩ : ∃ a, acts[i]? = some a := ⟨_, List.getElem?_eq_getElem (by omega)⟩
  have haw := hwf a (List.mem_of_getElem? hx)
  have hwr := hM1.wfr
  have hfle := hM1.le
  refine p_plain0 (0 :: 1 :: 2 :: 3 :: 4 :: 5 :: []) ?_
  refine go_q0 37 (.move (.tmp 1)) 22 (qv_move rfl) ?_
  refine go_q0 38 (.move (.tmp 9)) 3 (qv_move rfl) ?_
  refine go_q0 39 (.indexAddr 22 (.tmp 37) (.tmp 38)) 0 (qv_index un22 sz33 rfl rfl rfl (by omega)) ?_
  refine go_q0 40 (.load 33 (.tmp 39)) 33 (qv_load rfl (At.of_mem (by repeat first | exact ma | exact List.mem_append_left _ ma | apply List.mem_cons_of_mem | apply List.mem_append_right)) (ldv_els Ha hx (by decide) agg33 rfl)) ?_
  refine go_s0 (some 10) (.alloc 33) 0 ?_
  refine os_allocA rfl ze33 (fun b10 => ?_)
  refine go_s0 none (.store 33 (.tmp 10) (.tmp 40)) 0 ?_
  refine os_store rfl rfl sz33 rfl (one_Act24 _) .auto (Nat.le_of_ble_eq_true rfl) (splw_Act24 _ _ (siz_Act24 _)) ?_
  refine go_nil ?_
  change G _ _ _ _
  refine p_weaken [1, 2, 4, 5, 7, 8, 9, 10] rfl ?_
  refine p_seq0 ?_
  refine p_plain0 (0 :: []) ?_
  refine go_q0 11 (.assign (.const (.slice none 0 0))) 55 (qv_assign rfl) ?_
  refine go_nil ?_
  change G _ _ _ _
  refine p_seqJ (fun s => ∃ (tick2 : Int) (fl2 : List Rec) (ins2 : List Sum24) (done : List Rec) (p11 : Option Addr) (c11 : Nat) (A11 : Mem) (r7 : Option Addr) (d7 : Nat) (B7 : Mem) (M2 : Mem), (CkJ tick2 fl2 ins2 outs done (i + 1)) ∧ (done.length ≤ 4098) ∧ (OwnL eRec 69 p11 c11 done A11) ∧ (OwnL eSum24 119 r7 d7 ins2 B7) ∧ (CacM bc tick2 bd fl2 M2) ∧ Ge s ⟨[], [(1, .slice (some ⟨ba, oa, none⟩) acts.length cl), (2, .pointer (some ⟨b2, 0, none⟩)), (4, .bool false), (5, .pointer (some ⟨bc, 0, none⟩)), (7, .slice r7 ins2.length d7), (8, .slice p8 outs.length c8), (9, .int .i64 i), (11, .slice p11 done.length c11)], (b2, .cells bd.c 36 (0, 0)) :: (M2 ++ (A11 ++ (B7 ++ (A8 ++ R))))⟩) (by kernel_rfl) ?_ ?_
  rotate_left
  · rintro s ⟨tick2, fl2, ins2, done, p11, c11, A11, r7, d7, B7, M2, hJ2, hdl2, h11, g7, hM2, hs⟩
    refine ge_ok hs ?_
    refine p_seq0 ?_
    have hwr2 := hM2.wfr
    have hfl2 := hM2.room
    have hEn := ct_ended (c := c11) h11.lst h8 (by omega) hJ2.dg hJ2.op (hJ2.room (by omega) hwr2)
    refine p_plain0 (0 :: 1 :: 2 :: 3 :: 4 :: 5 :: 6 :: 7 :: []) ?_
    refine go_q0 104 (.move (.tmp 11)) 55 (qv_move rfl) ?_
    refine go_q0 105 (.move (.tmp 8)) 54 (qv_move rfl) ?_
    refine go_s0 (some 106) (.call { callee := .value (.func 23), args := #[.tmp 104, .tmp 105], argTypes := #[55, 54] }) 66 ?_
    refine os_call (Nat.le_of_ble_eq_true rfl) en23 rfl (Sel.append (Sel.skip (Sel.skipA Sel.app)) (Sel.skip (Sel.skipA (Sel.skipA Sel.app)))) (hEn) ?_
    rintro v106 A106 ⟨q8, d8, B8, rfl, h8n, rfl⟩
    try dsimp only [List.nil_append, List.cons_append]
    have hJn := hJ2.end_
    have hon : (addRs outs done).length ≤ (i + 1) * 4098 := by have := addRs_len done outs; omega
    have h7n := g7
    have hMn := hM2
    refine go_q0 103 (.move (.tmp 106)) 66 (qv_move rfl) ?_
    refine go_q0 107 (.extract (.tmp 103) 0) 54 (qv_extract rfl rfl) ?_
    refine go_q0 108 (.extract (.tmp 103) 1) 4 (qv_extract rfl rfl) ?_
    refine go_q0 15 (.assign (.tmp 107)) 54 (qv_assign rfl) ?_
    refine go_q0 16 (.assign (.tmp 108)) 4 (qv_assign rfl) ?_
    refine go_nil ?_
    change G _ _ _ _
    refine p_weaken [1, 2, 4, 5, 7, 8, 9, 15, 16] rfl ?_
    refine p_seq0 ?_
    refine p_plain0 (0 :: 1 :: []) ?_
    refine go_q0 109 (.move (.tmp 15)) 54 (qv_move rfl) ?_
    refine go_q0 8 (.assign (.tmp 109)) 54 (qv_assign rfl) ?_
    refine go_nil ?_
    change G _ _ _ _
    refine p_weaken [1, 2, 4, 5, 7, 8, 9, 16] rfl ?_
    refine p_seq0 ?_
    refine p_draw (by kernel_rfl) mixed 10 10 [(b2, .cells bd.c 36 (0, 0))] (by first | (simp; done) | (intro q hq; simp [hq]; done)) (by kernel_rfl) ?_
    refine gd_q (i := 0) (d := 110) (op := .move (.tmp 16)) (ty := 4) (g := none) (by kernel_rfl) trivial rfl (by kernel_rfl) (by kernel_rfl) (by kernel_rfl) (by kernel_rfl) (qv_move rfl) ?_
    refine gd_q (i := 1) (d := 111) (op := .unOp .not 4 (.tmp 110)) (ty := 4) (g := none) (by kernel_rfl) trivial rfl (by kernel_rfl) (by kernel_rfl) (by kernel_rfl) (by kernel_rfl) (qv_not rfl) ?_
    refine gd_q (i := 2) (d := 112) (op := .move (.tmp 111)) (ty := 4) (g := none) (by kernel_rfl) trivial rfl (by kernel_rfl) (by kernel_rfl) (by kernel_rfl) (by kernel_rfl) (qv_move rfl) ?_
    refine gd_q (i := 3) (d := 113) (op := .move (.tmp 5)) (ty := 43) (g := some (2, false)) (by kernel_rfl) ⟨112, by kernel_rfl, rfl⟩ rfl (by kernel_rfl) (by kernel_rfl) (by kernel_rfl) (by kernel_rfl) (qv_move rfl) ?_
    refine gd_q (i := 6) (d := 116) (op := .fieldAddr 36 (.tmp 2) 0) (ty := 0) (g := some (2, false)) (by kernel_rfl) ⟨112, by kernel_rfl, rfl⟩ rfl (by kernel_rfl) (by kernel_rfl) (by kernel_rfl) (by kernel_rfl) (qv_field rfl fd36_0) ?_
    refine gd_q (i := 7) (d := 117) (op := .load 3 (.tmp 116)) (ty := 3) (g := some (2, false)) (by kernel_rfl) ⟨112, by kernel_rfl, rfl⟩ rfl (by kernel_rfl) (by kernel_rfl) (by kernel_rfl) (by kernel_rfl) (qv_load rfl .auto (ldv_sca sc3 (get_Bnd_0 _))) ?_
    refine gd_one (i := 4) (d := some 114) (op := .call { callee := .value (.func 24), args := #[.tmp 113], argTypes := #[43] }) (ty := 55) (g := some (2, false)) (by kernel_rfl) ⟨112, by kernel_rfl, rfl⟩ rfl (by kernel_rfl) ?_
    refine os_call (Nat.le_of_ble_eq_true rfl) en24 rfl (Sel.skipA (Sel.skip Sel.app)) (ct_All hM2) ?_
    rintro v114 A114 ⟨al2, q2, k2, B2, hA2, rfl, hB2, rfl⟩
    try dsimp only [List.nil_append, List.cons_append]
    have hal2 := hA2.1.length_eq
    refine ⟨fun _ h => by first | exact h | (cases h; done) | exact .tail _ h | exact .tail _ (.tail _ h) | exact List.mem_append_right _ (List.mem_append_right _ h) | exact List.mem_append_right _ h | (simp only [List.mem_cons, List.not_mem_nil, or_false] at h ⊢; first | exact .inl h | exact .inr (.inl h) | exact .inr (.inr (.inl h)) | exact .inr (.inr (.inr (.inl h))) | (subst h; simp; done) | grind), ?_⟩
    refine gd_q (i := 5) (d := 115) (op := .call { callee := .builtin .len, args := #[.tmp 114], argTypes := #[55] }) (ty := 3) (g := some (2, false)) (by kernel_rfl) ⟨112, by kernel_rfl, rfl⟩ rfl (by kernel_rfl) (by kernel_rfl) (by kernel_rfl) (by kernel_rfl) (qv_lenS un55 rfl) ?_
    refine gd_q (i := 8) (d := 118) (op := .binOp .gtr 3 (.tmp 115) (.tmp 117) 3) (ty := 4) (g := some (2, false)) (by kernel_rfl) ⟨112, by kernel_rfl, rfl⟩ rfl (by kernel_rfl) (by kernel_rfl) (by kernel_rfl) (by kernel_rfl) (qv_gtr (b := false) rfl rfl (by simp; omega)) ?_
    refine gd_q (i := 9) (d := 119) (op := .pick (.tmp 112) (.const (.bool true)) (.tmp 118)) (ty := 4) (g := none) (by kernel_rfl) trivial rfl (by kernel_rfl) (by kernel_rfl) (by kernel_rfl) (by kernel_rfl) (qv_pick_f rfl rfl) ?_
    refine gd_tail [] rfl (by kernel_rfl) (by kernel_rfl) ?_
    refine go_nil ?_
    change G _ _ _ _
    refine p_weaken [1, 2, 4, 5, 7, 8, 9, 119] rfl ?_
    refine p_condF (.tmp 119) (by kernel_rfl) rfl ?_
    refine p_skip0 ?_
    change G _ _ _ _
    refine p_weaken [1, 2, 4, 5, 7, 8, 9] rfl ?_
    refine p_plain0 (0 :: 1 :: 2 :: []) ?_
    refine go_q0 35 (.move (.tmp 9)) 3 (qv_move rfl) ?_
    refine go_q0 36 (.binOp .add 3 (.tmp 35) (.const (.int .i64 1)) 3) 3 (qv_add rfl rfl (by first | exact IntWalk.i64_in _ (by omega) | exact IntWalk.i64_in _ (by dsimp only; omega) | rfl)) ?_
    refine go_q0 9 (.assign (.tmp 36)) 3 (qv_assign rfl) ?_
    refine go_nil ?_
    exact ⟨_, ⟨i + 1, _, _, _, _, _, _, _, _, _, _, _, by omega, hJn, hon, h7n, h8n, hMn, ⟨rfl, ⟨[1, 2, 4, 5, 7, 8, 9], rfl⟩, .auto⟩, rfl⟩, by omega⟩
  refine p_seq0 ?_
  refine p_plain0 (0 :: 1 :: 2 :: []) ?_
  refine go_q0 41 (.fieldAddr 33 (.tmp 10) 0) 0 (qv_field rfl fd33_0) ?_
  refine go_q0 42 (.load 3 (.tmp 41)) 3 (qv_load rfl .auto (ldv_sca sc3 (get_Act24_0 _))) ?_
  refine go_s0 (some 43) (.call { callee := .value (.func 15), args := #[.tmp 42, .const (.int .i64 8)], argTypes := #[3, 3] }) 3 ?_
  refine os_callP rfl en15 rfl (pu_Pick8 a.do_) ?_
  refine go_nil ?_
  change G _ _ _ _
  refine p_weaken [1, 2, 4, 5, 7, 8, 9, 10, 11, 43] rfl ?_
  refine p_block 2 (by kernel_rfl) ?_
  refine p_seq0 ?_
  refine p_plain0 (0 :: 1 :: []) ?_
  refine go_q0 81 (.binOp .eql 3 (.tmp 43) (.const (.int .i64 7)) 3) 4 (qv_eql rfl rfl rfl) ?_
  refine go_q0 80 (.assign (.tmp 81)) 4 (qv_assign rfl) ?_
  refine go_nil ?_
  change G _ _ _ _
  refine p_weaken [1, 2, 4, 5, 7, 8, 9, 10, 11, 43, 80] rfl ?_
  refine p_cond (.tmp 80) (by kernel_rfl) rfl (fun h80 => ?_) (fun h80 => ?_)
  · replace h80 := kn h80
    refine p_plain0 (0 :: 1 :: 2 :: []) ?_
    refine go_q0 82 (.move (.tmp 5)) 43 (qv_move rfl) ?_
    refine go_s0 (some 83) (.call { callee := .value (.func 16), args := #[.tmp 82], argTypes := #[43] }) 55 ?_
    refine os_call (Nat.le_of_ble_eq_true rfl) en16 rfl .auto (ct_Flush hM1) ?_
    rintro v83 A83 ⟨srt, q, cq, B, M2, hA, rfl, hO, hM2, rfl⟩
    try dsimp only [List.nil_append, List.cons_append]
    have hJs := (hJ.flush hA hwr).mono
    have hdl : (told (fun _ => 4) srt).length ≤ 4098 := by unfold told; rw [List.length_map, hA.1.length_eq]; omega
    have h7s := h7
    refine go_q0 11 (.assign (.tmp 83)) 55 (qv_assign rfl) ?_
    refine go_nil ?_
    exact ⟨_, _, _, _, _, _, _, _, _, _, _, hJs, hdl, hO, h7s, hM2, ⟨rfl, ⟨[1, 2, 4, 5, 7, 8, 9, 11], rfl⟩, .auto⟩⟩
  replace h80 := kn h80
  refine p_seq0 ?_
  refine p_seq0 ?_
  refine p_plain0 (0 :: 1 :: []) ?_
  refine go_q0 85 (.binOp .eql 3 (.tmp 43) (.const (.int .i64 5)) 3) 4 (qv_eql rfl rfl rfl) ?_
  refine go_q0 84 (.assign (.tmp 85)) 4 (qv_assign rfl) ?_
  refine go_nil ?_
  change G _ _ _ _
  refine p_weaken [1, 2, 4, 5, 7, 8, 9, 10, 11, 43, 84] rfl ?_
  refine p_cond (.tmp 84) (by kernel_rfl) rfl (fun h84 => ?_) (fun h84 => ?_)
  · replace h84 := kn h84
    refine p_skip0 ?_
    change G _ _ _ _
    refine p_weaken [1, 2, 4, 5, 7, 8, 9, 10, 11, 84] rfl ?_
    refine p_cond (.tmp 84) (by kernel_rfl) rfl (fun h84 => ?_) (fun h84 => ?_)
    · replace h84 := kn h84
      refine p_seq0 ?_
      refine p_plain0 (0 :: 1 :: 2 :: []) ?_
      refine go_q0 87 (.move (.tmp 5)) 43 (qv_move rfl) ?_
      refine go_s0 (some 88) (.call { callee := .value (.func 17), args := #[.tmp 87], argTypes := #[43] }) 23 ?_
      refine os_pv rfl (pv_callR en17 rfl .auto (ct_Tick hM1)) ?_
      refine go_q0 12 (.assign (.tmp 88)) 23 (qv_assign rfl) ?_
      refine go_nil ?_
      change G _ _ _ _
      refine p_weaken [1, 2, 4, 5, 7, 8, 9, 10, 11, 12] rfl ?_
      refine p_seq0 ?_
      refine p_plain0 (0 :: 1 :: 2 :: 3 :: 4 :: []) ?_
      refine go_q0 89 (.move (.tmp 5)) 43 (qv_move rfl) ?_
      refine go_q0 90 (.fieldAddr 33 (.tmp 10) 3) 0 (qv_field rfl fd33_3) ?_
      refine go_q0 91 (.load 23 (.tmp 90)) 23 (qv_load rfl .auto (ldv_sca sc23 (get_Act24_42 _))) ?_
      refine go_s0 (some 92) (.call { callee := .value (.func 18), args := #[.tmp 89, .tmp 91], argTypes := #[43, 23] }) 55 ?_
      refine os_call (Nat.le_of_ble_eq_true rfl) en18 rfl .auto (ct_AdvanceAny a.tick hM1) ?_
      rintro v92 A92 ⟨fl', out, q, cq, B, M2, hA, rfl, hO, hM2, rfl⟩
      try dsimp only [List.nil_append, List.cons_append]
      have hJs := (hJ.adv hA hwr haw.tick_).mono
      have hdl : out.length ≤ 4098 := by have := hA.out_len hM1; omega
      have h7s := h7
      refine go_q0 11 (.assign (.tmp 92)) 55 (qv_assign rfl) ?_
      refine go_nil ?_
      change G _ _ _ _
      refine p_weaken [1, 2, 4, 5, 7, 8, 9, 10, 11, 12] rfl ?_
      refine p_seq0 ?_
      refine p_plain0 (0 :: 1 :: 2 :: 3 :: 4 :: 5 :: 6 :: 7 :: 8 :: 9 :: []) ?_
      refine go_q0 93 (.fieldAddr 33 (.tmp 10) 3) 0 (qv_field rfl fd33_3) ?_
      refine go_q0 94 (.load 23 (.tmp 93)) 23 (qv_load rfl .auto (ldv_sca sc23 (get_Act24_42 _))) ?_
      refine go_q0 95 (.move (.tmp 12)) 23 (qv_move rfl) ?_
      refine go_q0 96 (.binOp .geq 23 (.tmp 94) (.tmp 95) 23) 4 (qv_geq rfl rfl rfl) ?_
      refine go_q0 97 (.move (.tmp 96)) 4 (qv_move rfl) ?_
      refine go_case (d := 97) rfl (fun g97 => ?_) (fun g97 => ?_)
      rotate_left
      · replace g97 := kn g97
        refine go_n (d := 98) (op := .move (.tmp 5)) (ty := 43) (g := some (4, true)) (by kernel_rfl) ⟨97, _, by kernel_rfl, rfl, rfl⟩ rfl ?_
        refine go_n (d := 99) (op := .load 36 (.tmp 2)) (ty := 36) (g := some (4, true)) (by kernel_rfl) ⟨97, _, by kernel_rfl, rfl, rfl⟩ rfl ?_
        refine go_n (d := 100) (op := .call { callee := .value (.func 19), args := #[.tmp 98, .tmp 99], argTypes := #[43, 36] }) (ty := 4) (g := some (4, true)) (by kernel_rfl) ⟨97, _, by kernel_rfl, rfl, rfl⟩ rfl ?_
        refine go_n (d := 101) (op := .unOp .not 4 (.tmp 100)) (ty := 4) (g := some (4, true)) (by kernel_rfl) ⟨97, _, by kernel_rfl, rfl, rfl⟩ rfl ?_
        refine go_q0 102 (.pick (.tmp 97) (.tmp 101) (.const (.bool false))) 4 (qv_pick_f rfl rfl) ?_
        refine go_nil ?_
        change G _ _ _ _
        refine p_weaken [1, 2, 4, 5, 7, 8, 9, 11, 102] rfl ?_
        refine p_condF (.tmp 102) (by kernel_rfl) rfl ?_
        refine p_skip0 ?_
        exact ⟨_, _, _, _, _, _, _, _, _, _, _, hJs, hdl, hO, h7s, hM2, ⟨rfl, ⟨[1, 2, 4, 5, 7, 8, 9, 11], rfl⟩, .auto⟩⟩
      replace g97 := kn g97
      have hY := ct_young hM2 hJs.tk (fun r hr => ⟨(hM2.wfr r hr).1, by have := hJs.good r hr; have h1 := this.2.1; have h2 := this.2.2; omega, (hJs.good r hr).2.2, by rw [tickTo_of (by simpa using g97)]; exact hA.young (by simpa using g97) r hr⟩)
      refine go_q (d := 98) (op := .move (.tmp 5)) (ty := 43) (g := some (4, true)) (by kernel_rfl) ⟨97, by kernel_rfl, rfl⟩ rfl (qv_move rfl) ?_
      refine go_q (d := 99) (op := .load 36 (.tmp 2)) (ty := 36) (g := some (4, true)) (by kernel_rfl) ⟨97, by kernel_rfl, rfl⟩ rfl (qv_load rfl .auto (ldv_agg agg36 (extw_Bnd _) (Nat.le_of_ble_eq_true rfl))) ?_
      refine go_s (d := some 100) (op := .call { callee := .value (.func 19), args := #[.tmp 98, .tmp 99], argTypes := #[43, 36] }) (ty := 4) (g := some (4, true)) (by kernel_rfl) ⟨97, by kernel_rfl, rfl⟩ ?_
      refine os_pv rfl (pv_callR en19 rfl (sel_mid) (hY)) ?_
      refine go_q (d := 101) (op := .unOp .not 4 (.tmp 100)) (ty := 4) (g := some (4, true)) (by kernel_rfl) ⟨97, by kernel_rfl, rfl⟩ rfl (qv_not rfl) ?_
      refine go_q0 102 (.pick (.tmp 97) (.tmp 101) (.const (.bool false))) 4 (qv_pick_t rfl rfl) ?_
      refine go_nil ?_
      change G _ _ _ _
      refine p_weaken [1, 2, 4, 5, 7, 8, 9, 11, 102] rfl ?_
      refine p_condF (.tmp 102) (by kernel_rfl) rfl ?_
      refine p_skip0 ?_
      exact ⟨_, _, _, _, _, _, _, _, _, _, _, hJs, hdl, hO, h7s, hM2, ⟨rfl, ⟨[1, 2, 4, 5, 7, 8, 9, 11], rfl⟩, .auto⟩⟩
    replace h84 := kn h84
    refine p_seq0 ?_
    refine p_seq0 ?_
    refine p_plain0 (0 :: 1 :: 2 :: 3 :: 4 :: []) ?_
    refine go_q0 44 (.fieldAddr 33 (.tmp 10) 1) 0 (qv_field rfl fd33_1) ?_
    refine go_q0 45 (.fieldAddr 31 (.tmp 44) 0) 0 (qv_field rfl fd31_0) ?_
    refine go_q0 46 (.load 29 (.tmp 45)) 29 (qv_load rfl .auto (ldv_agg agg29 (ext_Act24_1_37 _) (Nat.le_of_ble_eq_true rfl))) ?_
    refine go_s0 (some 47) (.call { callee := .value (.func 20), args := #[.tmp 46], argTypes := #[29] }) 4 ?_
    refine os_callP rfl en20 rfl (pu_KeyRight a.packet.key) ?_
    refine go_q0 48 (.unOp .not 4 (.tmp 47)) 4 (qv_not rfl) ?_
    refine go_nil ?_
    change G _ _ _ _
    refine p_weaken [1, 2, 4, 5, 7, 8, 9, 10, 11, 48] rfl ?_
    refine p_cond (.tmp 48) (by kernel_rfl) rfl (fun h48 => ?_) (fun h48 => ?_)
    · replace h48 := kn h48
      have hJn := hJ.mono
      have hon : outs.length ≤ (i + 1) * 4098 := Nat.le_trans hol (Nat.mul_le_mul_right _ (Nat.le_succ i))
      have h7n := h7
      have h8n := h8
      have hMn := hM1
      refine p_exit 1 (by kernel_rfl) ?_
      change G _ _ _ _
      refine p_weaken [1, 2, 4, 5, 7, 8, 9] rfl ?_
      refine p_plain0 (0 :: 1 :: 2 :: []) ?_
      refine go_q0 35 (.move (.tmp 9)) 3 (qv_move rfl) ?_
      refine go_q0 36 (.binOp .add 3 (.tmp 35) (.const (.int .i64 1)) 3) 3 (qv_add rfl rfl (by first | exact IntWalk.i64_in _ (by omega) | exact IntWalk.i64_in _ (by dsimp only; omega) | rfl)) ?_
      refine go_q0 9 (.assign (.tmp 36)) 3 (qv_assign rfl) ?_
      refine go_nil ?_
      exact ⟨_, ⟨i + 1, _, _, _, _, _, _, _, _, _, _, _, by omega, hJn, hon, h7n, h8n, hMn, ⟨rfl, ⟨[1, 2, 4, 5, 7, 8, 9], rfl⟩, .auto⟩, rfl⟩, by omega⟩
    replace h48 := kn h48
    have hrt : a.packet.key.right = true := by simpa using h48
    have hAc := ct_Account (p := cutP a.packet) (cls := a.cls) (tick' := a.tick) hM1 (cutP_wf haw.packet_) hrt hJ.tk haw.tick_ haw.cls_
    refine p_skip0 ?_
    change G _ _ _ _
    refine p_weaken [1, 2, 4, 5, 7, 8, 9, 10, 11] rfl ?_
    refine p_seq0 ?_
    refine p_plain0 (0 :: 1 :: 2 :: 3 :: 4 :: 5 :: 6 :: []) ?_
    refine go_q0 49 (.fieldAddr 33 (.tmp 10) 1) 0 (qv_field rfl fd33_1) ?_
    refine go_q0 50 (.fieldAddr 31 (.tmp 49) 1) 0 (qv_field rfl fd31_1) ?_
    refine go_q0 51 (.load 3 (.tmp 50)) 3 (qv_load rfl .auto (ldv_sca sc3 (get_Act24_38 _))) ?_
    refine go_q0 52 (.binOp .rem 3 (.tmp 51) (.const (.int .i64 100000)) 3) 3 (qv_rem rfl rfl (by omega) (rfl)) ?_
    refine go_q0 53 (.fieldAddr 33 (.tmp 10) 1) 0 (qv_field rfl fd33_1) ?_
    refine go_q0 54 (.fieldAddr 31 (.tmp 53) 1) 0 (qv_field rfl fd31_1) ?_
    refine go_s0 none (.store 3 (.tmp 54) (.tmp 52)) 0 ?_
    refine os_store1 rfl rfl sz3 rfl rfl .auto (Nat.le_of_ble_eq_true rfl) (set_Act24_38 _ _) ?_
    refine go_nil ?_
    change G _ _ _ _
    refine p_weaken [1, 2, 4, 5, 7, 8, 9, 10, 11] rfl ?_
    refine p_seq0 ?_
    refine p_plain0 (0 :: 1 :: 2 :: 3 :: 4 :: 5 :: 6 :: 7 :: 8 :: 9 :: 10 :: 11 :: 12 :: []) ?_
    refine go_q0 56 (.move (.tmp 5)) 43 (qv_move rfl) ?_
    refine go_q0 57 (.fieldAddr 33 (.tmp 10) 1) 0 (qv_field rfl fd33_1) ?_
    refine go_q0 58 (.load 31 (.tmp 57)) 31 (qv_load rfl .auto (ldv_agg agg31 (ext_Act24_1_40 _) (Nat.le_of_ble_eq_true rfl))) ?_
    refine go_q0 59 (.fieldAddr 33 (.tmp 10) 2) 0 (qv_field rfl fd33_2) ?_
    refine go_q0 60 (.load 5 (.tmp 59)) 5 (qv_load rfl .auto (ldv_sca sc5 (get_Act24_41 _))) ?_
    refine go_q0 61 (.fieldAddr 33 (.tmp 10) 3) 0 (qv_field rfl fd33_3) ?_
    refine go_q0 62 (.load 23 (.tmp 61)) 23 (qv_load rfl .auto (ldv_sca sc23 (get_Act24_42 _))) ?_
    refine go_s0 (some 63) (.call { callee := .value (.func 21), args := #[.tmp 56, .tmp 58, .tmp 60, .tmp 62], argTypes := #[43, 31, 5, 23] }) 61 ?_
    refine os_call (Nat.le_of_ble_eq_true rfl) en21 rfl .auto (hAc) ?_
    rintro v63 A63 ⟨fl', out, q, cq, B, M2, hA, rfl, hO, hM2, rfl⟩
    try dsimp only [List.nil_append, List.cons_append]
    have hJs := hJ.acc (by omega) hA hwr (cutP_wf haw.packet_) hrt haw.tick_ haw.cls_ (by have := cutP_bound a.packet; omega)
    have hdl : out.length ≤ 4098 := hA.out_len hM1
    have hAd := ct_add (t := ⟨1, max 0 (cutP a.packet).length⟩) h7 (by have := hJ.il; omega) (hJ.add_in (by omega) a.packet)
    refine go_q0 55 (.move (.tmp 63)) 61 (qv_move rfl) ?_
    refine go_q0 64 (.extract (.tmp 55) 0) 55 (qv_extract rfl rfl) ?_
    refine go_q0 65 (.extract (.tmp 55) 1) 44 (qv_extract rfl rfl) ?_
    refine go_q0 13 (.assign (.tmp 64)) 55 (qv_assign rfl) ?_
    refine go_q0 14 (.assign (.tmp 65)) 44 (qv_assign rfl) ?_
    refine go_nil ?_
    change G _ _ _ _
    refine p_weaken [1, 2, 4, 5, 7, 8, 9, 10, 11, 13, 14] rfl ?_
    refine p_seq0 ?_
    refine p_seq0 ?_
    refine p_plain0 (0 :: 1 :: []) ?_
    refine go_q0 66 (.move (.tmp 14)) 44 (qv_move rfl) ?_
    refine go_q0 67 (.binOp .neq 44 (.tmp 66) (.const (.int .i64 0)) 44) 4 (qv_neq (b := false) rfl rfl (by decide)) ?_
    refine go_nil ?_
    change G _ _ _ _
    refine p_weaken [1, 2, 4, 5, 7, 8, 9, 10, 11, 13, 67] rfl ?_
    refine p_condF (.tmp 67) (by kernel_rfl) rfl ?_
    refine p_skip0 ?_
    change G _ _ _ _
    refine p_weaken [1, 2, 4, 5, 7, 8, 9, 10, 11, 13] rfl ?_
    refine p_seq0 ?_
    refine p_plain0 (0 :: 1 :: []) ?_
    refine go_q0 68 (.move (.tmp 13)) 55 (qv_move rfl) ?_
    refine go_q0 11 (.assign (.tmp 68)) 55 (qv_assign rfl) ?_
    refine go_nil ?_
    change G _ _ _ _
    refine p_weaken [1, 2, 4, 5, 7, 8, 9, 10, 11] rfl ?_
    refine p_plain0 (0 :: 1 :: 2 :: 3 :: 4 :: 5 :: 6 :: 7 :: 8 :: 9 :: 10 :: 11 :: []) ?_
    refine go_q0 69 (.move (.tmp 7)) 54 (qv_move rfl) ?_
    refine go_q0 70 (.fieldAddr 33 (.tmp 10) 1) 0 (qv_field rfl fd33_1) ?_
    refine go_q0 71 (.fieldAddr 31 (.tmp 70) 0) 0 (qv_field rfl fd31_0) ?_
    refine go_q0 72 (.load 29 (.tmp 71)) 29 (qv_load rfl .auto (ldv_agg agg29 (ext_Act24_1_37 _) (Nat.le_of_ble_eq_true rfl))) ?_
    refine go_q0 73 (.fieldAddr 33 (.tmp 10) 1) 0 (qv_field rfl fd33_1) ?_
    refine go_q0 74 (.fieldAddr 31 (.tmp 73) 1) 0 (qv_field rfl fd31_1) ?_
    refine go_q0 75 (.load 3 (.tmp 74)) 3 (qv_load rfl .auto (ldv_sca sc3 (get_Act24_38 _))) ?_
    refine go_q0 76 (.call { callee := .builtin .max, args := #[.const (.int .i64 0), .tmp 75], argTypes := #[3, 3] }) 3 (qv_max rfl rfl rfl) ?_
    refine go_q0 77 (.convert 3 23 (.tmp 76)) 23 (qv_conv un3 un23 rfl (IntWalk.u64_in _ (by have h1 : (-100000 : Int) < a.packet.length.tmod 100000 := (cutP_bound a.packet).1; have h2 : a.packet.length.tmod 100000 < 100000 := (cutP_bound a.packet).2; first | omega | (dsimp only; omega)))) ?_
    refine go_q0 78 (.build 65 #[(0, .const (.int .u64 1)), (1, .tmp 77)]) 65 (qv_build (v := .agg (⟨1, max 0 (cutP a.packet).length⟩ : Tot).c) rfl (fun w => by kernel_rfl)) ?_
    refine go_s0 (some 79) (.call { callee := .value (.func 22), args := #[.tmp 69, .tmp 72, .tmp 78], argTypes := #[54, 29, 65] }) 54 ?_
    refine os_call (Nat.le_of_ble_eq_true rfl) en22 rfl .auto (hAd) ?_
    rintro v79 A79 ⟨q7, d7, B7, rfl, h7s, rfl⟩
    try dsimp only [List.nil_append, List.cons_append]
    refine go_q0 7 (.assign (.tmp 79)) 54 (qv_assign rfl) ?_
    refine go_nil ?_
    exact ⟨_, _, _, _, _, _, _, _, _, _, _, hJs, hdl, hO, h7s, hM2, ⟨rfl, ⟨[1, 2, 4, 5, 7, 8, 9, 11], rfl⟩, .auto⟩⟩
  replace h84 := kn h84
  refine p_plain0 (0 :: 1 :: []) ?_
  refine go_q0 86 (.binOp .eql 3 (.tmp 43) (.const (.int .i64 6)) 3) 4 (qv_eql rfl rfl rfl) ?_
  refine go_q0 84 (.assign (.tmp 86)) 4 (qv_assign rfl) ?_
  refine go_nil ?_
  change G _ _ _ _
  refine p_weaken [1, 2, 4, 5, 7, 8, 9, 10, 11, 84] rfl ?_
  refine p_cond (.tmp 84) (by kernel_rfl) rfl (fun h84 => ?_) (fun h84 => ?_)
  · replace h84 := kn h84
    refine p_seq0 ?_
    refine p_plain0 (0 :: 1 :: 2 :: []) ?_
    refine go_q0 87 (.move (.tmp 5)) 43 (qv_move rfl) ?_
    refine go_s0 (some 88) (.call { callee := .value (.func 17), args := #[.tmp 87], argTypes := #[43] }) 23 ?_
    refine os_pv rfl (pv_callR en17 rfl .auto (ct_Tick hM1)) ?_
    refine go_q0 12 (.assign (.tmp 88)) 23 (qv_assign rfl) ?_
    refine go_nil ?_
    change G _ _ _ _
    refine p_weaken [1, 2, 4, 5, 7, 8, 9, 10, 11, 12] rfl ?_
    refine p_seq0 ?_
    refine p_plain0 (0 :: 1 :: 2 :: 3 :: 4 :: []) ?_
    refine go_q0 89 (.move (.tmp 5)) 43 (qv_move rfl) ?_
    refine go_q0 90 (.fieldAddr 33 (.tmp 10) 3) 0 (qv_field rfl fd33_3) ?_
    refine go_q0 91 (.load 23 (.tmp 90)) 23 (qv_load rfl .auto (ldv_sca sc23 (get_Act24_42 _))) ?_
    refine go_s0 (some 92) (.call { callee := .value (.func 18), args := #[.tmp 89, .tmp 91], argTypes := #[43, 23] }) 55 ?_
    refine os_call (Nat.le_of_ble_eq_true rfl) en18 rfl .auto (ct_AdvanceAny a.tick hM1) ?_
    rintro v92 A92 ⟨fl', out, q, cq, B, M2, hA, rfl, hO, hM2, rfl⟩
    try dsimp only [List.nil_append, List.cons_append]
    have hJs := (hJ.adv hA hwr haw.tick_).mono
    have hdl : out.length ≤ 4098 := by have := hA.out_len hM1; omega
    have h7s := h7
    refine go_q0 11 (.assign (.tmp 92)) 55 (qv_assign rfl) ?_
    refine go_nil ?_
    change G _ _ _ _
    refine p_weaken [1, 2, 4, 5, 7, 8, 9, 10, 11, 12] rfl ?_
    refine p_seq0 ?_
    refine p_plain0 (0 :: 1 :: 2 :: 3 :: 4 :: 5 :: 6 :: 7 :: 8 :: 9 :: []) ?_
    refine go_q0 93 (.fieldAddr 33 (.tmp 10) 3) 0 (qv_field rfl fd33_3) ?_
    refine go_q0 94 (.load 23 (.tmp 93)) 23 (qv_load rfl .auto (ldv_sca sc23 (get_Act24_42 _))) ?_
    refine go_q0 95 (.move (.tmp 12)) 23 (qv_move rfl) ?_
    refine go_q0 96 (.binOp .geq 23 (.tmp 94) (.tmp 95) 23) 4 (qv_geq rfl rfl rfl) ?_
    refine go_q0 97 (.move (.tmp 96)) 4 (qv_move rfl) ?_
    refine go_case (d := 97) rfl (fun g97 => ?_) (fun g97 => ?_)
    rotate_left
    · replace g97 := kn g97
      refine go_n (d := 98) (op := .move (.tmp 5)) (ty := 43) (g := some (4, true)) (by kernel_rfl) ⟨97, _, by kernel_rfl, rfl, rfl⟩ rfl ?_
      refine go_n (d := 99) (op := .load 36 (.tmp 2)) (ty := 36) (g := some (4, true)) (by kernel_rfl) ⟨97, _, by kernel_rfl, rfl, rfl⟩ rfl ?_
      refine go_n (d := 100) (op := .call { callee := .value (.func 19), args := #[.tmp 98, .tmp 99], argTypes := #[43, 36] }) (ty := 4) (g := some (4, true)) (by kernel_rfl) ⟨97, _, by kernel_rfl, rfl, rfl⟩ rfl ?_
      refine go_n (d := 101) (op := .unOp .not 4 (.tmp 100)) (ty := 4) (g := some (4, true)) (by kernel_rfl) ⟨97, _, by kernel_rfl, rfl, rfl⟩ rfl ?_
      refine go_q0 102 (.pick (.tmp 97) (.tmp 101) (.const (.bool false))) 4 (qv_pick_f rfl rfl) ?_
      refine go_nil ?_
      change G _ _ _ _
      refine p_weaken [1, 2, 4, 5, 7, 8, 9, 11, 102] rfl ?_
      refine p_condF (.tmp 102) (by kernel_rfl) rfl ?_
      refine p_skip0 ?_
      exact ⟨_, _, _, _, _, _, _, _, _, _, _, hJs, hdl, hO, h7s, hM2, ⟨rfl, ⟨[1, 2, 4, 5, 7, 8, 9, 11], rfl⟩, .auto⟩⟩
    replace g97 := kn g97
    have hY := ct_young hM2 hJs.tk (fun r hr => ⟨(hM2.wfr r hr).1, by have := hJs.good r hr; have h1 := this.2.1; have h2 := this.2.2; omega, (hJs.good r hr).2.2, by rw [tickTo_of (by simpa using g97)]; exact hA.young (by simpa using g97) r hr⟩)
    refine go_q (d := 98) (op := .move (.tmp 5)) (ty := 43) (g := some (4, true)) (by kernel_rfl) ⟨97, by kernel_rfl, rfl⟩ rfl (qv_move rfl) ?_
    refine go_q (d := 99) (op := .load 36 (.tmp 2)) (ty := 36) (g := some (4, true)) (by kernel_rfl) ⟨97, by kernel_rfl, rfl⟩ rfl (qv_load rfl .auto (ldv_agg agg36 (extw_Bnd _) (Nat.le_of_ble_eq_true rfl))) ?_
    refine go_s (d := some 100) (op := .call { callee := .value (.func 19), args := #[.tmp 98, .tmp 99], argTypes := #[43, 36] }) (ty := 4) (g := some (4, true)) (by kernel_rfl) ⟨97, by kernel_rfl, rfl⟩ ?_
    refine os_pv rfl (pv_callR en19 rfl (sel_mid) (hY)) ?_
    refine go_q (d := 101) (op := .unOp .not 4 (.tmp 100)) (ty := 4) (g := some (4, true)) (by kernel_rfl) ⟨97, by kernel_rfl, rfl⟩ rfl (qv_not rfl) ?_
    refine go_q0 102 (.pick (.tmp 97) (.tmp 101) (.const (.bool false))) 4 (qv_pick_t rfl rfl) ?_
    refine go_nil ?_
    change G _ _ _ _
    refine p_weaken [1, 2, 4, 5, 7, 8, 9, 11, 102] rfl ?_
    refine p_condF (.tmp 102) (by kernel_rfl) rfl ?_
    refine p_skip0 ?_
    exact ⟨_, _, _, _, _, _, _, _, _, _, _, hJs, hdl, hO, h7s, hM2, ⟨rfl, ⟨[1, 2, 4, 5, 7, 8, 9, 11], rfl⟩, .auto⟩⟩
  replace h84 := kn h84
  refine p_seq0 ?_
  refine p_seq0 ?_
  refine p_plain0 (0 :: 1 :: 2 :: 3 :: 4 :: []) ?_
  refine go_q0 44 (.fieldAddr 33 (.tmp 10) 1) 0 (qv_field rfl fd33_1) ?_
  refine go_q0 45 (.fieldAddr 31 (.tmp 44) 0) 0 (qv_field rfl fd31_0) ?_
  refine go_q0 46 (.load 29 (.tmp 45)) 29 (qv_load rfl .auto (ldv_agg agg29 (ext_Act24_1_37 _) (Nat.le_of_ble_eq_true rfl))) ?_
  refine go_s0 (some 47) (.call { callee := .value (.func 20), args := #[.tmp 46], argTypes := #[29] }) 4 ?_
  refine os_callP rfl en20 rfl (pu_KeyRight a.packet.key) ?_
  refine go_q0 48 (.unOp .not 4 (.tmp 47)) 4 (qv_not rfl) ?_
  refine go_nil ?_
  change G _ _ _ _
  refine p_weaken [1, 2, 4, 5, 7, 8, 9, 10, 11, 48] rfl ?_
  refine p_cond (.tmp 48) (by kernel_rfl) rfl (fun h48 => ?_) (fun h48 => ?_)
  · replace h48 := kn h48
    have hJn := hJ.mono
    have hon : outs.length ≤ (i + 1) * 4098 := Nat.le_trans hol (Nat.mul_le_mul_right _ (Nat.le_succ i))
    have h7n := h7
    have h8n := h8
    have hMn := hM1
    refine p_exit 1 (by kernel_rfl) ?_
    change G _ _ _ _
    refine p_weaken [1, 2, 4, 5, 7, 8, 9] rfl ?_
    refine p_plain0 (0 :: 1 :: 2 :: []) ?_
    refine go_q0 35 (.move (.tmp 9)) 3 (qv_move rfl) ?_
    refine go_q0 36 (.binOp .add 3 (.tmp 35) (.const (.int .i64 1)) 3) 3 (qv_add rfl rfl (by first | exact IntWalk.i64_in _ (by omega) | exact IntWalk.i64_in _ (by dsimp only; omega) | rfl)) ?_
    refine go_q0 9 (.assign (.tmp 36)) 3 (qv_assign rfl) ?_
    refine go_nil ?_
    exact ⟨_, ⟨i + 1, _, _, _, _, _, _, _, _, _, _, _, by omega, hJn, hon, h7n, h8n, hMn, ⟨rfl, ⟨[1, 2, 4, 5, 7, 8, 9], rfl⟩, .auto⟩, rfl⟩, by omega⟩
  replace h48 := kn h48
  have hrt : a.packet.key.right = true := by simpa using h48
  have hAc := ct_Account (p := cutP a.packet) (cls := a.cls) (tick' := a.tick) hM1 (cutP_wf haw.packet_) hrt hJ.tk haw.tick_ haw.cls_
  refine p_skip0 ?_
  change G _ _ _ _
  refine p_weaken [1, 2, 4, 5, 7, 8, 9, 10, 11] rfl ?_
  refine p_seq0 ?_
  refine p_plain0 (0 :: 1 :: 2 :: 3 :: 4 :: 5 :: 6 :: []) ?_
  refine go_q0 49 (.fieldAddr 33 (.tmp 10) 1) 0 (qv_field rfl fd33_1) ?_
  refine go_q0 50 (.fieldAddr 31 (.tmp 49) 1) 0 (qv_field rfl fd31_1) ?_
  refine go_q0 51 (.load 3 (.tmp 50)) 3 (qv_load rfl .auto (ldv_sca sc3 (get_Act24_38 _))) ?_
  refine go_q0 52 (.binOp .rem 3 (.tmp 51) (.const (.int .i64 100000)) 3) 3 (qv_rem rfl rfl (by omega) (rfl)) ?_
  refine go_q0 53 (.fieldAddr 33 (.tmp 10) 1) 0 (qv_field rfl fd33_1) ?_
  refine go_q0 54 (.fieldAddr 31 (.tmp 53) 1) 0 (qv_field rfl fd31_1) ?_
  refine go_s0 none (.store 3 (.tmp 54) (.tmp 52)) 0 ?_
  refine os_store1 rfl rfl sz3 rfl rfl .auto (Nat.le_of_ble_eq_true rfl) (set_Act24_38 _ _) ?_
  refine go_nil ?_
  change G _ _ _ _
  refine p_weaken [1, 2, 4, 5, 7, 8, 9, 10, 11] rfl ?_
  refine p_seq0 ?_
  refine p_plain0 (0 :: 1 :: 2 :: 3 :: 4 :: 5 :: 6 :: 7 :: 8 :: 9 :: 10 :: 11 :: 12 :: []) ?_
  refine go_q0 56 (.move (.tmp 5)) 43 (qv_move rfl) ?_
  refine go_q0 57 (.fieldAddr 33 (.tmp 10) 1) 0 (qv_field rfl fd33_1) ?_
  refine go_q0 58 (.load 31 (.tmp 57)) 31 (qv_load rfl .auto (ldv_agg agg31 (ext_Act24_1_40 _) (Nat.le_of_ble_eq_true rfl))) ?_
  refine go_q0 59 (.fieldAddr 33 (.tmp 10) 2) 0 (qv_field rfl fd33_2) ?_
  refine go_q0 60 (.load 5 (.tmp 59)) 5 (qv_load rfl .auto (ldv_sca sc5 (get_Act24_41 _))) ?_
  refine go_q0 61 (.fieldAddr 33 (.tmp 10) 3) 0 (qv_field rfl fd33_3) ?_
  refine go_q0 62 (.load 23 (.tmp 61)) 23 (qv_load rfl .auto (ldv_sca sc23 (get_Act24_42 _))) ?_
  refine go_s0 (some 63) (.call { callee := .value (.func 21), args := #[.tmp 56, .tmp 58, .tmp 60, .tmp 62], argTypes := #[43, 31, 5, 23] }) 61 ?_
  refine os_call (Nat.le_of_ble_eq_true rfl) en21 rfl .auto (hAc) ?_
  rintro v63 A63 ⟨fl', out, q, cq, B, M2, hA, rfl, hO, hM2, rfl⟩
  try dsimp only [List.nil_append, List.cons_append]
  have hJs := hJ.acc (by omega) hA hwr (cutP_wf haw.packet_) hrt haw.tick_ haw.cls_ (by have := cutP_bound a.packet; omega)
  have hdl : out.length ≤ 4098 := hA.out_len hM1
  have hAd := ct_add (t := ⟨1, max 0 (cutP a.packet).length⟩) h7 (by have := hJ.il; omega) (hJ.add_in (by omega) a.packet)
  refine go_q0 55 (.move (.tmp 63)) 61 (qv_move rfl) ?_
  refine go_q0 64 (.extract (.tmp 55) 0) 55 (qv_extract rfl rfl) ?_
  refine go_q0 65 (.extract (.tmp 55) 1) 44 (qv_extract rfl rfl) ?_
  refine go_q0 13 (.assign (.tmp 64)) 55 (qv_assign rfl) ?_
  refine go_q0 14 (.assign (.tmp 65)) 44 (qv_assign rfl) ?_
  refine go_nil ?_
  change G _ _ _ _
  refine p_weaken [1, 2, 4, 5, 7, 8, 9, 10, 11, 13, 14] rfl ?_
  refine p_seq0 ?_
  refine p_seq0 ?_
  refine p_plain0 (0 :: 1 :: []) ?_
  refine go_q0 66 (.move (.tmp 14)) 44 (qv_move rfl) ?_
  refine go_q0 67 (.binOp .neq 44 (.tmp 66) (.const (.int .i64 0)) 44) 4 (qv_neq (b := false) rfl rfl (by decide)) ?_
  refine go_nil ?_
  change G _ _ _ _
  refine p_weaken [1, 2, 4, 5, 7, 8, 9, 10, 11, 13, 67] rfl ?_
  refine p_condF (.tmp 67) (by kernel_rfl) rfl ?_
  refine p_skip0 ?_
  change G _ _ _ _
  refine p_weaken [1, 2, 4, 5, 7, 8, 9, 10, 11, 13] rfl ?_
  refine p_seq0 ?_
  refine p_plain0 (0 :: 1 :: []) ?_
  refine go_q0 68 (.move (.tmp 13)) 55 (qv_move rfl) ?_
  refine go_q0 11 (.assign (.tmp 68)) 55 (qv_assign rfl) ?_
  refine go_nil ?_
  change G _ _ _ _
  refine p_weaken [1, 2, 4, 5, 7, 8, 9, 10, 11] rfl ?_
  refine p_plain0 (0 :: 1 :: 2 :: 3 :: 4 :: 5 :: 6 :: 7 :: 8 :: 9 :: 10 :: 11 :: []) ?_
  refine go_q0 69 (.move (.tmp 7)) 54 (qv_move rfl) ?_
  refine go_q0 70 (.fieldAddr 33 (.tmp 10) 1) 0 (qv_field rfl fd33_1) ?_
  refine go_q0 71 (.fieldAddr 31 (.tmp 70) 0) 0 (qv_field rfl fd31_0) ?_
  refine go_q0 72 (.load 29 (.tmp 71)) 29 (qv_load rfl .auto (ldv_agg agg29 (ext_Act24_1_37 _) (Nat.le_of_ble_eq_true rfl))) ?_
  refine go_q0 73 (.fieldAddr 33 (.tmp 10) 1) 0 (qv_field rfl fd33_1) ?_
  refine go_q0 74 (.fieldAddr 31 (.tmp 73) 1) 0 (qv_field rfl fd31_1) ?_
  refine go_q0 75 (.load 3 (.tmp 74)) 3 (qv_load rfl .auto (ldv_sca sc3 (get_Act24_38 _))) ?_
  refine go_q0 76 (.call { callee := .builtin .max, args := #[.const (.int .i64 0), .tmp 75], argTypes := #[3, 3] }) 3 (qv_max rfl rfl rfl) ?_
  refine go_q0 77 (.convert 3 23 (.tmp 76)) 23 (qv_conv un3 un23 rfl (IntWalk.u64_in _ (by have h1 : (-100000 : Int) < a.packet.length.tmod 100000 := (cutP_bound a.packet).1; have h2 : a.packet.length.tmod 100000 < 100000 := (cutP_bound a.packet).2; first | omega | (dsimp only; omega)))) ?_
  refine go_q0 78 (.build 65 #[(0, .const (.int .u64 1)), (1, .tmp 77)]) 65 (qv_build (v := .agg (⟨1, max 0 (cutP a.packet).length⟩ : Tot).c) rfl (fun w => by kernel_rfl)) ?_
  refine go_s0 (some 79) (.call { callee := .value (.func 22), args := #[.tmp 69, .tmp 72, .tmp 78], argTypes := #[54, 29, 65] }) 54 ?_
  refine os_call (Nat.le_of_ble_eq_true rfl) en22 rfl .auto (hAd) ?_
  rintro v79 A79 ⟨q7, d7, B7, rfl, h7s, rfl⟩
  try dsimp only [List.nil_append, List.cons_append]
  refine go_q0 7 (.assign (.tmp 79)) 54 (qv_assign rfl) ?_
  refine go_nil ?_
  exact ⟨_, _, _, _, _, _, _, _, _, _, _, hJs, hdl, hO, h7s, hM2, ⟨rfl, ⟨[1, 2, 4, 5, 7, 8, 9, 11], rfl⟩, .auto⟩⟩
theorem ct_CacheKeepsAll (bd : Bnd) (acts : List Act24) (R : Mem) (pl : Option Addr) (cl : Nat) (hbw : bd.Wf) (hl : Lst eAct24 pl acts R) (hwf : ∀ a ∈ acts, a.Wf) :
    Ct Tryz.prog 6 [.agg bd.c, .slice pl acts.length cl].toArray R (fun v M' => v = .bool true ∧ M' = R) := by
  cases h : okBnd bd with
  | false => exact ct_CacheKeepsBad bd acts R pl cl h
  | true => exact ct_CacheKeeps bd acts R pl cl h hbw hl hwf
end Go.Proofs.YtobmcpoejhhemaaGreat
