import Derived.Test.YtobmcpoejhhemaaTCacJ
namespace Go.Proofs.Ytobmcpoejhhemaa
open Go.E

theorem tickTo_in {a b : Int} (ha : InK .u64 a) (hb : InK .u64 b) : InK .u64 (tickTo a b) := by unfold tickTo; split; exact hb; exact ha
theorem ct_endK {bc : Nat} {tick : Int} {bd : Bnd} {fl : List Rec} {M : Mem} {i : Nat} {r : Rec} {k : Key} (reason : Int) (hM : CacM bc tick bd fl M) (hi : fl[i]? = some r) (hk : k = r.key) :
    Ct Try.prog 100 [.pointer (some ⟨bc, 0, none⟩), .agg k.c, .int .u8 reason].toArray M (fun v M' => v = .agg ({ r with reason := reason } : Rec).c ∧ CacM bc tick bd (swapOut fl i) M') := by
  subst hk
  exact ct_end reason hM hi
theorem ct_AccountBad {bc : Nat} {tick tick' cls : Int} {bd : Bnd} {fl : List Rec} {M : Mem} {p : Pkt} (hM : CacM bc tick bd fl M) (hr : p.key.right = false) :
    Ct Try.prog 48 [.pointer (some ⟨bc, 0, none⟩), .agg p.c, .int .u8 cls, .int .u64 tick'].toArray M (fun v M' => v = .tuple #[.slice none 0 0, .int .i64 2] ∧ M' = M) := by
  have hR := hr ▸ pu_KeyRight p.key
  refine ct_body (rv := [.tmp 8, .tmp 9]) [(0, _), (1, _), (2, _), (3, _)] Try.func48 (by kernel_rfl) Try.ntmps48 Try.results48 rfl rfl (fun w0 => ?_)
  refine p_seq0 ?_
  refine p_plain0 (0 :: 1 :: 2 :: []) ?_
  refine go_s0 (some 5) (.box 39 (.tmp 1)) 0 ?_
  refine os_boxA rfl rfl (fun b5 => ?_)
  refine go_q0 8 (.assign (.const (.slice none 0 0))) 102 (qv_assign rfl) ?_
  refine go_q0 9 (.assign (.const (.int .i64 0))) 61 (qv_assign rfl) ?_
  refine go_nil ?_
  change G _ _ _ _
  refine p_weaken [0, 2, 3, 5, 8, 9] rfl ?_
  refine p_seq0 ?_
  refine p_block 0 (by kernel_rfl) ?_
  refine p_seq0 ?_
  refine p_plain0 (0 :: 1 :: 2 :: []) ?_
  refine go_q0 17 (.move (.tmp 0)) 101 (qv_move rfl) ?_
  refine go_q0 18 (.binOp .eql 101 (.tmp 17) (.const (.pointer none)) 101) 4 (qv_eqlP un101 rfl) ?_
  refine go_q0 16 (.assign (.tmp 18)) 4 (qv_assign rfl) ?_
  refine go_nil ?_
  change G _ _ _ _
  refine p_weaken [0, 2, 3, 5, 8, 9, 16] rfl ?_
  refine p_condF (.tmp 16) (by kernel_rfl) rfl ?_
  refine p_seq0 ?_
  refine p_plain0 (0 :: 1 :: 2 :: 3 :: 4 :: []) ?_
  refine go_q0 20 (.fieldAddr 39 (.tmp 5) 0) 0 (qv_field rfl fd39_0) ?_
  refine go_q0 21 (.load 27 (.tmp 20)) 27 (qv_load rfl .auto (ldv_agg agg27 (ext_Pkt_0_37 _) (Nat.le_of_ble_eq_true rfl))) ?_
  refine go_s0 (some 22) (.call { callee := .value (.func 43), args := #[.tmp 21], argTypes := #[27] }) 4 ?_
  refine os_callP rfl en43 rfl (hR) ?_
  refine go_q0 23 (.unOp .not 4 (.tmp 22)) 4 (qv_not rfl) ?_
  refine go_q0 19 (.assign (.tmp 23)) 4 (qv_assign rfl) ?_
  refine go_nil ?_
  change G _ _ _ _
  refine p_weaken [0, 2, 3, 5, 8, 9, 19] rfl ?_
  refine p_condT (.tmp 19) (by kernel_rfl) rfl ?_
  refine p_seq0 ?_
  refine p_plain0 (0 :: 1 :: []) ?_
  refine go_q0 8 (.assign (.const (.slice none 0 0))) 102 (qv_assign rfl) ?_
  refine go_q0 9 (.assign (.const (.int .i64 2))) 61 (qv_assign rfl) ?_
  refine go_nil ?_
  change G _ _ _ _
  refine p_weaken [0, 2, 3, 5, 8, 9] rfl ?_
  refine p_ret0 ?_
  try dsimp only [thenQ, inBlockQ]
  try rw [if_pos rfl]
  refine ret_left (M) (.inr rfl) (.cons (res_tmp rfl) (.cons (res_tmp rfl) .nil)) .auto ?_
  exact ⟨rfl, rfl⟩
theorem CacM.le {bc : Nat} {tick : Int} {bd : Bnd} {fl : List Rec} {M : Mem} (hM : CacM bc tick bd fl M) : fl.length ≤ 4096 := by
  obtain ⟨_, _, _, _, _, _, _, hI, _⟩ := hM
  have := hI.le; have := hI.most; omega
theorem AdvAny.out_len {bc : Nat} {tick tick' : Int} {bd : Bnd} {fl fl1 out : List Rec} {M : Mem} (h : AdvAny bd tick tick' fl fl1 out) (hM : CacM bc tick bd fl M) : out.length ≤ 4096 := by
  have hle := hM.le
  rcases h with ⟨_, rfl, _⟩ | ⟨_, srt, hp, _, rfl, _⟩
  · simp
  · unfold told
    rw [List.length_map, hp.length_eq]
    exact Nat.le_trans (List.length_filter_le _ _) hle
theorem BegR.out_len {bd : Bnd} {fl fl1 out : List Rec} (h : BegR bd fl fl1 out) : out.length ≤ 1 := by
  rcases h with ⟨_, _, _, _, rfl, _⟩ | ⟨_, rfl, _⟩ <;> simp
section
variable {bd : Bnd} {tick tick' cls : Int} {p : Pkt} {fl fl1 fl2 fl' out1 o12 : List Rec} {i : Nat} {r : Rec}
theorem acc_len (h : ∃ out2, o12 = out1 ++ out2 ∧ ((p.key ∈ keysOf fl1 ∧ fl2 = fl1 ∧ out2 = []) ∨ (p.key ∉ keysOf fl1 ∧ ∃ flb, BegR bd fl1 flb out2 ∧ fl2 = flb ++ [startR p.key cls (tickTo tick tick')]))) (hl : out1.length ≤ 4096) : o12.length ≤ 4097 := by
  obtain ⟨out2, rfl, h | ⟨_, _, h, _⟩⟩ := h
  · rw [h.2.2]; simp; omega
  · have := h.out_len; simp; omega
theorem acc_find (h : ∃ out2, o12 = out1 ++ out2 ∧ ((p.key ∈ keysOf fl1 ∧ fl2 = fl1 ∧ out2 = []) ∨ (p.key ∉ keysOf fl1 ∧ ∃ flb, BegR bd fl1 flb out2 ∧ fl2 = flb ++ [startR p.key cls (tickTo tick tick')]))) : ∃ (i : Nat) (r : Rec), fl2[i]? = some r ∧ r.key = p.key := by
  obtain ⟨out2, _, ⟨hm, rfl, _⟩ | ⟨_, flb, _, rfl⟩⟩ := h
  · obtain ⟨x, hx, he⟩ := List.mem_map.1 hm
    obtain ⟨i, hi, rfl⟩ := List.getElem_of_mem hx
    exact ⟨i, _, List.getElem?_eq_getElem hi, he⟩
  · exact ⟨flb.length, startR p.key cls (tickTo tick tick'), by rw [List.getElem?_append_right (Nat.le_refl _)]; simp, rfl⟩
theorem endZ4 (h : seenB p = false) (h2 : bd.packets ≤ r.packets ∨ bd.bytes ≤ r.bytes) : endZ bd p r = 4 := by unfold endZ; rw [if_neg (by rw [h]; decide), if_pos h2]
theorem endZ0 (h : seenB p = false) (h2 : ¬ (bd.packets ≤ r.packets ∨ bd.bytes ≤ r.bytes)) : endZ bd p r = 0 := by unfold endZ; rw [if_neg (by rw [h]; decide), if_neg h2]
theorem acc_stay (hA : AdvAny bd tick tick' fl fl1 out1) (h : ∃ out2, o12 = out1 ++ out2 ∧ ((p.key ∈ keysOf fl1 ∧ fl2 = fl1 ∧ out2 = []) ∨ (p.key ∉ keysOf fl1 ∧ ∃ flb, BegR bd fl1 flb out2 ∧ fl2 = flb ++ [startR p.key cls (tickTo tick tick')]))) (hi : fl2[i]? = some r) (hk : r.key = p.key)
    (hz : endZ bd p (r.with_ p (tickTo tick tick')) = 0) (hf : fl' = fl2.set i (r.with_ p (tickTo tick tick'))) : AccR bd tick tick' p cls fl fl' o12 := by
  obtain ⟨out2, rfl, hc⟩ := h
  exact ⟨fl1, out1, fl2, out2, i, r, hA, hc, hi, hk, .inl ⟨hz, hf, rfl⟩⟩
theorem acc_end {z : Int} (hA : AdvAny bd tick tick' fl fl1 out1) (h : ∃ out2, o12 = out1 ++ out2 ∧ ((p.key ∈ keysOf fl1 ∧ fl2 = fl1 ∧ out2 = []) ∨ (p.key ∉ keysOf fl1 ∧ ∃ flb, BegR bd fl1 flb out2 ∧ fl2 = flb ++ [startR p.key cls (tickTo tick tick')]))) (hi : fl2[i]? = some r) (hk : r.key = p.key)
    (hz : endZ bd p (r.with_ p (tickTo tick tick')) = z) (h0 : z ≠ 0) : AccR bd tick tick' p cls fl (swapOut (fl2.set i (r.with_ p (tickTo tick tick'))) i) (o12 ++ [{ r.with_ p (tickTo tick tick') with reason := z }]) := by
  obtain ⟨out2, rfl, hc⟩ := h
  subst hz
  exact ⟨fl1, out1, fl2, out2, i, r, hA, hc, hi, hk, .inr ⟨h0, rfl, rfl⟩⟩
end
theorem ct_Account {bc : Nat} {tick tick' cls : Int} {bd : Bnd} {fl : List Rec} {M : Mem} {p : Pkt} (hM : CacM bc tick bd fl M) (hp : p.Wf) (hr : p.key.right = true) (ht : InK .u64 tick) (ht' : InK .u64 tick') (hcl : InK .u8 cls) :
    Ct Try.prog 48 [.pointer (some ⟨bc, 0, none⟩), .agg p.c, .int .u8 cls, .int .u64 tick'].toArray M (fun v M' => ∃ fl' out q cq B M1, AccR bd tick tick' p cls fl fl' out ∧ v = .tuple #[.slice q out.length cq, .int .i64 0] ∧ OwnL eRec 35 q cq out B ∧ CacM bc (tickTo tick tick') bd fl' M1 ∧ M' = B ++ M1) := by
  have hR := hr ▸ pu_KeyRight p.key
  have hT := tickTo_in ht ht'
  refine ct_body (rv := [.tmp 8, .tmp 9]) [(0, _), (1, _), (2, _), (3, _)] Try.func48 (by kernel_rfl) Try.ntmps48 Try.results48 rfl rfl (fun w0 => ?_)
  refine p_seq0 ?_
  refine p_plain0 (0 :: 1 :: 2 :: []) ?_
  refine go_s0 (some 5) (.box 39 (.tmp 1)) 0 ?_
  refine os_boxA rfl rfl (fun b5 => ?_)
  refine go_q0 8 (.assign (.const (.slice none 0 0))) 102 (qv_assign rfl) ?_
  refine go_q0 9 (.assign (.const (.int .i64 0))) 61 (qv_assign rfl) ?_
  refine go_nil ?_
  change G _ _ _ _
  refine p_weaken [0, 2, 3, 5, 8, 9] rfl ?_
  refine p_seq0 ?_
  refine p_block 0 (by kernel_rfl) ?_
  refine p_seq0 ?_
  refine p_plain0 (0 :: 1 :: 2 :: []) ?_
  refine go_q0 17 (.move (.tmp 0)) 101 (qv_move rfl) ?_
  refine go_q0 18 (.binOp .eql 101 (.tmp 17) (.const (.pointer none)) 101) 4 (qv_eqlP un101 rfl) ?_
  refine go_q0 16 (.assign (.tmp 18)) 4 (qv_assign rfl) ?_
  refine go_nil ?_
  change G _ _ _ _
  refine p_weaken [0, 2, 3, 5, 8, 9, 16] rfl ?_
  refine p_condF (.tmp 16) (by kernel_rfl) rfl ?_
  refine p_seq0 ?_
  refine p_plain0 (0 :: 1 :: 2 :: 3 :: 4 :: []) ?_
  refine go_q0 20 (.fieldAddr 39 (.tmp 5) 0) 0 (qv_field rfl fd39_0) ?_
  refine go_q0 21 (.load 27 (.tmp 20)) 27 (qv_load rfl .auto (ldv_agg agg27 (ext_Pkt_0_37 _) (Nat.le_of_ble_eq_true rfl))) ?_
  refine go_s0 (some 22) (.call { callee := .value (.func 43), args := #[.tmp 21], argTypes := #[27] }) 4 ?_
  refine os_callP rfl en43 rfl (hR) ?_
  refine go_q0 23 (.unOp .not 4 (.tmp 22)) 4 (qv_not rfl) ?_
  refine go_q0 19 (.assign (.tmp 23)) 4 (qv_assign rfl) ?_
  refine go_nil ?_
  change G _ _ _ _
  refine p_weaken [0, 2, 3, 5, 8, 9, 19] rfl ?_
  refine p_condF (.tmp 19) (by kernel_rfl) rfl ?_
  refine p_skip0 ?_
  change G _ _ _ _
  refine p_weaken [0, 2, 3, 5, 8, 9] rfl ?_
  refine p_seq0 ?_
  refine p_plain0 (0 :: 1 :: 2 :: 3 :: []) ?_
  refine go_q0 24 (.move (.tmp 0)) 101 (qv_move rfl) ?_
  refine go_q0 25 (.move (.tmp 3)) 30 (qv_move rfl) ?_
  refine go_s0 (some 26) (.call { callee := .value (.func 51), args := #[.tmp 24, .tmp 25], argTypes := #[101, 30] }) 102 ?_
  refine os_call (Nat.le_of_ble_eq_true rfl) en51 rfl .auto (ct_AdvanceAny tick' hM) ?_
  rintro v26 A26 ⟨fl1, out1, q1, c1, B1, M1, hA, rfl, hO1, hM1, rfl⟩
  try dsimp only [List.nil_append, List.cons_append]
  refine go_q0 10 (.assign (.tmp 26)) 102 (qv_assign rfl) ?_
  refine go_nil ?_
  change G _ _ _ _
  refine p_weaken [0, 2, 5, 8, 9, 10] rfl ?_
  refine p_seqK [0, 5, 8, 9] rfl (fun frk Mk s => ∃ (fl2 : List Rec) (o12 : List Rec) (q : Option Addr) (cq : Nat) (B : Mem) (M2 : Mem), (∃ out2, o12 = out1 ++ out2 ∧ ((p.key ∈ keysOf fl1 ∧ fl2 = fl1 ∧ out2 = []) ∨ (p.key ∉ keysOf fl1 ∧ ∃ flb, BegR bd fl1 flb out2 ∧ fl2 = flb ++ [startR p.key cls (tickTo tick tick')]))) ∧ (OwnL eRec 35 q cq o12 B) ∧ (CacM bc (tickTo tick tick') bd fl2 M2) ∧ Ge s ⟨[], (10, .slice q o12.length cq) :: frk, B ++ ((b5, .cells p.c 39 (0, 0)) :: M2)⟩) (by kernel_rfl) ?_ ?_
  · refine p_seq0 ?_
    have hM1c := hM1
    obtain ⟨bt, bs, n, L, pf, cf, Af, hI, hO, rfl⟩ := hM1
    have hn := hI.pow
    have hn1 := hn.pos
    have hn2 := hn.le
    have hle := hI.le
    have hmost := hI.most
    obtain ⟨gv, hgv, _⟩ := hI.kp.getAny hn p.key
    have hG1 := ct_Get (bt := bt) (bs := bs) (many := fl1.length) (L := L) (k := p.key) hp.key_ (by have := hI.kp.L_len; omega) (by have := hI.kp.L_len; omega)
    rw [hI.kp.L_len, hgv] at hG1
    have hol1 := hA.out_len hM
    refine p_drop (B1 ++ ((b5, .cells p.c 39 (0, 0)) :: cacO bc (tickTo tick tick') bd bt pf fl1.length cf :: tabO bt bs n fl1.length :: slotO bs L :: Af)) .auto ?_
    refine p_draw (by kernel_rfl) mixed 11 12 _ (fun _ h => h) (by kernel_rfl) ?_
    refine gd_all (0 :: 1 :: 2 :: 3 :: 4 :: 5 :: 6 :: 7 :: 8 :: 9 :: 10 :: []) _ rfl (by kernel_rfl) (by decide) (fun _ h => h) rfl ?_
    refine sq_q0 28 (.move (.tmp 0)) 101 (qv_move rfl) ?_
    refine sq_q0 29 (.nilCheck (.tmp 28)) 0 (qv_nilCheck rfl) ?_
    refine sq_q0 30 (.fieldAddr 178 (.tmp 29) 2) 0 (qv_field rfl fd178_2) ?_
    refine sq_q0 31 (.load 83 (.tmp 30)) 83 (qv_load rfl .auto (ldv_sca sc83 (get_Cac_6 _))) ?_
    refine sq_q0 32 (.fieldAddr 39 (.tmp 5) 0) 0 (qv_field rfl fd39_0) ?_
    refine sq_q0 33 (.load 27 (.tmp 32)) 27 (qv_load rfl .auto (ldv_agg agg27 (ext_Pkt_0_37 _) (Nat.le_of_ble_eq_true rfl))) ?_
    refine sq_p (d := 34) (op := .call { callee := .value (.func 46), args := #[.tmp 31, .tmp 33], argTypes := #[83, 27] }) (ty := 95) (g := none) (by kernel_rfl) trivial (pv_callR en46 rfl .auto (hG1)) ?_
    refine sq_q0 27 (.move (.tmp 34)) 95 (qv_move rfl) ?_
    refine sq_q0 35 (.extract (.tmp 27) 0) 30 (qv_extract rfl rfl) ?_
    refine sq_q0 36 (.extract (.tmp 27) 1) 4 (qv_extract rfl rfl) ?_
    refine sq_q0 11 (.assign (.tmp 35)) 30 (qv_assign rfl) ?_
    refine SeqK.nil (fun β => ?_)
    refine gd_tail [11] rfl (by kernel_rfl) (by kernel_rfl) ?_
    refine go_q0 12 (.assign (.tmp 36)) 4 (qv_assign rfl) ?_
    refine go_nil ?_
    change G _ _ _ _
    refine p_weaken [0, 2, 5, 8, 9, 10, 12] rfl ?_
    refine p_seq0 ?_
    refine p_plain0 (0 :: 1 :: []) ?_
    refine go_q0 37 (.move (.tmp 12)) 4 (qv_move rfl) ?_
    refine go_q0 38 (.unOp .not 4 (.tmp 37)) 4 (qv_not rfl) ?_
    refine go_nil ?_
    change G _ _ _ _
    refine p_weaken [0, 2, 5, 8, 9, 10, 38] rfl ?_
    refine p_cond (.tmp 38) (by kernel_rfl) rfl (fun h38 => ?_) (fun h38 => ?_)
    rotate_left
    · replace h38 := kn h38
      have hCn : ∃ out2, out1 = out1 ++ out2 ∧ ((p.key ∈ keysOf fl1 ∧ fl1 = fl1 ∧ out2 = []) ∨ (p.key ∉ keysOf fl1 ∧ ∃ flb, BegR bd fl1 flb out2 ∧ fl1 = flb ++ [startR p.key cls (tickTo tick tick')])) := ⟨[], by simp, .inl ⟨h38, rfl, rfl⟩⟩
      have hOn := hO1
      have hMn := hM1c
      refine p_skip0 ?_
      exact ⟨_, _, _, _, _, _, hCn, hOn, hMn, ⟨rfl, ⟨[10, 0, 5, 8, 9], rfl⟩, .auto⟩⟩
    replace h38 := kn h38
    have hBeg := ct_begin hM1c hp.key_ hr h38 hT hcl
    refine p_plain0 (0 :: 1 :: 2 :: 3 :: 4 :: 5 :: 6 :: 7 :: []) ?_
    refine go_q0 39 (.move (.tmp 10)) 102 (qv_move rfl) ?_
    refine go_q0 40 (.move (.tmp 0)) 101 (qv_move rfl) ?_
    refine go_q0 41 (.fieldAddr 39 (.tmp 5) 0) 0 (qv_field rfl fd39_0) ?_
    refine go_q0 42 (.load 27 (.tmp 41)) 27 (qv_load rfl .auto (ldv_agg agg27 (ext_Pkt_0_37 _) (Nat.le_of_ble_eq_true rfl))) ?_
    refine go_q0 43 (.move (.tmp 2)) 5 (qv_move rfl) ?_
    refine go_s0 (some 44) (.call { callee := .value (.func 98), args := #[.tmp 40, .tmp 42, .tmp 43], argTypes := #[101, 27, 5] }) 102 ?_
    refine os_call (Nat.le_of_ble_eq_true rfl) en98 rfl (Sel.skipA (Sel.skip Sel.all)) (hBeg) ?_
    rintro v44 A44 ⟨flb, out2, q2, c2, B2, M2, hBg, rfl, hO2, hM2, rfl⟩
    try dsimp only [List.nil_append, List.cons_append]
    have hol2 := hBg.out_len
    refine go_s0 (some 45) (.call { callee := .builtin .append, args := #[.tmp 39, .tmp 44], argTypes := #[102, 102] }) 102 ?_
    refine os_appendO (E := eRec) (l := out1) (l2 := out2) rfl el102 rfl rfl rfl rfl hO1 (Sel.skipA Sel.app) hO2 (fun q hq => List.mem_append_left _ (List.mem_append_left _ hq)) one_Rec (by simp [maxLen] <;> omega) (by omega) (fun p45 c45 A45 h45 => ?_)
    have hOn := h45
    have hMn := hM2
    have hCn : ∃ o2, out1 ++ out2 = out1 ++ o2 ∧ ((p.key ∈ keysOf fl1 ∧ flb ++ [startR p.key cls (tickTo tick tick')] = fl1 ∧ o2 = []) ∨ (p.key ∉ keysOf fl1 ∧ ∃ flb', BegR bd fl1 flb' o2 ∧ flb ++ [startR p.key cls (tickTo tick tick')] = flb' ++ [startR p.key cls (tickTo tick tick')])) := ⟨out2, rfl, .inr ⟨h38, flb, hBg, rfl⟩⟩
    refine go_q0 10 (.assign (.tmp 45)) 102 (qv_assign rfl) ?_
    refine go_nil ?_
    exact ⟨_, _, _, _, _, _, hCn, hOn, hMn, ⟨rfl, ⟨[10, 0, 5, 8, 9], rfl⟩, .auto⟩⟩
  rintro s ⟨fl2, o12, q, cq, B, M2, hC2, hOo, hM2, hs⟩
  refine ge_ok hs ?_
  refine p_seq0 ?_
  obtain ⟨bt, bs, n, L, pf, cf, Af, hI2, hO2, rfl⟩ := hM2
  have hn' := hI2.pow
  obtain ⟨i, r, hir, hrk⟩ := acc_find hC2
  have hil := (List.getElem?_eq_some_iff.1 hir).1
  have hki := keysOf_at hir
  rw [hrk] at hki
  have hrw := hI2.wf r (List.mem_of_getElem? hir)
  obtain ⟨bf, cur, rfl, rfl, hc1, hc2, hc3, H⟩ := hO2.some_ (by omega)
  have hG2 := ct_GetK (bt := bt) (many := fl2.length) (bs := bs) hn' hI2.kp hki (idx_at hil)
  have hww := with_wf (p := p) hrw hp hT
  have hol := acc_len hC2 (hA.out_len hM)
  refine p_draw (by kernel_rfl) mixed 11 12 _ (fun _ h => h) (by kernel_rfl) ?_
  refine gd_all (0 :: 1 :: 2 :: 3 :: 4 :: 5 :: 6 :: 7 :: 8 :: 9 :: 10 :: []) _ rfl (by kernel_rfl) (by decide) (fun _ h => h) rfl ?_
  refine sq_q0 47 (.move (.tmp 0)) 101 (qv_move rfl) ?_
  refine sq_q0 48 (.nilCheck (.tmp 47)) 0 (qv_nilCheck rfl) ?_
  refine sq_q0 49 (.fieldAddr 178 (.tmp 48) 2) 0 (qv_field rfl fd178_2) ?_
  refine sq_q0 50 (.load 83 (.tmp 49)) 83 (qv_load rfl .auto (ldv_sca sc83 (get_Cac_6 _))) ?_
  refine sq_q0 51 (.fieldAddr 39 (.tmp 5) 0) 0 (qv_field rfl fd39_0) ?_
  refine sq_q0 52 (.load 27 (.tmp 51)) 27 (qv_load rfl .auto (ldv_agg agg27 (ext_Pkt_0_37 _) (Nat.le_of_ble_eq_true rfl))) ?_
  refine sq_p (d := 53) (op := .call { callee := .value (.func 46), args := #[.tmp 50, .tmp 52], argTypes := #[83, 27] }) (ty := 95) (g := none) (by kernel_rfl) trivial (pv_callR en46 rfl .auto (hG2)) ?_
  refine sq_q0 46 (.move (.tmp 53)) 95 (qv_move rfl) ?_
  refine sq_q0 54 (.extract (.tmp 46) 0) 30 (qv_extract rfl rfl) ?_
  refine sq_q0 55 (.extract (.tmp 46) 1) 4 (qv_extract rfl rfl) ?_
  refine sq_q0 13 (.assign (.tmp 54)) 30 (qv_assign rfl) ?_
  refine SeqK.nil (fun β => ?_)
  refine gd_tail [11] rfl (by kernel_rfl) (by kernel_rfl) ?_
  refine go_q0 14 (.assign (.tmp 55)) 4 (qv_assign rfl) ?_
  refine go_nil ?_
  change G _ _ _ _
  refine p_weaken [0, 5, 8, 9, 10, 13] rfl ?_
  refine p_seq0 ?_
  refine p_draw (by kernel_rfl) mixed 14 15 _ (fun _ h => h) (by kernel_rfl) ?_
  refine gd_all (0 :: 1 :: 2 :: 3 :: 4 :: 5 :: 6 :: 7 :: 8 :: 9 :: 10 :: 11 :: 12 :: 13 :: []) _ rfl (by kernel_rfl) (by decide) (fun _ h => h) rfl ?_
  refine sq_q0 56 (.move (.tmp 0)) 101 (qv_move rfl) ?_
  refine sq_q0 57 (.nilCheck (.tmp 56)) 0 (qv_nilCheck rfl) ?_
  refine sq_q0 58 (.fieldAddr 178 (.tmp 57) 3) 0 (qv_field rfl fd178_3) ?_
  refine sq_q0 59 (.load 102 (.tmp 58)) 102 (qv_load rfl .auto (ldv_sca sc102 (get_Cac_7 _))) ?_
  refine sq_q0 60 (.move (.tmp 13)) 30 (qv_move rfl) ?_
  refine sq_q0 61 (.indexAddr 102 (.tmp 59) (.tmp 60)) 0 (qv_index un102 sz35 rfl rfl rfl hil) ?_
  refine sq_q0 62 (.load 35 (.tmp 61)) 35 (qv_load rfl .auto (ldv_els H hir (by decide) agg35 rfl)) ?_
  refine sq_q0 63 (.load 39 (.tmp 5)) 39 (qv_load rfl .auto (ldv_agg agg39 (extw_Pkt _) (Nat.le_of_ble_eq_true rfl))) ?_
  refine sq_q0 64 (.move (.tmp 0)) 101 (qv_move rfl) ?_
  refine sq_q0 65 (.nilCheck (.tmp 64)) 0 (qv_nilCheck rfl) ?_
  refine sq_q0 66 (.fieldAddr 178 (.tmp 65) 0) 0 (qv_field rfl fd178_0) ?_
  refine sq_q0 67 (.load 30 (.tmp 66)) 30 (qv_load rfl .auto (ldv_sca sc30 (get_Cac_0 _))) ?_
  refine sq_p (d := 68) (op := .call { callee := .value (.func 17), args := #[.tmp 62, .tmp 63, .tmp 67], argTypes := #[35, 39, 30] }) (ty := 35) (g := none) (by kernel_rfl) trivial (pv_call en17 rfl (pu_With (p := p) (tick := tickTo tick tick') hrw.packets_ hrw.bytes_ hp.length_)) ?_
  refine sq_a (d := 15) (t := 35) (ty := 0) (by kernel_rfl) ze35 rfl ?_
  refine SeqK.nil (fun β => ?_)
  generalize β 13 = b15
  refine gd_tail [14] rfl (by kernel_rfl) (by kernel_rfl) ?_
  refine go_s0 none (.store 35 (.tmp 15) (.tmp 68)) 0 ?_
  refine os_store rfl rfl sz35 rfl (one_Rec _) .auto (Nat.le_of_ble_eq_true rfl) (splw_Rec _ _ (siz_Rec _)) ?_
  refine go_nil ?_
  change G _ _ _ _
  refine p_weaken [0, 5, 8, 9, 10, 13, 15] rfl ?_
  refine p_seq0 ?_
  refine p_draw (by kernel_rfl) mixed 7 8 _ (fun _ h => h) (by kernel_rfl) ?_
  refine gd_all (0 :: 1 :: 2 :: 3 :: 4 :: 5 :: 6 :: []) _ rfl (by kernel_rfl) (by decide) (fun _ h => h) rfl ?_
  refine sq_q0 69 (.move (.tmp 0)) 101 (qv_move rfl) ?_
  refine sq_q0 70 (.nilCheck (.tmp 69)) 0 (qv_nilCheck rfl) ?_
  refine sq_q0 71 (.fieldAddr 178 (.tmp 70) 3) 0 (qv_field rfl fd178_3) ?_
  refine sq_q0 72 (.load 102 (.tmp 71)) 102 (qv_load rfl .auto (ldv_sca sc102 (get_Cac_7 _))) ?_
  refine sq_q0 73 (.move (.tmp 13)) 30 (qv_move rfl) ?_
  refine sq_q0 74 (.load 35 (.tmp 15)) 35 (qv_load rfl .auto (ldv_agg agg35 (extw_Rec _) (Nat.le_of_ble_eq_true rfl))) ?_
  refine sq_q0 75 (.indexAddr 102 (.tmp 72) (.tmp 73)) 0 (qv_index un102 sz35 rfl rfl rfl hil) ?_
  refine SeqK.nil (fun β => ?_)
  refine gd_tail [7] rfl (by kernel_rfl) (by kernel_rfl) ?_
  refine go_s0 none (.store 35 (.tmp 75) (.tmp 74)) 0 ?_
  refine os_store rfl rfl sz35 rfl (one_Rec _) .auto (own_fit hc1 hc3 hil) rfl ?_
  have hMs : CacM bc (tickTo tick tick') bd (fl2.set i (r.with_ p (tickTo tick tick'))) (cacO bc (tickTo tick tick') bd bt (some ⟨bf, 0, none⟩) fl2.length cf :: tabO bt bs n fl2.length :: slotO bs L :: [_]) := ⟨bt, bs, n, L, _, cf, _, hI2.set hir rfl hww, OwnL.put (e := 35) (b := bf) (r.with_ p (tickTo tick tick')) hc1 hc2 hc3 H hil, by rw [List.length_set]⟩
  have hir' : (fl2.set i (r.with_ p (tickTo tick tick')))[i]? = some (r.with_ p (tickTo tick tick')) := List.getElem?_set_self hil
  refine go_nil ?_
  change G _ _ _ _
  refine p_weaken [0, 5, 8, 9, 10, 15] rfl ?_
  refine p_seqJ (fun s => ∃ (fl' : List Rec) (out : List Rec) (q : Option Addr) (cq : Nat) (B : Mem) (M1 : Mem), (AccR bd tick tick' p cls fl fl' out) ∧ (OwnL eRec 35 q cq out B) ∧ (CacM bc (tickTo tick tick') bd fl' M1) ∧ Ge s ⟨[], [(10, .slice q out.length cq)], B ++ M1⟩) (by kernel_rfl) ?_ ?_
  rotate_left
  · rintro s ⟨fl', out, q, cq, B, M1, hRR, hOO, hMM, hs⟩
    refine ge_ok hs ?_
    refine p_seq0 ?_
    refine p_plain0 (0 :: 1 :: 2 :: []) ?_
    refine go_q0 112 (.move (.tmp 10)) 102 (qv_move rfl) ?_
    refine go_q0 8 (.assign (.tmp 112)) 102 (qv_assign rfl) ?_
    refine go_q0 9 (.assign (.const (.int .i64 0))) 61 (qv_assign rfl) ?_
    refine go_nil ?_
    change G _ _ _ _
    refine p_weaken [8, 9] rfl ?_
    refine p_ret0 ?_
    try dsimp only [thenQ, inBlockQ]
    try rw [if_pos rfl]
    refine ret_left (B ++ M1) (.inr rfl) (.cons (res_tmp rfl) (.cons (res_tmp rfl) .nil)) .auto ?_
    exact ⟨fl', out, q, cq, B, M1, hRR, rfl, hOO, hMM, rfl⟩
  refine p_block 1 (by kernel_rfl) ?_
  refine p_seq0 ?_
  refine p_plain0 (0 :: 1 :: 2 :: []) ?_
  refine go_q0 77 (.load 39 (.tmp 5)) 39 (qv_load rfl .auto (ldv_agg agg39 (extw_Pkt _) (Nat.le_of_ble_eq_true rfl))) ?_
  refine go_s0 (some 78) (.call { callee := .value (.func 99), args := #[.tmp 77], argTypes := #[39] }) 4 ?_
  refine os_callP rfl en99 rfl (pu_seen p) ?_
  refine go_q0 76 (.assign (.tmp 78)) 4 (qv_assign rfl) ?_
  refine go_nil ?_
  change G _ _ _ _
  refine p_weaken [0, 5, 8, 9, 10, 15, 76] rfl ?_
  refine p_cond (.tmp 76) (by kernel_rfl) rfl (fun h76 => ?_) (fun h76 => ?_)
  · replace h76 := kn h76
    have hE := ct_endK 3 hMs hir' (k := p.key) hrk.symm
    have hz : endZ bd p (r.with_ p (tickTo tick tick')) = 3 := by unfold endZ; rw [if_pos h76]
    refine p_plain0 (0 :: 1 :: 2 :: 3 :: 4 :: 5 :: 6 :: 7 :: []) ?_
    refine go_q0 79 (.move (.tmp 10)) 102 (qv_move rfl) ?_
    refine go_q0 80 (.move (.tmp 0)) 101 (qv_move rfl) ?_
    refine go_q0 81 (.fieldAddr 39 (.tmp 5) 0) 0 (qv_field rfl fd39_0) ?_
    refine go_q0 82 (.load 27 (.tmp 81)) 27 (qv_load rfl .auto (ldv_agg agg27 (ext_Pkt_0_37 _) (Nat.le_of_ble_eq_true rfl))) ?_
    refine go_s0 (some 83) (.call { callee := .value (.func 100), args := #[.tmp 80, .tmp 82, .const (.int .u8 3)], argTypes := #[101, 27, 5] }) 35 ?_
    refine os_call (Nat.le_of_ble_eq_true rfl) en100 rfl .auto (hE) ?_
    rintro v83 A83 ⟨rfl, hMn⟩
    try dsimp only [List.nil_append, List.cons_append]
    refine go_s0 (some 84) (.buildSlice 102 1 #[(0, .tmp 83)]) 102 ?_
    refine os_buildSlice (Nat.le_of_ble_eq_true rfl) rfl (bls102_1 _) (fun b84 => ?_)
    refine go_s0 (some 85) (.call { callee := .builtin .append, args := #[.tmp 79, .tmp 84], argTypes := #[102, 102] }) 102 ?_
    refine os_appendK (E := eRec) (l := o12) (l2 := [{ r.with_ p (tickTo tick tick') with reason := 3 }]) rfl el102 rfl rfl rfl rfl (hOo) .auto .auto (Go.E.holds_one _) (one_Rec) (by simp [maxLen] <;> omega) (by simp <;> omega) (fun p85 c85 A85 h85 => ?_)
    have hOn := h85
    have hRn := acc_end hA hC2 hir hrk hz (by decide)
    refine go_q0 10 (.assign (.tmp 85)) 102 (qv_assign rfl) ?_
    refine go_nil ?_
    exact ⟨_, _, _, _, _, _, hRn, hOn, hMn, ⟨rfl, ⟨[10], rfl⟩, .auto⟩⟩
  replace h76 := kn h76
  refine p_seq0 ?_
  refine p_draw (by kernel_rfl) mixed 18 19 _ (fun _ h => h) (by kernel_rfl) ?_
  refine gd_all (0 :: 1 :: 2 :: 3 :: 4 :: 5 :: 6 :: 7 :: 8 :: 9 :: 10 :: 11 :: 12 :: 13 :: 14 :: 15 :: 16 :: 17 :: []) _ rfl (by kernel_rfl) (by decide) (fun _ h => h) rfl ?_
  refine sq_q0 87 (.fieldAddr 35 (.tmp 15) 1) 0 (qv_field rfl fd35_1) ?_
  refine sq_q0 88 (.load 30 (.tmp 87)) 30 (qv_load rfl .auto (ldv_sca sc30 (get_Rec_37 _))) ?_
  refine sq_q0 89 (.move (.tmp 0)) 101 (qv_move rfl) ?_
  refine sq_q0 90 (.nilCheck (.tmp 89)) 0 (qv_nilCheck rfl) ?_
  refine sq_q0 91 (.fieldAddr 178 (.tmp 90) 1) 0 (qv_field rfl fd178_1) ?_
  refine sq_q0 92 (.fieldAddr 148 (.tmp 91) 3) 0 (qv_field rfl fd148_3) ?_
  refine sq_q0 93 (.load 30 (.tmp 92)) 30 (qv_load rfl .auto (ldv_sca sc30 (get_Cac_4 _))) ?_
  refine sq_q0 94 (.binOp .geq 30 (.tmp 88) (.tmp 93) 30) 4 (qv_geq rfl rfl rfl) ?_
  refine sq_q0 95 (.move (.tmp 94)) 4 (qv_move rfl) ?_
  refine sq_case (d := 95) rfl (fun _ => rfl) (fun g95 => ?_) (fun g95 => ?_)
  · replace g95 := kn g95
    refine sq_n (d := 96) (op := .fieldAddr 35 (.tmp 15) 2) (ty := 0) (g := some (8, false)) (by kernel_rfl) ⟨95, _, by kernel_rfl, rfl, rfl⟩ ?_
    refine sq_n (d := 97) (op := .load 30 (.tmp 96)) (ty := 30) (g := some (8, false)) (by kernel_rfl) ⟨95, _, by kernel_rfl, rfl, rfl⟩ ?_
    refine sq_n (d := 98) (op := .move (.tmp 0)) (ty := 101) (g := some (8, false)) (by kernel_rfl) ⟨95, _, by kernel_rfl, rfl, rfl⟩ ?_
    refine sq_n (d := 99) (op := .nilCheck (.tmp 98)) (ty := 0) (g := some (8, false)) (by kernel_rfl) ⟨95, _, by kernel_rfl, rfl, rfl⟩ ?_
    refine sq_n (d := 100) (op := .fieldAddr 178 (.tmp 99) 1) (ty := 0) (g := some (8, false)) (by kernel_rfl) ⟨95, _, by kernel_rfl, rfl, rfl⟩ ?_
    refine sq_n (d := 101) (op := .fieldAddr 148 (.tmp 100) 4) (ty := 0) (g := some (8, false)) (by kernel_rfl) ⟨95, _, by kernel_rfl, rfl, rfl⟩ ?_
    refine sq_n (d := 102) (op := .load 30 (.tmp 101)) (ty := 30) (g := some (8, false)) (by kernel_rfl) ⟨95, _, by kernel_rfl, rfl, rfl⟩ ?_
    refine sq_n (d := 103) (op := .binOp .geq 30 (.tmp 97) (.tmp 102) 30) (ty := 4) (g := some (8, false)) (by kernel_rfl) ⟨95, _, by kernel_rfl, rfl, rfl⟩ ?_
    refine sq_q0 104 (.pick (.tmp 95) (.const (.bool true)) (.tmp 103)) 4 (qv_pick_t rfl rfl) ?_
    refine SeqK.nil (fun β => ?_)
    refine gd_tail [18] rfl (by kernel_rfl) (by kernel_rfl) ?_
    refine go_q0 86 (.assign (.tmp 104)) 4 (qv_assign rfl) ?_
    refine go_nil ?_
    change G _ _ _ _
    refine p_weaken [0, 5, 8, 9, 10, 86] rfl ?_
    refine p_condT (.tmp 86) (by kernel_rfl) rfl ?_
    have hE := ct_endK 4 hMs hir' (k := p.key) hrk.symm
    have hz : endZ bd p (r.with_ p (tickTo tick tick')) = 4 := endZ4 h76 (by first | exact .inl g95 | exact .inr h86)
    refine p_plain0 (0 :: 1 :: 2 :: 3 :: 4 :: 5 :: 6 :: 7 :: []) ?_
    refine go_q0 105 (.move (.tmp 10)) 102 (qv_move rfl) ?_
    refine go_q0 106 (.move (.tmp 0)) 101 (qv_move rfl) ?_
    refine go_q0 107 (.fieldAddr 39 (.tmp 5) 0) 0 (qv_field rfl fd39_0) ?_
    refine go_q0 108 (.load 27 (.tmp 107)) 27 (qv_load rfl .auto (ldv_agg agg27 (ext_Pkt_0_37 _) (Nat.le_of_ble_eq_true rfl))) ?_
    refine go_s0 (some 109) (.call { callee := .value (.func 100), args := #[.tmp 106, .tmp 108, .const (.int .u8 4)], argTypes := #[101, 27, 5] }) 35 ?_
    refine os_call (Nat.le_of_ble_eq_true rfl) en100 rfl .auto (hE) ?_
    rintro v109 A109 ⟨rfl, hMn⟩
    try dsimp only [List.nil_append, List.cons_append]
    refine go_s0 (some 110) (.buildSlice 102 1 #[(0, .tmp 109)]) 102 ?_
    refine os_buildSlice (Nat.le_of_ble_eq_true rfl) rfl (bls102_1 _) (fun b110 => ?_)
    refine go_s0 (some 111) (.call { callee := .builtin .append, args := #[.tmp 105, .tmp 110], argTypes := #[102, 102] }) 102 ?_
    refine os_appendK (E := eRec) (l := o12) (l2 := [{ r.with_ p (tickTo tick tick') with reason := 4 }]) rfl el102 rfl rfl rfl rfl (hOo) .auto .auto (Go.E.holds_one _) (one_Rec) (by simp [maxLen] <;> omega) (by simp <;> omega) (fun p111 c111 A111 h111 => ?_)
    have hOn := h111
    have hRn := acc_end hA hC2 hir hrk hz (by decide)
    refine go_q0 10 (.assign (.tmp 111)) 102 (qv_assign rfl) ?_
    refine go_nil ?_
    exact ⟨_, _, _, _, _, _, hRn, hOn, hMn, ⟨rfl, ⟨[10], rfl⟩, .auto⟩⟩
  replace g95 := kn g95
  refine sq_q (d := 96) (op := .fieldAddr 35 (.tmp 15) 2) (ty := 0) (g := some (8, false)) (by kernel_rfl) ⟨95, by kernel_rfl, rfl⟩ (fun _ h => nomatch h) (qv_field rfl fd35_2) ?_
  refine sq_q (d := 97) (op := .load 30 (.tmp 96)) (ty := 30) (g := some (8, false)) (by kernel_rfl) ⟨95, by kernel_rfl, rfl⟩ (fun _ h => nomatch h) (qv_load rfl .auto (ldv_sca sc30 (get_Rec_38 _))) ?_
  refine sq_q (d := 98) (op := .move (.tmp 0)) (ty := 101) (g := some (8, false)) (by kernel_rfl) ⟨95, by kernel_rfl, rfl⟩ (fun _ h => nomatch h) (qv_move rfl) ?_
  refine sq_q (d := 99) (op := .nilCheck (.tmp 98)) (ty := 0) (g := some (8, false)) (by kernel_rfl) ⟨95, by kernel_rfl, rfl⟩ (fun _ h => nomatch h) (qv_nilCheck rfl) ?_
  refine sq_q (d := 100) (op := .fieldAddr 178 (.tmp 99) 1) (ty := 0) (g := some (8, false)) (by kernel_rfl) ⟨95, by kernel_rfl, rfl⟩ (fun _ h => nomatch h) (qv_field rfl fd178_1) ?_
  refine sq_q (d := 101) (op := .fieldAddr 148 (.tmp 100) 4) (ty := 0) (g := some (8, false)) (by kernel_rfl) ⟨95, by kernel_rfl, rfl⟩ (fun _ h => nomatch h) (qv_field rfl fd148_4) ?_
  refine sq_q (d := 102) (op := .load 30 (.tmp 101)) (ty := 30) (g := some (8, false)) (by kernel_rfl) ⟨95, by kernel_rfl, rfl⟩ (fun _ h => nomatch h) (qv_load rfl .auto (ldv_sca sc30 (get_Cac_5 _))) ?_
  refine sq_q (d := 103) (op := .binOp .geq 30 (.tmp 97) (.tmp 102) 30) (ty := 4) (g := some (8, false)) (by kernel_rfl) ⟨95, by kernel_rfl, rfl⟩ (fun _ h => nomatch h) (qv_geq rfl rfl rfl) ?_
  refine sq_q0 104 (.pick (.tmp 95) (.const (.bool true)) (.tmp 103)) 4 (qv_pick_f rfl rfl) ?_
  refine SeqK.nil (fun β => ?_)
  refine gd_tail [18] rfl (by kernel_rfl) (by kernel_rfl) ?_
  refine go_q0 86 (.assign (.tmp 104)) 4 (qv_assign rfl) ?_
  refine go_nil ?_
  change G _ _ _ _
  refine p_weaken [0, 5, 8, 9, 10, 86] rfl ?_
  refine p_cond (.tmp 86) (by kernel_rfl) rfl (fun h86 => ?_) (fun h86 => ?_)
  rotate_left
  · replace h86 := kn h86
    have hz : endZ bd p (r.with_ p (tickTo tick tick')) = 0 := endZ0 h76 (fun h => h.elim g95 h86)
    have hRn := acc_stay (fl' := fl2.set i (r.with_ p (tickTo tick tick'))) hA hC2 hir hrk hz rfl
    have hOn := hOo
    have hMn := hMs
    refine p_skip0 ?_
    exact ⟨_, _, _, _, _, _, hRn, hOn, hMn, ⟨rfl, ⟨[10], rfl⟩, .auto⟩⟩
  replace h86 := kn h86
  have hE := ct_endK 4 hMs hir' (k := p.key) hrk.symm
  have hz : endZ bd p (r.with_ p (tickTo tick tick')) = 4 := endZ4 h76 (by first | exact .inl g95 | exact .inr h86)
  refine p_plain0 (0 :: 1 :: 2 :: 3 :: 4 :: 5 :: 6 :: 7 :: []) ?_
  refine go_q0 105 (.move (.tmp 10)) 102 (qv_move rfl) ?_
  refine go_q0 106 (.move (.tmp 0)) 101 (qv_move rfl) ?_
  refine go_q0 107 (.fieldAddr 39 (.tmp 5) 0) 0 (qv_field rfl fd39_0) ?_
  refine go_q0 108 (.load 27 (.tmp 107)) 27 (qv_load rfl .auto (ldv_agg agg27 (ext_Pkt_0_37 _) (Nat.le_of_ble_eq_true rfl))) ?_
  refine go_s0 (some 109) (.call { callee := .value (.func 100), args := #[.tmp 106, .tmp 108, .const (.int .u8 4)], argTypes := #[101, 27, 5] }) 35 ?_
  refine os_call (Nat.le_of_ble_eq_true rfl) en100 rfl .auto (hE) ?_
  rintro v109 A109 ⟨rfl, hMn⟩
  try dsimp only [List.nil_append, List.cons_append]
  refine go_s0 (some 110) (.buildSlice 102 1 #[(0, .tmp 109)]) 102 ?_
  refine os_buildSlice (Nat.le_of_ble_eq_true rfl) rfl (bls102_1 _) (fun b110 => ?_)
  refine go_s0 (some 111) (.call { callee := .builtin .append, args := #[.tmp 105, .tmp 110], argTypes := #[102, 102] }) 102 ?_
  refine os_appendK (E := eRec) (l := o12) (l2 := [{ r.with_ p (tickTo tick tick') with reason := 4 }]) rfl el102 rfl rfl rfl rfl (hOo) .auto .auto (Go.E.holds_one _) (one_Rec) (by simp [maxLen] <;> omega) (by simp <;> omega) (fun p111 c111 A111 h111 => ?_)
  have hOn := h111
  have hRn := acc_end hA hC2 hir hrk hz (by decide)
  refine go_q0 10 (.assign (.tmp 111)) 102 (qv_assign rfl) ?_
  refine go_nil ?_
  exact ⟨_, _, _, _, _, _, hRn, hOn, hMn, ⟨rfl, ⟨[10], rfl⟩, .auto⟩⟩
end Go.Proofs.Ytobmcpoejhhemaa
