import Derived.Test.YtobmcpoejhhemaaQCacL
namespace Go.Proofs.Ytobmcpoejhhemaa
open Go.E

theorem ct_Collect {bv c : Nat} {p : Option Addr} {l : List Rec} {Ml : Mem} (hl : Lst eRec p l Ml) (hm : l.length ≤ 10000) :
    Ct Try.prog 154 [.func (.func 155) #[] #[.pointer (some ⟨bv, 0, none⟩)]].toArray (boxR bv p l.length c :: Ml) (fun v M' => ∃ q cq A, v = .slice q l.length cq ∧ OwnL eRec 35 q cq l A ∧ M' = A ++ (boxR bv p l.length c :: Ml)) := by
  refine ct_body (rv := [.tmp 2]) [(0, _)] Try.func154 (by kernel_rfl) Try.ntmps154 Try.results154 rfl rfl (fun w0 => ?_)
  refine p_seq0 ?_
  refine p_plain0 (0 :: []) ?_
  refine go_q0 2 (.assign (.const (.slice none 0 0))) 102 (qv_assign rfl) ?_
  refine go_nil ?_
  change G _ _ _ _
  refine p_seq0 ?_
  refine p_plain0 (0 :: 1 :: 2 :: []) ?_
  refine go_q0 3 (.move (.tmp 0)) 191 (qv_move rfl) ?_
  refine go_s0 (some 4) (.call { callee := .value (.func 186), args := #[.const (.slice none 0 0), .tmp 3], argTypes := #[102, 191] }) 102 ?_
  refine os_call (Nat.le_of_ble_eq_true rfl) en186 rfl .auto (ct_AppendSeq hl hm (bv := bv) (c := c)) ?_
  rintro v4 A4 ⟨q, cq, A, rfl, hO, rfl⟩
  try dsimp only [List.nil_append, List.cons_append]
  refine go_q0 2 (.assign (.tmp 4)) 102 (qv_assign rfl) ?_
  refine go_nil ?_
  change G _ _ _ _
  refine p_weaken [2] rfl ?_
  refine p_ret0 ?_
  try dsimp only [thenQ, inBlockQ]
  try rw [if_pos rfl]
  refine ret_left (A ++ (boxR bv p l.length c :: Ml)) (.inr rfl) (.cons (res_tmp rfl) .nil) .auto ?_
  exact ⟨q, cq, A, rfl, hO, rfl⟩
def cmpKey (a b : Rec) : Int := cmpK a.key b.key
theorem swo_key : Go.Sort.SWO (fun x y : {r : Rec // r.Wf} => decide (cmpKey x.1 y.1 < 0)) := swo_cb (fun r : {r : Rec // r.Wf} => kb r.1.key)
theorem ct_SortedRec {bv c : Nat} {p : Option Addr} {l : List Rec} {Ml : Mem} (hl : Lst eRec p l Ml) (hm : l.length ≤ 10000) (hw : ∀ r ∈ l, r.Wf) :
    Ct Try.prog 111 [.func (.func 155) #[] #[.pointer (some ⟨bv, 0, none⟩)], .func (.func 106) #[] #[]].toArray (boxR bv p l.length c :: Ml) (fun v M' => ∃ q cq l' A, l'.Perm l ∧ l'.Pairwise (fun x y => ¬ ltK y.key x.key) ∧ v = .slice q l'.length cq ∧ OwnL eRec 35 q cq l' A ∧ M' = A ++ (boxR bv p l.length c :: Ml)) := by
  refine ct_body (rv := [.tmp 4]) [(0, _), (1, _)] Try.func111 (by kernel_rfl) Try.ntmps111 Try.results111 rfl rfl (fun w0 => ?_)
  refine p_seq0 ?_
  refine p_plain0 (0 :: []) ?_
  refine go_q0 4 (.assign (.const (.slice none 0 0))) 102 (qv_assign rfl) ?_
  refine go_nil ?_
  change G _ _ _ _
  refine p_seq0 ?_
  refine p_plain0 (0 :: 1 :: 2 :: []) ?_
  refine go_q0 6 (.move (.tmp 0)) 191 (qv_move rfl) ?_
  refine go_s0 (some 7) (.call { callee := .value (.func 154), args := #[.tmp 6], argTypes := #[191] }) 102 ?_
  refine os_call (Nat.le_of_ble_eq_true rfl) en154 rfl .auto (ct_Collect hl hm (bv := bv) (c := c)) ?_
  rintro v7 A7 ⟨q, cq, A, rfl, hO, rfl⟩
  try dsimp only [List.nil_append, List.cons_append]
  refine go_q0 5 (.assign (.tmp 7)) 102 (qv_assign rfl) ?_
  refine go_nil ?_
  change G _ _ _ _
  refine p_weaken [1, 4, 5] rfl ?_
  refine p_seq0 ?_
  refine p_plain0 (0 :: 1 :: 2 :: []) ?_
  refine go_q0 8 (.move (.tmp 5)) 102 (qv_move rfl) ?_
  refine go_q0 9 (.move (.tmp 1)) 186 (qv_move rfl) ?_
  refine go_s0 (some 10) (.call { callee := .value (.func 102), args := #[.tmp 8, .tmp 9], argTypes := #[102, 186] }) 0 ?_
  refine os_call (Nat.le_of_ble_eq_true rfl) en102 rfl (Sel.append (A := A) (A' := []) (by rw [List.append_assoc]; exact Sel.app) .nil) (ct_SortRecO cmpKey swo_key (cb := []) (A := []) (A0 := A) en106 (fun x y hx hy => pu_byKey hx hy) hO hw (by omega)) ?_
  rintro v10 A10 ⟨rfl, l', A1, hp, hs', hO1, rfl⟩
  try dsimp only [List.nil_append, List.cons_append]
  refine go_nil ?_
  change G _ _ _ _
  refine p_weaken [4, 5] rfl ?_
  refine p_seq0 ?_
  refine p_plain0 (0 :: 1 :: []) ?_
  refine go_q0 11 (.move (.tmp 5)) 102 (qv_move rfl) ?_
  refine go_q0 4 (.assign (.tmp 11)) 102 (qv_assign rfl) ?_
  refine go_nil ?_
  change G _ _ _ _
  refine p_weaken [4] rfl ?_
  refine p_ret0 ?_
  try dsimp only [thenQ, inBlockQ]
  try rw [if_pos rfl]
  refine ret_left (A1 ++ (boxR bv p l.length c :: Ml)) (.inr rfl) (.cons (res_tmp rfl) .nil) .auto ?_
  exact ⟨q, cq, l', A1, hp, hs', by rw [hp.length_eq]; rfl, hO1, rfl⟩
/-- All flows, in the order of their keys. -/
def AllR (fl out : List Rec) : Prop := out.Perm fl ∧ out.Pairwise fun x y => ¬ ltK y.key x.key
theorem ct_Values (p : Option Addr) (n c : Nat) : Ct Try.prog 112 [.slice p n c].toArray [] (fun v A => ∃ bv, v = .func (.func 155) #[] #[.pointer (some ⟨bv, 0, none⟩)] ∧ A = [boxR bv p n c]) := by
  refine ct_body (rv := [.tmp 2]) [(0, _)] Try.func112 (by kernel_rfl) Try.ntmps112 Try.results112 rfl rfl (fun w0 => ?_)
  refine p_seq0 ?_
  refine p_plain0 (0 :: 1 :: []) ?_
  refine go_s0 (some 1) (.box 102 (.tmp 0)) 0 ?_
  refine os_box1 rfl rfl rfl (fun b1 => ?_)
  refine go_q0 2 (.assign (.const .nilFunc)) 191 (qv_assign rfl) ?_
  refine go_nil ?_
  change G _ _ _ _
  refine p_weaken [1, 2] rfl ?_
  refine p_seq0 ?_
  refine p_plain0 (0 :: 1 :: []) ?_
  refine go_q0 3 (.makeFunc (.func 155) #[] #[.tmp 1]) 190 (qv_makeFunc rfl) ?_
  refine go_q0 2 (.assign (.tmp 3)) 191 (qv_assign rfl) ?_
  refine go_nil ?_
  change G _ _ _ _
  refine p_weaken [2] rfl ?_
  refine p_ret0 ?_
  try dsimp only [thenQ, inBlockQ]
  try rw [if_pos rfl]
  refine ret_left ([boxR b1 p n c]) (.inr rfl) (.cons (res_tmp rfl) .nil) .auto ?_
  exact ⟨b1, rfl, rfl⟩
theorem ct_All {bc : Nat} {tick : Int} {bd : Bnd} {fl : List Rec} {M : Mem} (hM : CacM bc tick bd fl M) :
    Ct Try.prog 53 [.pointer (some ⟨bc, 0, none⟩)].toArray M (fun v M' => ∃ out q cq B, AllR fl out ∧ v = .slice q out.length cq ∧ OwnL eRec 35 q cq out B ∧ M' = B ++ M) := by
  have hle := hM.le
  obtain ⟨bt, bs, n, L, pf, cf, Af, hI, hO, rfl⟩ := hM
  refine ct_body (rv := [.tmp 2]) [(0, _)] Try.func53 (by kernel_rfl) Try.ntmps53 Try.results53 rfl rfl (fun w0 => ?_)
  refine p_seq0 ?_
  refine p_plain0 (0 :: []) ?_
  refine go_q0 2 (.assign (.const (.slice none 0 0))) 102 (qv_assign rfl) ?_
  refine go_nil ?_
  change G _ _ _ _
  refine p_seq0 ?_
  refine p_seq0 ?_
  refine p_plain0 (0 :: 1 :: []) ?_
  refine go_q0 3 (.move (.tmp 0)) 101 (qv_move rfl) ?_
  refine go_q0 4 (.binOp .eql 101 (.tmp 3) (.const (.pointer none)) 101) 4 (qv_eqlP un101 rfl) ?_
  refine go_nil ?_
  change G _ _ _ _
  refine p_weaken [0, 2, 4] rfl ?_
  refine p_condF (.tmp 4) (by kernel_rfl) rfl ?_
  refine p_skip0 ?_
  change G _ _ _ _
  refine p_weaken [0, 2] rfl ?_
  refine p_seq0 ?_
  refine p_plain0 (0 :: 1 :: 2 :: 3 :: 4 :: 5 :: 6 :: []) ?_
  refine go_q0 5 (.move (.tmp 0)) 101 (qv_move rfl) ?_
  refine go_q0 6 (.nilCheck (.tmp 5)) 0 (qv_nilCheck rfl) ?_
  refine go_q0 7 (.fieldAddr 178 (.tmp 6) 3) 0 (qv_field rfl fd178_3) ?_
  refine go_q0 8 (.load 102 (.tmp 7)) 102 (qv_load rfl .auto (ldv_sca sc102 (get_Cac_7 _))) ?_
  refine go_s0 (some 9) (.call { callee := .value (.func 112), args := #[.tmp 8], argTypes := #[102] }) 191 ?_
  refine os_call (Nat.le_of_ble_eq_true rfl) en112 rfl .auto (ct_Values pf fl.length cf) ?_
  rintro v9 A9 ⟨bv, rfl, rfl⟩
  try dsimp only [List.nil_append, List.cons_append]
  refine go_s0 (some 10) (.call { callee := .value (.func 111), args := #[.tmp 9, .func 106], argTypes := #[191, 186] }) 102 ?_
  refine os_call (Nat.le_of_ble_eq_true rfl) en111 rfl (by exact Sel.all) (ct_SortedRec (bv := bv) (c := cf) (Lst.tail (Lst.tail (Lst.tail hO.lst))) (by omega) hI.wf) ?_
  rintro v10 A10 ⟨q, cq, l', A, hp, hs', rfl, hO1, rfl⟩
  try dsimp only [List.nil_append, List.cons_append]
  refine go_q0 2 (.assign (.tmp 10)) 102 (qv_assign rfl) ?_
  refine go_nil ?_
  change G _ _ _ _
  refine p_weaken [2] rfl ?_
  refine p_ret0 ?_
  try dsimp only [thenQ, inBlockQ]
  try rw [if_pos rfl]
  refine ret_left (A ++ (cacO bc tick bd bt pf fl.length cf :: tabO bt bs n fl.length :: slotO bs L :: Af)) (.inr rfl) (.cons (res_tmp rfl) .nil) .auto ?_
  exact ⟨l', q, cq, A, ⟨hp, hs'⟩, rfl, hO1, rfl⟩
theorem sel_swap {A B C : Mem} : Sel (A ++ B ++ C) (B ++ A) C := Sel.append (by rw [List.append_assoc]; exact Sel.skipA Sel.app) Sel.app
theorem flush_ends {bc : Nat} {tick : Int} {bd : Bnd} {fl srt : List Rec} {M B : Mem} {q : Option Addr} {c : Nat} (hM : CacM bc tick bd fl M) (hA : AllR fl srt) (hl : Lst eRec q srt B) :
    Ct Try.prog 107 [.pointer (some ⟨bc, 0, none⟩), .func (.func 110) #[] #[], .slice q srt.length c].toArray (M ++ B) (fun v M' => ∃ q cq B1 M1, v = .slice q (told (fun _ => 4) srt).length cq ∧ OwnL eRec 35 q cq (told (fun _ => 4) srt) B1 ∧ CacM bc tick bd [] M1 ∧ M' = B1 ++ (M1 ++ B)) := by
  have hle := hM.le
  have hM0 := hM
  obtain ⟨bt, bs, n, L, pf, cf, Af, hI, hO, rfl⟩ := hM
  have h := ct_ends (c := c) (l := srt) (Ag := []) (Al := B) (cb := []) (fun _ => 4) en110 hM0 hl (by rw [hA.1.length_eq]; exact hle) (fun r hr bt pf nf cf => Pu.any (pu_forced r)) (fun r hr => hA.1.mem_iff.1 hr) ((hA.1.pairwise_iff (fun {a b} h => Ne.symm h)).2 hI.dist)
  rw [List.nil_append] at h
  refine h.mono ?_
  rintro v M' ⟨fl', q, cq, B1, M1, hmem, hv, hB1, hM1, hM'⟩
  have hnil : fl' = [] := by
    cases fl' with
    | nil => rfl
    | cons x t =>
      exfalso
      obtain ⟨h1, h2⟩ := (hmem x).1 (by simp)
      exact h2 (List.mem_map.2 ⟨x, hA.1.mem_iff.2 h1, rfl⟩)
  subst hnil
  exact ⟨q, cq, B1, M1, hv, hB1, hM1, hM'⟩
theorem ct_Flush {bc : Nat} {tick : Int} {bd : Bnd} {fl : List Rec} {M : Mem} (hM : CacM bc tick bd fl M) :
    Ct Try.prog 52 [.pointer (some ⟨bc, 0, none⟩)].toArray M (fun v M' => ∃ srt q cq B M1, AllR fl srt ∧ v = .slice q (told (fun _ => 4) srt).length cq ∧ OwnL eRec 35 q cq (told (fun _ => 4) srt) B ∧ CacM bc tick bd [] M1 ∧ M' = B ++ M1) := by
  have hle := hM.le
  refine ct_body (rv := [.tmp 2]) [(0, _)] Try.func52 (by kernel_rfl) Try.ntmps52 Try.results52 rfl rfl (fun w0 => ?_)
  refine p_seq0 ?_
  refine p_plain0 (0 :: []) ?_
  refine go_q0 2 (.assign (.const (.slice none 0 0))) 102 (qv_assign rfl) ?_
  refine go_nil ?_
  change G _ _ _ _
  refine p_seq0 ?_
  refine p_seq0 ?_
  refine p_plain0 (0 :: 1 :: []) ?_
  refine go_q0 3 (.move (.tmp 0)) 101 (qv_move rfl) ?_
  refine go_q0 4 (.binOp .eql 101 (.tmp 3) (.const (.pointer none)) 101) 4 (qv_eqlP un101 rfl) ?_
  refine go_nil ?_
  change G _ _ _ _
  refine p_weaken [0, 2, 4] rfl ?_
  refine p_condF (.tmp 4) (by kernel_rfl) rfl ?_
  refine p_skip0 ?_
  change G _ _ _ _
  refine p_weaken [0, 2] rfl ?_
  refine p_seq0 ?_
  refine p_plain0 (0 :: 1 :: 2 :: 3 :: 4 :: []) ?_
  refine go_q0 5 (.move (.tmp 0)) 101 (qv_move rfl) ?_
  refine go_q0 6 (.move (.tmp 0)) 101 (qv_move rfl) ?_
  refine go_s0 (some 7) (.call { callee := .value (.func 53), args := #[.tmp 6], argTypes := #[101] }) 102 ?_
  refine os_call (Nat.le_of_ble_eq_true rfl) en53 rfl .auto (ct_All hM) ?_
  rintro v7 A7 ⟨srt, q, cq, B, hA, rfl, hB, rfl⟩
  try dsimp only [List.nil_append, List.cons_append]
  refine go_s0 (some 8) (.call { callee := .value (.func 107), args := #[.tmp 5, .func 110, .tmp 7], argTypes := #[101, 188, 102] }) 102 ?_
  refine os_call (Nat.le_of_ble_eq_true rfl) en107 rfl (sel_swap) (flush_ends hM hA hB.lst (c := cq)) ?_
  rintro v8 A8 ⟨q2, cq2, B2, M1, rfl, hB2, hM1, rfl⟩
  try dsimp only [List.nil_append, List.cons_append]
  refine go_q0 2 (.assign (.tmp 8)) 102 (qv_assign rfl) ?_
  refine go_nil ?_
  change G _ _ _ _
  refine p_weaken [2] rfl ?_
  refine p_ret0 ?_
  try dsimp only [thenQ, inBlockQ]
  try rw [if_pos rfl]
  refine ret_left (B2 ++ M1) (.inr rfl) (.cons (res_tmp rfl) .nil) .auto ?_
  exact ⟨srt, q2, cq2, B2, M1, hA, rfl, hB2, hM1, rfl⟩
end Go.Proofs.Ytobmcpoejhhemaa
