import Derived.Test.YtobmcpoejhhemaaTCacH
namespace Go.Proofs.Ytobmcpoejhhemaa
open Go.E

/-- Who ends as a flow begins; what is left. -/
def BegR (bd : Bnd) (fl fl1 out : List Rec) : Prop :=
  ((fl.length : Int) = bd.flows ∧ ∃ u, u ∈ fl ∧ (∀ x ∈ fl, ¬ cmpLast x u < 0) ∧ out = [{ u with reason := 5 }] ∧ fl.Perm (u :: fl1)) ∨ ((fl.length : Int) < bd.flows ∧ out = [] ∧ fl1 = fl)
theorem BegR.sub {bd : Bnd} {fl fl1 out : List Rec} (h : BegR bd fl fl1 out) : ∀ x ∈ fl1, x ∈ fl := fun x hx => by
  rcases h with ⟨_, _, _, _, _, h⟩ | ⟨_, _, h⟩
  · exact h.mem_iff.2 (.tail _ hx)
  · rw [← h]; exact hx
theorem BegR.less {bd : Bnd} {fl fl1 out : List Rec} (h : BegR bd fl fl1 out) : (fl1.length : Int) < bd.flows := by
  rcases h with ⟨h1, _, _, _, _, h⟩ | ⟨h1, _, h⟩
  · have := h.length_eq
    rw [List.length_cons] at this
    omega
  · rw [h]; exact h1
theorem set_perm {α : Type} {l : List α} {i : Nat} {x : α} (h : l[i]? = some x) (y : α) : (y :: l).Perm (x :: l.set i y) := by
  obtain ⟨hi, rfl⟩ := List.getElem?_eq_some_iff.1 h
  rw [List.set_eq_take_append_cons_drop, if_pos hi]
  have e : l = l.take i ++ l[i] :: l.drop (i + 1) := by simp
  generalize l[i] = x at *
  generalize l.take i = a at *
  generalize l.drop (i + 1) = b at *
  subst e
  classical
  exact List.perm_iff_count.2 fun z => by simp only [List.count_append, List.count_cons]; omega
theorem swapOut_perm {α : Type} {l : List α} {i : Nat} {x : α} (h : l[i]? = some x) : l.Perm (x :: swapOut l i) := by
  have hi := (List.getElem?_eq_some_iff.1 h).1
  obtain ⟨t, y, rfl⟩ : ∃ t y, l = t ++ [y] := ⟨l.dropLast, l.getLast (List.ne_nil_of_length_pos (by omega)), (List.dropLast_concat_getLast _).symm⟩
  have e : swapOut (t ++ [y]) i = ((t ++ [y]).set i y).take t.length := by
    rw [swapOut_eq (x := y) (by simp)]
    simp
  rw [e]
  rcases Nat.lt_or_ge i t.length with h2 | h2
  · rw [List.set_append_left _ _ h2, List.take_append_of_le_length (by simp), List.take_of_length_le (by simp)]
    rw [List.getElem?_append_left h2] at h
    exact (List.perm_append_singleton y t).trans (set_perm h y)
  · simp only [List.length_append, List.length_singleton] at hi
    have : i = t.length := by omega
    subst this
    have : y = x := by simpa using h
    subst this
    rw [List.take_set_of_le (Nat.le_refl _), List.take_left]
    exact List.perm_append_singleton y t
theorem idx_succ (m : Nat) : idx m ++ [(m : Int)] = idx (m + 1) := by
  refine idx_ext (by simp [idx_len]) fun i hi => ?_
  by_cases h : i = m
  · subst h; rw [List.getElem?_append_right (by rw [idx_len]; exact Nat.le_refl _), idx_len]; simp
  · rw [List.getElem?_append_left (by rw [idx_len]; omega), idx_at (by omega)]
theorem z64 : InK .u64 0 := ⟨by decide, by decide⟩
theorem startR_wf {k : Key} {cls tick : Int} (hk : k.Wf) (ht : InK .u64 tick) (hc : InK .u8 cls) : (startR k cls tick).Wf := ⟨hk, z64, z64, ht, ht, z8, z8, hc⟩
theorem perm_beg {α : Type} (A B : List α) (s t l k c : α) : (A ++ s :: t :: l :: (B ++ [k, c])).Perm ((B ++ (c :: t :: l :: A)) ++ [s, k]) := by
  classical
  exact List.perm_iff_count.2 fun x => by simp only [List.count_append, List.count_cons, List.count_nil]; omega
theorem keysOf_app (fl : List Rec) (r : Rec) : keysOf (fl ++ [r]) = keysOf fl ++ [r.key] := by simp [keysOf]
theorem CacI.begin_ {bd : Bnd} {n : Nat} {L L' : List Slot} {fl : List Rec} {k : Key} {cls tick : Int} (h : CacI bd n L fl) (hK : Kp n L' (keysOf fl ++ [k]) (idx fl.length ++ [(fl.length : Int)])) (hk : k.Wf) (hr : k.right = true) (ht : InK .u64 tick) (hc : InK .u8 cls) (hl : (fl.length : Int) < bd.flows) : CacI bd n L' (fl ++ [startR k cls tick]) := by
  refine ⟨h.pow, h.big, ?_, ?_, ?_, by simp; omega, h.bw, h.most, h.least⟩
  · rw [keysOf_app, List.length_append, List.length_singleton, ← idx_succ]; exact hK
  · intro r hr'
    rcases List.mem_append.1 hr' with h1 | h1
    · exact h.wf r h1
    · rw [List.mem_singleton.1 h1]; exact startR_wf hk ht hc
  · intro r hr'
    rcases List.mem_append.1 hr' with h1 | h1
    · exact h.rt r h1
    · rw [List.mem_singleton.1 h1]; exact hr
theorem ct_begin {bc : Nat} {tick cls : Int} {bd : Bnd} {fl : List Rec} {M : Mem} {k : Key} (hM : CacM bc tick bd fl M) (hk : k.Wf) (hr : k.right = true) (hnew : k ∉ keysOf fl) (ht : InK .u64 tick) (hcl : InK .u8 cls) :
    Ct Try.prog 98 [.pointer (some ⟨bc, 0, none⟩), .agg k.c, .int .u8 cls].toArray M (fun v M' => ∃ fl1 out q cq B M1, BegR bd fl fl1 out ∧ v = .slice q out.length cq ∧ OwnL eRec 35 q cq out B ∧ CacM bc tick bd (fl1 ++ [startR k cls tick]) M1 ∧ M' = B ++ M1) := by
  have hM0 := hM
  obtain ⟨bt, bs, n, L, pf, cf, Af, hI, hO, rfl⟩ := hM
  have hle := hI.le
  have hmost := hI.most
  refine ct_body (rv := [.tmp 6]) [(0, _), (1, _), (2, _)] Try.func98 (by kernel_rfl) Try.ntmps98 Try.results98 rfl rfl (fun w0 => ?_)
  refine p_seq0 ?_
  refine p_plain0 (0 :: 1 :: []) ?_
  refine go_s0 (some 4) (.box 27 (.tmp 1)) 0 ?_
  refine os_boxA rfl rfl (fun b4 => ?_)
  refine go_q0 6 (.assign (.const (.slice none 0 0))) 102 (qv_assign rfl) ?_
  refine go_nil ?_
  change G _ _ _ _
  refine p_weaken [0, 2, 4, 6] rfl ?_
  refine p_seqK [0, 2, 4] rfl (fun frk Mk s => ∃ (fl1 : List Rec) (out : List Rec) (q : Option Addr) (cq : Nat) (B : Mem) (M1 : Mem), (BegR bd fl fl1 out) ∧ (OwnL eRec 35 q cq out B) ∧ (CacM bc tick bd fl1 M1) ∧ Ge s ⟨[], (6, .slice q out.length cq) :: frk, B ++ ((b4, .cells k.c 27 (0, 0)) :: M1)⟩) (by kernel_rfl) ?_ ?_
  · refine p_seq0 ?_
    refine p_draw (by kernel_rfl) mixed 11 11 _ (fun _ h => h) (by kernel_rfl) ?_
    refine gd_all (0 :: 1 :: 2 :: 3 :: 4 :: 5 :: 6 :: 7 :: 8 :: 9 :: 10 :: []) _ rfl (by kernel_rfl) (by decide) (fun _ h => h) rfl ?_
    refine sq_q0 8 (.move (.tmp 0)) 101 (qv_move rfl) ?_
    refine sq_q0 9 (.nilCheck (.tmp 8)) 0 (qv_nilCheck rfl) ?_
    refine sq_q0 10 (.fieldAddr 178 (.tmp 9) 3) 0 (qv_field rfl fd178_3) ?_
    refine sq_q0 11 (.load 102 (.tmp 10)) 102 (qv_load rfl .auto (ldv_sca sc102 (get_Cac_7 _))) ?_
    refine sq_q0 12 (.call { callee := .builtin .len, args := #[.tmp 11], argTypes := #[102] }) 3 (qv_lenS un102 rfl) ?_
    refine sq_q0 13 (.move (.tmp 0)) 101 (qv_move rfl) ?_
    refine sq_q0 14 (.nilCheck (.tmp 13)) 0 (qv_nilCheck rfl) ?_
    refine sq_q0 15 (.fieldAddr 178 (.tmp 14) 1) 0 (qv_field rfl fd178_1) ?_
    refine sq_q0 16 (.fieldAddr 148 (.tmp 15) 0) 0 (qv_field rfl fd148_0) ?_
    refine sq_q0 17 (.load 3 (.tmp 16)) 3 (qv_load rfl .auto (ldv_sca sc3 (get_Cac_1 _))) ?_
    refine sq_q0 18 (.binOp .eql 3 (.tmp 12) (.tmp 17) 3) 4 (qv_eql rfl rfl rfl) ?_
    refine SeqK.nil (fun β => ?_)
    refine gd_tail [] rfl (by kernel_rfl) (by kernel_rfl) ?_
    refine go_nil ?_
    change G _ _ _ _
    refine p_weaken [0, 2, 4, 6, 18] rfl ?_
    refine p_cond (.tmp 18) (by kernel_rfl) rfl (fun h18 => ?_) (fun h18 => ?_)
    rotate_left
    · replace h18 := kn h18
      have h18' : (fl.length : Int) < bd.flows := by have : ¬ (fl.length : Int) = bd.flows := h18; omega
      have hBn : BegR bd fl fl [] := .inr ⟨h18', rfl, rfl⟩
      have hOn : OwnL eRec 35 none 0 ([] : List Rec) [] := OwnL.nil
      have hMn := hM0
      refine p_skip0 ?_
      exact ⟨_, _, _, _, _, _, hBn, hOn, hMn, ⟨rfl, ⟨[6, 0, 2, 4], rfl⟩, .auto⟩⟩
    replace h18 := kn h18
    have h18' : (fl.length : Int) = bd.flows := h18
    have hf0 : 0 < fl.length := by have := hI.least; omega
    refine p_seq0 ?_
    refine p_plain0 (0 :: 1 :: 2 :: 3 :: 4 :: 5 :: 6 :: []) ?_
    refine go_q0 19 (.move (.tmp 0)) 101 (qv_move rfl) ?_
    refine go_q0 20 (.nilCheck (.tmp 19)) 0 (qv_nilCheck rfl) ?_
    refine go_q0 21 (.fieldAddr 178 (.tmp 20) 3) 0 (qv_field rfl fd178_3) ?_
    refine go_q0 22 (.load 102 (.tmp 21)) 102 (qv_load rfl .auto (ldv_sca sc102 (get_Cac_7 _))) ?_
    refine go_s0 (some 23) (.call { callee := .value (.func 149), args := #[.tmp 22, .func 150], argTypes := #[102, 186] }) 35 ?_
    refine os_call (Nat.le_of_ble_eq_true rfl) en149 rfl .auto (ct_MinFunc hf0 (by omega) (Lst.tail (Lst.tail (Lst.tail hO.lst))) hI.wf (c := cf)) ?_
    rintro v23 A23 ⟨u, rfl, hu, humin, rfl⟩
    try dsimp only [List.nil_append, List.cons_append]
    obtain ⟨j, hjl, hje⟩ := List.getElem_of_mem hu
    have hj : fl[j]? = some u := by rw [List.getElem?_eq_getElem hjl, hje]
    try dsimp only [List.cons_append, List.nil_append]
    refine go_s0 (some 7) (.alloc 35) 0 ?_
    refine os_allocA rfl ze35 (fun b7 => ?_)
    refine go_s0 none (.store 35 (.tmp 7) (.tmp 23)) 0 ?_
    refine os_store rfl rfl sz35 rfl (one_Rec _) .auto (Nat.le_of_ble_eq_true rfl) (splw_Rec _ _ (siz_Rec _)) ?_
    refine go_nil ?_
    change G _ _ _ _
    refine p_weaken [0, 2, 4, 6, 7] rfl ?_
    refine p_plain0 (0 :: 1 :: 2 :: 3 :: 4 :: 5 :: 6 :: 7 :: []) ?_
    refine go_q0 24 (.move (.tmp 6)) 102 (qv_move rfl) ?_
    refine go_q0 25 (.move (.tmp 0)) 101 (qv_move rfl) ?_
    refine go_q0 26 (.fieldAddr 35 (.tmp 7) 0) 0 (qv_field rfl fd35_0) ?_
    refine go_q0 27 (.load 27 (.tmp 26)) 27 (qv_load rfl .auto (ldv_agg agg27 (ext_Rec_0_37 _) (Nat.le_of_ble_eq_true rfl))) ?_
    refine go_s0 (some 28) (.call { callee := .value (.func 100), args := #[.tmp 25, .tmp 27, .const (.int .u8 5)], argTypes := #[101, 27, 5] }) 35 ?_
    refine os_call (Nat.le_of_ble_eq_true rfl) en100 rfl .auto (ct_end 5 hM0 hj) ?_
    rintro v28 A28 ⟨rfl, hMn⟩
    try dsimp only [List.nil_append, List.cons_append]
    refine go_s0 (some 29) (.buildSlice 102 1 #[(0, .tmp 28)]) 102 ?_
    refine os_buildSlice (Nat.le_of_ble_eq_true rfl) rfl (bls102_1 _) (fun b29 => ?_)
    refine go_s0 (some 30) (.call { callee := .builtin .append, args := #[.tmp 24, .tmp 29], argTypes := #[102, 102] }) 102 ?_
    refine os_appendK (E := eRec) (l := []) (l2 := [{ u with reason := 5 }]) rfl el102 rfl rfl rfl rfl (OwnL.nil) .auto .auto (Go.E.holds_one _) (one_Rec) (by simp [maxLen] <;> omega) (by simp <;> omega) (fun p30 c30 A30 h30 => ?_)
    have hOn := h30
    have hBn : BegR bd fl (swapOut fl j) ([] ++ [{ u with reason := 5 }]) := .inl ⟨h18', u, hu, humin, rfl, swapOut_perm hj⟩
    refine go_q0 6 (.assign (.tmp 30)) 102 (qv_assign rfl) ?_
    refine go_nil ?_
    exact ⟨_, _, _, _, _, _, hBn, hOn, hMn, ⟨rfl, ⟨[6, 0, 2, 4], rfl⟩, .auto⟩⟩
  rintro s ⟨fl1, out, q, cq, B, M1, hB, hOo, hM1, hs⟩
  refine ge_ok hs ?_
  refine p_seq0 ?_
  obtain ⟨bt, bs, n, L, pf, cf, Af, hI1, hO1, rfl⟩ := hM1
  have hn := hI1.pow
  have hn2 := hn.le
  have hn1 := hn.pos
  have hless := hB.less
  have hbig := hI1.big
  have hnew1 : k ∉ keysOf fl1 := fun h => by obtain ⟨x, hx, he⟩ := List.mem_map.1 h; exact hnew (List.mem_map.2 ⟨x, hB.sub x hx, he⟩)
  obtain ⟨L', hp, hK'⟩ := hI1.kp.putNew hn hk hnew1 (by rw [keysOf_len]; omega) hr (fl1.length : Int) fl1.length
  have hPut := ct_Put (bt := bt) (bs := bs) (many := fl1.length) (n := (fl1.length : Int)) (L := L) (k := k) hk (by have := hI1.kp.L_len; omega) (by have := hI1.kp.L_len; omega) (by omega) (by omega)
  rw [hI1.kp.L_len, hp, show (fl1.length : Int) + 1 = ((fl1 ++ [startR k cls tick]).length : Int) by simp] at hPut
  have hI2 := hI1.begin_ hK' hk hr ht hcl (by omega)
  refine p_draw (by kernel_rfl) mixed 11 12 _ (fun _ h => h) (by kernel_rfl) ?_
  refine gd_all (0 :: 1 :: 2 :: 3 :: 4 :: 5 :: 6 :: 7 :: 8 :: 9 :: 10 :: []) _ rfl (by kernel_rfl) (by decide) (fun _ h => h) rfl ?_
  refine sq_q0 31 (.move (.tmp 0)) 101 (qv_move rfl) ?_
  refine sq_q0 32 (.nilCheck (.tmp 31)) 0 (qv_nilCheck rfl) ?_
  refine sq_q0 33 (.fieldAddr 178 (.tmp 32) 2) 0 (qv_field rfl fd178_2) ?_
  refine sq_q0 34 (.load 83 (.tmp 33)) 83 (qv_load rfl .auto (ldv_sca sc83 (get_Cac_6 _))) ?_
  refine sq_q0 35 (.load 27 (.tmp 4)) 27 (qv_load rfl .auto (ldv_agg agg27 (extw_Key _) (Nat.le_of_ble_eq_true rfl))) ?_
  refine sq_q0 36 (.move (.tmp 0)) 101 (qv_move rfl) ?_
  refine sq_q0 37 (.nilCheck (.tmp 36)) 0 (qv_nilCheck rfl) ?_
  refine sq_q0 38 (.fieldAddr 178 (.tmp 37) 3) 0 (qv_field rfl fd178_3) ?_
  refine sq_q0 39 (.load 102 (.tmp 38)) 102 (qv_load rfl .auto (ldv_sca sc102 (get_Cac_7 _))) ?_
  refine sq_q0 40 (.call { callee := .builtin .len, args := #[.tmp 39], argTypes := #[102] }) 3 (qv_lenS un102 rfl) ?_
  refine sq_q0 41 (.convert 3 30 (.tmp 40)) 30 (qv_conv un3 un30 rfl (by first | exact IntWalk.u64_in _ (by omega) | rfl)) ?_
  refine SeqK.nil (fun β => ?_)
  refine gd_tail [11] rfl (by kernel_rfl) (by kernel_rfl) ?_
  refine go_s0 (some 42) (.call { callee := .value (.func 42), args := #[.tmp 34, .tmp 35, .tmp 41], argTypes := #[83, 27, 30] }) 61 ?_
  refine os_call (Nat.le_of_ble_eq_true rfl) en42 rfl .auto (hPut) ?_
  rintro v42 A42 ⟨rfl, rfl⟩
  try dsimp only [List.nil_append, List.cons_append]
  refine go_nil ?_
  change G _ _ _ _
  refine p_weaken [0, 2, 4, 6] rfl ?_
  refine p_seq0 ?_
  refine p_draw (by kernel_rfl) mixed 16 17 [(b4, .cells k.c 27 (0, 0)), cacO bc tick bd bt pf fl1.length cf] (by first | (simp; done) | (intro q hq; simp [hq]; done)) (by kernel_rfl) ?_
  refine gd_q (i := 0) (d := 43) (op := .move (.tmp 0)) (ty := 101) (g := none) (by kernel_rfl) trivial rfl (by kernel_rfl) (by kernel_rfl) (by kernel_rfl) (by kernel_rfl) (qv_move rfl) ?_
  refine gd_q (i := 1) (d := 44) (op := .move (.tmp 0)) (ty := 101) (g := none) (by kernel_rfl) trivial rfl (by kernel_rfl) (by kernel_rfl) (by kernel_rfl) (by kernel_rfl) (qv_move rfl) ?_
  refine gd_q (i := 2) (d := 45) (op := .nilCheck (.tmp 44)) (ty := 0) (g := none) (by kernel_rfl) trivial rfl (by kernel_rfl) (by kernel_rfl) (by kernel_rfl) (by kernel_rfl) (qv_nilCheck rfl) ?_
  refine gd_q (i := 3) (d := 46) (op := .fieldAddr 178 (.tmp 45) 3) (ty := 0) (g := none) (by kernel_rfl) trivial rfl (by kernel_rfl) (by kernel_rfl) (by kernel_rfl) (by kernel_rfl) (qv_field rfl fd178_3) ?_
  refine gd_q (i := 4) (d := 47) (op := .load 102 (.tmp 46)) (ty := 102) (g := none) (by kernel_rfl) trivial rfl (by kernel_rfl) (by kernel_rfl) (by kernel_rfl) (by kernel_rfl) (qv_load rfl .auto (ldv_sca sc102 (get_Cac_7 _))) ?_
  refine gd_q (i := 5) (d := 48) (op := .load 27 (.tmp 4)) (ty := 27) (g := none) (by kernel_rfl) trivial rfl (by kernel_rfl) (by kernel_rfl) (by kernel_rfl) (by kernel_rfl) (qv_load rfl .auto (ldv_agg agg27 (extw_Key _) (Nat.le_of_ble_eq_true rfl))) ?_
  refine gd_q (i := 6) (d := 49) (op := .move (.tmp 2)) (ty := 5) (g := none) (by kernel_rfl) trivial rfl (by kernel_rfl) (by kernel_rfl) (by kernel_rfl) (by kernel_rfl) (qv_move rfl) ?_
  refine gd_q (i := 7) (d := 50) (op := .move (.tmp 0)) (ty := 101) (g := none) (by kernel_rfl) trivial rfl (by kernel_rfl) (by kernel_rfl) (by kernel_rfl) (by kernel_rfl) (qv_move rfl) ?_
  refine gd_q (i := 8) (d := 51) (op := .nilCheck (.tmp 50)) (ty := 0) (g := none) (by kernel_rfl) trivial rfl (by kernel_rfl) (by kernel_rfl) (by kernel_rfl) (by kernel_rfl) (qv_nilCheck rfl) ?_
  refine gd_q (i := 9) (d := 52) (op := .fieldAddr 178 (.tmp 51) 0) (ty := 0) (g := none) (by kernel_rfl) trivial rfl (by kernel_rfl) (by kernel_rfl) (by kernel_rfl) (by kernel_rfl) (qv_field rfl fd178_0) ?_
  refine gd_q (i := 10) (d := 53) (op := .load 30 (.tmp 52)) (ty := 30) (g := none) (by kernel_rfl) trivial rfl (by kernel_rfl) (by kernel_rfl) (by kernel_rfl) (by kernel_rfl) (qv_load rfl .auto (ldv_sca sc30 (get_Cac_0 _))) ?_
  refine gd_one (i := 11) (d := some 54) (op := .call { callee := .value (.func 16), args := #[.tmp 48, .tmp 49, .tmp 53], argTypes := #[27, 5, 30] }) (ty := 35) (g := none) (by kernel_rfl) trivial rfl (by kernel_rfl) ?_
  refine os_callP rfl en16 rfl (pu_Start k cls tick) ?_
  refine ⟨fun _ h => by first | exact h | (cases h; done) | exact .tail _ h | exact .tail _ (.tail _ h) | exact List.mem_append_right _ (List.mem_append_right _ h) | exact List.mem_append_right _ h | (simp only [List.mem_cons, List.not_mem_nil, or_false] at h ⊢; first | exact .inl h | exact .inr (.inl h) | exact .inr (.inr (.inl h)) | exact .inr (.inr (.inr (.inl h))) | (subst h; simp; done) | grind), ?_⟩
  refine gd_one (i := 12) (d := some 55) (op := .buildSlice 102 1 #[(0, .tmp 54)]) (ty := 102) (g := none) (by kernel_rfl) trivial rfl (by kernel_rfl) ?_
  refine os_buildSlice (Nat.le_of_ble_eq_true rfl) rfl (bls102_1 _) (fun b55 => ?_)
  refine ⟨fun _ h => by first | exact h | (cases h; done) | exact .tail _ h | exact .tail _ (.tail _ h) | exact List.mem_append_right _ (List.mem_append_right _ h) | exact List.mem_append_right _ h | (simp only [List.mem_cons, List.not_mem_nil, or_false] at h ⊢; first | exact .inl h | exact .inr (.inl h) | exact .inr (.inr (.inl h)) | exact .inr (.inr (.inr (.inl h))) | (subst h; simp; done) | grind), ?_⟩
  refine gd_one (i := 13) (d := some 56) (op := .call { callee := .builtin .append, args := #[.tmp 47, .tmp 55], argTypes := #[102, 102] }) (ty := 102) (g := none) (by kernel_rfl) trivial rfl (by kernel_rfl) ?_
  refine os_appendK (E := eRec) (l := fl1) (l2 := [startR k cls tick]) rfl el102 rfl rfl rfl rfl (hO1) .auto .auto (Go.E.holds_one _) (one_Rec) (by simp [maxLen] <;> omega) (by simp <;> omega) (fun p56 c56 A56 h56 => ?_)
  refine ⟨fun _ h => by first | exact h | (cases h; done) | exact .tail _ h | exact .tail _ (.tail _ h) | exact List.mem_append_right _ (List.mem_append_right _ h) | exact List.mem_append_right _ h | (simp only [List.mem_cons, List.not_mem_nil, or_false] at h ⊢; first | exact .inl h | exact .inr (.inl h) | exact .inr (.inr (.inl h)) | exact .inr (.inr (.inr (.inl h))) | (subst h; simp; done) | grind), ?_⟩
  refine gd_one (i := 14) (d := some 57) (op := .nilCheck (.tmp 43)) (ty := 0) (g := none) (by kernel_rfl) trivial rfl (by kernel_rfl) ?_
  refine os_of_qv (Nat.le_of_ble_eq_true rfl) (qv_nilCheck rfl) ?_
  refine ⟨fun _ h => by first | exact h | (cases h; done) | exact .tail _ h | exact .tail _ (.tail _ h) | exact List.mem_append_right _ (List.mem_append_right _ h) | exact List.mem_append_right _ h | (simp only [List.mem_cons, List.not_mem_nil, or_false] at h ⊢; first | exact .inl h | exact .inr (.inl h) | exact .inr (.inr (.inl h)) | exact .inr (.inr (.inr (.inl h))) | (subst h; simp; done) | grind), ?_⟩
  refine gd_q (i := 15) (d := 58) (op := .fieldAddr 178 (.tmp 57) 3) (ty := 0) (g := none) (by kernel_rfl) trivial rfl (by kernel_rfl) (by kernel_rfl) (by kernel_rfl) (by kernel_rfl) (qv_field rfl fd178_3) ?_
  refine gd_tail [16] rfl (by kernel_rfl) (by kernel_rfl) ?_
  refine go_s0 none (.store 102 (.tmp 58) (.tmp 56)) 0 ?_
  refine os_store1 rfl rfl sz102 rfl rfl .auto (Nat.le_of_ble_eq_true rfl) (set_Cac_7 _ _) ?_
  refine go_nil ?_
  change G _ _ _ _
  refine p_weaken [6] rfl ?_
  refine p_seq0 ?_
  refine p_plain0 (0 :: 1 :: []) ?_
  refine go_q0 59 (.move (.tmp 6)) 102 (qv_move rfl) ?_
  refine go_q0 6 (.assign (.tmp 59)) 102 (qv_assign rfl) ?_
  refine go_nil ?_
  change G _ _ _ _
  refine p_weaken [6] rfl ?_
  refine p_ret0 ?_
  try dsimp only [thenQ, inBlockQ]
  try rw [if_pos rfl]
  refine ret_leftP (B ++ (cacO bc tick bd bt p56 (fl1 ++ [startR k cls tick]).length c56 :: tabO bt bs n (fl1 ++ [startR k cls tick]).length :: slotO bs L' :: A56)) (.inr rfl) (.cons (res_tmp rfl) .nil) (⟨[_, _], perm_beg _ _ _ _ _ _ _⟩) ?_
  exact ⟨fl1, out, q, cq, B, _, hB, rfl, hOo, ⟨bt, bs, n, L', p56, c56, A56, hI2, h56, rfl⟩, rfl⟩
end Go.Proofs.Ytobmcpoejhhemaa
