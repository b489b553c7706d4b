import Derived.Test.YtobmcpoejhhemaaTCacG
namespace Go.Proofs.Ytobmcpoejhhemaa
open Go.E

theorem CacI.dist {bd : Bnd} {n : Nat} {L : List Slot} {fl : List Rec} (h : CacI bd n L fl) : fl.Pairwise fun a b => a.key ≠ b.key := by
  rw [List.pairwise_iff_getElem]
  intro i j hi hj hij hk
  have := h.inj (List.getElem?_eq_getElem hi) (List.getElem?_eq_getElem hj) hk
  omega
def dueBy (bd : Bnd) (tick : Int) (fl : List Rec) : List Rec := fl.filter fun r => decide (dueR bd r ≤ tick)
theorem dueBy_succ {bd : Bnd} {tick : Int} {fl : List Rec} {i : Nat} {x : Rec} (h : fl[i]? = some x) : dueBy bd tick (fl.take (i + 1)) = dueBy bd tick (fl.take i) ++ (if dueR bd x ≤ tick then [x] else []) := by
  unfold dueBy
  rw [List.take_add_one, h, List.filter_append]
  by_cases hd : dueR bd x ≤ tick <;> simp [hd]
theorem sub_perm {α : Type} [DecidableEq α] {l : List α} : ∀ {l' : List α}, l.Nodup → (∀ x ∈ l, x ∈ l') → ∃ r, l'.Perm (l ++ r) := by
  induction l with
  | nil => exact fun {l'} _ _ => ⟨l', .refl _⟩
  | cons a t ih =>
    intro l' hn hs
    obtain ⟨hn1, hn2⟩ := List.nodup_cons.1 hn
    obtain ⟨r, hr⟩ := ih (l' := l'.erase a) hn2 fun x hx => (List.mem_erase_of_ne (show x ≠ a from fun e => hn1 (by rw [← e]; exact hx))).2 (hs x (.tail _ hx))
    exact ⟨r, (List.perm_cons_erase (hs a (.head _))).trans (hr.cons a)⟩
theorem perm_iff {α : Type} [DecidableEq α] {l l' : List α} (h1 : l.Nodup) (h2 : l'.Nodup) (h : ∀ x, x ∈ l ↔ x ∈ l') : l.Perm l' := by
  obtain ⟨r, hr⟩ := sub_perm h1 fun x hx => (h x).1 hx
  obtain ⟨r', hr'⟩ := sub_perm h2 fun x hx => (h x).2 hx
  have e1 := hr.length_eq
  have e2 := hr'.length_eq
  simp only [List.length_append] at e1 e2
  have e3 : r = [] := List.length_eq_zero_iff.1 (by omega)
  rw [e3, List.append_nil] at hr
  exact hr.symm
theorem CacI.nodup {bd : Bnd} {n : Nat} {L : List Slot} {fl : List Rec} (h : CacI bd n L fl) : fl.Nodup := h.dist.imp fun {_ _} h e => h (congrArg Rec.key e)
theorem CacM.nodup {bc : Nat} {tick : Int} {bd : Bnd} {fl : List Rec} {M : Mem} (hM : CacM bc tick bd fl M) : fl.Nodup := by
  obtain ⟨_, _, _, _, _, _, _, hI, _⟩ := hM
  exact hI.nodup
theorem CacM.dist {bc : Nat} {tick : Int} {bd : Bnd} {fl : List Rec} {M : Mem} (hM : CacM bc tick bd fl M) : fl.Pairwise fun a b => a.key ≠ b.key := by
  obtain ⟨_, _, _, _, _, _, _, hI, _⟩ := hM
  exact hI.dist
/-- What an Advance does. -/
def AdvR (bd : Bnd) (tick : Int) (fl fl' out : List Rec) : Prop := ∃ srt : List Rec, srt.Perm (dueBy bd tick fl) ∧ srt.Pairwise (fun x y => ¬ cmpDue bd y x < 0) ∧ out = told (reasonR bd) srt ∧ fl'.Perm (fl.filter fun r => !decide (dueR bd r ≤ tick))
theorem adv_mem {bd : Bnd} {n : Nat} {L : List Slot} {fl srt : List Rec} {tick : Int} (hI : CacI bd n L fl) (hp : srt.Perm (dueBy bd tick fl)) {x : Rec} : (x ∈ fl ∧ x.key ∉ keysOf srt) ↔ (x ∈ fl ∧ ¬ dueR bd x ≤ tick) := by
  constructor
  · rintro ⟨hx, hk⟩
    exact ⟨hx, fun hd => hk (List.mem_map.2 ⟨x, hp.mem_iff.2 (List.mem_filter.2 ⟨hx, decide_eq_true hd⟩), rfl⟩)⟩
  · rintro ⟨hx, hd⟩
    refine ⟨hx, fun hk => ?_⟩
    obtain ⟨y, hy, he⟩ := List.mem_map.1 hk
    obtain ⟨hy1, hy2⟩ := List.mem_filter.1 (hp.mem_iff.1 hy)
    obtain ⟨i, hi, rfl⟩ := List.getElem_of_mem hx
    obtain ⟨j, hj, rfl⟩ := List.getElem_of_mem hy1
    have := hI.inj (List.getElem?_eq_getElem hj) (List.getElem?_eq_getElem hi) he
    subst this
    exact hd (of_decide_eq_true hy2)
theorem ct_AdvanceLow {bc : Nat} {tick tick' : Int} {bd : Bnd} {fl : List Rec} {M : Mem} (hM : CacM bc tick bd fl M) (ht : tick' < tick) :
    Ct Try.prog 51 [.pointer (some ⟨bc, 0, none⟩), .int .u64 tick'].toArray M (fun v M' => v = .slice none 0 0 ∧ M' = M) := by
  obtain ⟨bt, bs, n, L, pf, cf, Af, hI, hO, rfl⟩ := hM
  refine ct_body (rv := [.tmp 4]) [(0, _), (1, _)] Try.func51 (by kernel_rfl) Try.ntmps51 Try.results51 rfl rfl (fun w0 => ?_)
  refine p_seq0 ?_
  refine p_plain0 (0 :: 1 :: []) ?_
  refine go_s0 (some 2) (.box 101 (.tmp 0)) 0 ?_
  refine os_box1 rfl rfl rfl (fun b2 => ?_)
  refine go_q0 4 (.assign (.const (.slice none 0 0))) 102 (qv_assign rfl) ?_
  refine go_nil ?_
  change G _ _ _ _
  refine p_weaken [1, 2, 4] rfl ?_
  refine p_seq0 ?_
  refine p_seq0 ?_
  refine p_plain0 (0 :: 1 :: 2 :: 3 :: 4 :: 5 :: 6 :: 7 :: 8 :: 9 :: []) ?_
  refine go_q0 8 (.load 101 (.tmp 2)) 101 (qv_load rfl .auto (ldv_sca sc101 (get_one _))) ?_
  refine go_q0 9 (.binOp .eql 101 (.tmp 8) (.const (.pointer none)) 101) 4 (qv_eqlP un101 rfl) ?_
  refine go_q0 10 (.move (.tmp 9)) 4 (qv_move rfl) ?_
  refine go_q (d := 11) (op := .move (.tmp 1)) (ty := 30) (g := some (2, false)) (by kernel_rfl) ⟨10, by kernel_rfl, rfl⟩ rfl (qv_move rfl) ?_
  refine go_q (d := 12) (op := .load 101 (.tmp 2)) (ty := 101) (g := some (2, false)) (by kernel_rfl) ⟨10, by kernel_rfl, rfl⟩ rfl (qv_load rfl .auto (ldv_sca sc101 (get_one _))) ?_
  refine go_q (d := 13) (op := .nilCheck (.tmp 12)) (ty := 0) (g := some (2, false)) (by kernel_rfl) ⟨10, by kernel_rfl, rfl⟩ rfl (qv_nilCheck rfl) ?_
  refine go_q (d := 14) (op := .fieldAddr 178 (.tmp 13) 0) (ty := 0) (g := some (2, false)) (by kernel_rfl) ⟨10, by kernel_rfl, rfl⟩ rfl (qv_field rfl fd178_0) ?_
  refine go_q (d := 15) (op := .load 30 (.tmp 14)) (ty := 30) (g := some (2, false)) (by kernel_rfl) ⟨10, by kernel_rfl, rfl⟩ rfl (qv_load rfl .auto (ldv_sca sc30 (get_Cac_0 _))) ?_
  refine go_q (d := 16) (op := .binOp .lss 30 (.tmp 11) (.tmp 15) 30) (ty := 4) (g := some (2, false)) (by kernel_rfl) ⟨10, by kernel_rfl, rfl⟩ rfl (qv_lss (b := true) rfl rfl (decide_eq_true ht)) ?_
  refine go_q0 17 (.pick (.tmp 10) (.const (.bool true)) (.tmp 16)) 4 (qv_pick_f rfl rfl) ?_
  refine go_nil ?_
  change G _ _ _ _
  refine p_weaken [1, 2, 4, 17] rfl ?_
  refine p_condT (.tmp 17) (by kernel_rfl) rfl ?_
  refine p_seq0 ?_
  refine p_plain0 (0 :: []) ?_
  refine go_q0 4 (.assign (.const (.slice none 0 0))) 102 (qv_assign rfl) ?_
  refine go_nil ?_
  change G _ _ _ _
  refine p_weaken [1, 2, 4] rfl ?_
  refine p_ret0 ?_
  try dsimp only [thenQ, inBlockQ]
  try rw [if_pos rfl]
  refine ret_left (cacO bc tick bd bt pf fl.length cf :: tabO bt bs n fl.length :: slotO bs L :: Af) (.inr rfl) (.cons (res_tmp rfl) .nil) .auto ?_
  exact ⟨rfl, rfl⟩
theorem ct_Advance {bc : Nat} {tick tick' : Int} {bd : Bnd} {fl : List Rec} {M : Mem} (hM : CacM bc tick bd fl M) (ht : tick ≤ tick') :
    Ct Try.prog 51 [.pointer (some ⟨bc, 0, none⟩), .int .u64 tick'].toArray M (fun v M' => ∃ fl' out q cq B M1, AdvR bd tick' fl fl' out ∧ v = .slice q out.length cq ∧ OwnL eRec 35 q cq out B ∧ CacM bc tick' bd fl' M1 ∧ M' = B ++ M1) := by
  obtain ⟨bt, bs, n, L, pf, cf, Af, hI, hO, rfl⟩ := hM
  have hbd := hI.bw
  have hle := hI.le
  have hmost := hI.most
  refine ct_body (rv := [.tmp 4]) [(0, _), (1, _)] Try.func51 (by kernel_rfl) Try.ntmps51 Try.results51 rfl rfl (fun w0 => ?_)
  refine p_seq0 ?_
  refine p_plain0 (0 :: 1 :: []) ?_
  refine go_s0 (some 2) (.box 101 (.tmp 0)) 0 ?_
  refine os_box1 rfl rfl rfl (fun b2 => ?_)
  refine go_q0 4 (.assign (.const (.slice none 0 0))) 102 (qv_assign rfl) ?_
  refine go_nil ?_
  change G _ _ _ _
  refine p_weaken [1, 2, 4] rfl ?_
  refine p_seq0 ?_
  refine p_seq0 ?_
  refine p_plain0 (0 :: 1 :: 2 :: 3 :: 4 :: 5 :: 6 :: 7 :: 8 :: 9 :: []) ?_
  refine go_q0 8 (.load 101 (.tmp 2)) 101 (qv_load rfl .auto (ldv_sca sc101 (get_one _))) ?_
  refine go_q0 9 (.binOp .eql 101 (.tmp 8) (.const (.pointer none)) 101) 4 (qv_eqlP un101 rfl) ?_
  refine go_q0 10 (.move (.tmp 9)) 4 (qv_move rfl) ?_
  refine go_q (d := 11) (op := .move (.tmp 1)) (ty := 30) (g := some (2, false)) (by kernel_rfl) ⟨10, by kernel_rfl, rfl⟩ rfl (qv_move rfl) ?_
  refine go_q (d := 12) (op := .load 101 (.tmp 2)) (ty := 101) (g := some (2, false)) (by kernel_rfl) ⟨10, by kernel_rfl, rfl⟩ rfl (qv_load rfl .auto (ldv_sca sc101 (get_one _))) ?_
  refine go_q (d := 13) (op := .nilCheck (.tmp 12)) (ty := 0) (g := some (2, false)) (by kernel_rfl) ⟨10, by kernel_rfl, rfl⟩ rfl (qv_nilCheck rfl) ?_
  refine go_q (d := 14) (op := .fieldAddr 178 (.tmp 13) 0) (ty := 0) (g := some (2, false)) (by kernel_rfl) ⟨10, by kernel_rfl, rfl⟩ rfl (qv_field rfl fd178_0) ?_
  refine go_q (d := 15) (op := .load 30 (.tmp 14)) (ty := 30) (g := some (2, false)) (by kernel_rfl) ⟨10, by kernel_rfl, rfl⟩ rfl (qv_load rfl .auto (ldv_sca sc30 (get_Cac_0 _))) ?_
  refine go_q (d := 16) (op := .binOp .lss 30 (.tmp 11) (.tmp 15) 30) (ty := 4) (g := some (2, false)) (by kernel_rfl) ⟨10, by kernel_rfl, rfl⟩ rfl (qv_lss (b := false) rfl rfl (decide_eq_false (show ¬ tick' < tick by omega))) ?_
  refine go_q0 17 (.pick (.tmp 10) (.const (.bool true)) (.tmp 16)) 4 (qv_pick_f rfl rfl) ?_
  refine go_nil ?_
  change G _ _ _ _
  refine p_weaken [1, 2, 4, 17] rfl ?_
  refine p_condF (.tmp 17) (by kernel_rfl) rfl ?_
  refine p_skip0 ?_
  change G _ _ _ _
  refine p_weaken [1, 2, 4] rfl ?_
  refine p_seq0 ?_
  refine p_plain0 (0 :: 1 :: 2 :: 3 :: 4 :: []) ?_
  refine go_q0 18 (.load 101 (.tmp 2)) 101 (qv_load rfl .auto (ldv_sca sc101 (get_one _))) ?_
  refine go_q0 19 (.move (.tmp 1)) 30 (qv_move rfl) ?_
  refine go_q0 20 (.nilCheck (.tmp 18)) 0 (qv_nilCheck rfl) ?_
  refine go_q0 21 (.fieldAddr 178 (.tmp 20) 0) 0 (qv_field rfl fd178_0) ?_
  refine go_s0 none (.store 30 (.tmp 21) (.tmp 19)) 0 ?_
  refine os_store1 rfl rfl sz30 rfl rfl .auto (Nat.le_of_ble_eq_true rfl) (set_Cac_0 _ _) ?_
  refine go_nil ?_
  change G _ _ _ _
  refine p_weaken [1, 2, 4] rfl ?_
  refine p_seq0 ?_
  refine p_plain0 (0 :: []) ?_
  refine go_q0 5 (.assign (.const (.slice none 0 0))) 102 (qv_assign rfl) ?_
  refine go_nil ?_
  change G _ _ _ _
  refine p_seq0 ?_
  refine p_seq0 ?_
  refine p_plain0 (0 :: 1 :: 2 :: 3 :: 4 :: 5 :: []) ?_
  refine go_q0 22 (.load 101 (.tmp 2)) 101 (qv_load rfl .auto (ldv_sca sc101 (get_one _))) ?_
  refine go_q0 23 (.nilCheck (.tmp 22)) 0 (qv_nilCheck rfl) ?_
  refine go_q0 24 (.fieldAddr 178 (.tmp 23) 3) 0 (qv_field rfl fd178_3) ?_
  refine go_q0 25 (.load 102 (.tmp 24)) 102 (qv_load rfl .auto (ldv_sca sc102 (get_Cac_7 _))) ?_
  refine go_q0 26 (.call { callee := .builtin .len, args := #[.tmp 25], argTypes := #[102] }) 3 (qv_lenS un102 rfl) ?_
  refine go_q0 27 (.move (.const (.int .i64 0))) 3 (qv_move rfl) ?_
  refine go_nil ?_
  change G _ _ _ _
  refine p_weaken [1, 2, 4, 5, 25, 26, 27] rfl ?_
  refine p_block 0 (by kernel_rfl) ?_
  refine p_loopE (by kernel_rfl) (fun s m => ∃ (i : Nat) (l : List Rec) (q : Option Addr) (cq : Nat) (B : Mem), (i ≤ fl.length) ∧ (l = dueBy bd tick' (fl.take i)) ∧ (OwnL eRec 35 q cq l B) ∧ Ge s ⟨[], [(1, .int .u64 tick'), (2, .pointer (some ⟨b2, 0, none⟩)), (5, .slice q l.length cq), (25, .slice pf fl.length cf), (26, .int .i64 fl.length), (27, .int .i64 i)], B ++ (capO b2 bc :: cacO bc tick' bd bt pf fl.length cf :: tabO bt bs n fl.length :: slotO bs L :: Af)⟩ ∧ m = fl.length + 1 - i) ?_ ?_
  · exact ⟨_, ⟨0, [], none, 0, [], by omega, rfl, OwnL.nil, ⟨rfl, ⟨[1, 2, 5, 25, 26, 27], rfl⟩, .auto⟩, rfl⟩⟩
  rintro s m ⟨i, l, q, cq, B, hi, hl, hB, hs, rfl⟩
  refine ge_ok hs ?_
  refine p_seq0 ?_
  refine p_plain0 (0 :: []) ?_
  refine go_q0 28 (.binOp .lss 3 (.tmp 27) (.tmp 26) 3) 0 (qv_lss rfl rfl rfl) ?_
  refine go_nil ?_
  change G _ _ _ _
  refine p_seq0 ?_
  refine p_cond (.tmp 28) (by kernel_rfl) rfl (fun h28 => ?_) (fun h28 => ?_)
  rotate_left
  · replace h28 := kn h28
    refine p_exit 0 (by kernel_rfl) ?_
    change G _ _ _ _
    refine p_weaken [2, 5] rfl ?_
    refine p_seq0 ?_
    have hie : i = fl.length := by omega
    subst hie
    rw [List.take_length] at hl
    have hlin : ∀ r ∈ l, r ∈ fl := fun r hr => by rw [hl] at hr; exact (List.mem_filter.1 hr).1
    have hlw : ∀ r ∈ l, r.Wf := fun r hr => hI.wf r (hlin r hr)
    have hll : l.length ≤ fl.length := by rw [hl]; exact List.length_filter_le _ _
    refine p_plain0 (0 :: 1 :: 2 :: []) ?_
    refine go_q0 41 (.move (.tmp 5)) 102 (qv_move rfl) ?_
    refine go_q0 42 (.makeFunc (.func 103) #[] #[.tmp 2]) 186 (qv_makeFunc rfl) ?_
    refine go_s0 (some 43) (.call { callee := .value (.func 102), args := #[.tmp 41, .tmp 42], argTypes := #[102, 186] }) 0 ?_
    refine os_call (Nat.le_of_ble_eq_true rfl) en102 rfl (by exact Sel.append Sel.app (Sel.cons (.next .here) (Sel.cons .here .nil))) (ct_SortRecO (cmpDue bd) (swo_due bd) (cb := [.pointer (some ⟨b2, 0, none⟩)]) (A := [cacO bc tick' bd bt pf fl.length cf, capO b2 bc]) en103 (fun x y hx hy => ct_advCmp hbd hx hy) hB hlw (by omega)) ?_
    rintro v43 A43 ⟨rfl, srt, B2, hp, hs', hO2, rfl⟩
    try dsimp only [List.nil_append, List.cons_append]
    have hsl := hp.length_eq
    rw [← hsl]
    refine go_nil ?_
    change G _ _ _ _
    refine p_weaken [2, 5] rfl ?_
    refine p_seq0 ?_
    have hsin : ∀ r ∈ srt, r ∈ fl := fun r hr => hlin r (hp.mem_iff.1 hr)
    have hsd : srt.Pairwise fun a b => a.key ≠ b.key := (hp.pairwise_iff (fun {a b} h => Ne.symm h)).2 (by rw [hl]; exact hI.dist.filter _)
    have hEn := ct_ends (c := cq) (l := srt) (Ag := [capO b2 bc]) (Al := B2) (cb := [.pointer (some ⟨b2, 0, none⟩)]) (reasonR bd) en108 ⟨bt, bs, n, L, pf, cf, Af, hI, hO, rfl⟩ hO2.lst (by omega) (fun r hr bt pf nf cf => ct_advReason hbd (hI.wf r (hsin r hr))) hsin hsd (tick := tick') (bc := bc)
    refine p_drop ((cacO bc tick' bd bt pf fl.length cf :: tabO bt bs n fl.length :: slotO bs L :: Af) ++ ([capO b2 bc] ++ B2)) .auto ?_
    refine p_plain0 (0 :: 1 :: 2 :: 3 :: 4 :: []) ?_
    refine go_q0 44 (.load 101 (.tmp 2)) 101 (qv_load rfl .auto (ldv_sca sc101 (get_one _))) ?_
    refine go_q0 45 (.makeFunc (.func 108) #[] #[.tmp 2]) 188 (qv_makeFunc rfl) ?_
    refine go_q0 46 (.move (.tmp 5)) 102 (qv_move rfl) ?_
    refine go_s0 (some 47) (.call { callee := .value (.func 107), args := #[.tmp 44, .tmp 45, .tmp 46], argTypes := #[101, 188, 102] }) 102 ?_
    refine os_call (Nat.le_of_ble_eq_true rfl) en107 rfl (by exact Sel.all) (hEn) ?_
    rintro v47 A47 ⟨fl', q3, cq3, B3, M1, hmem, rfl, hB3, hM1, rfl⟩
    try dsimp only [List.nil_append, List.cons_append]
    refine go_q0 4 (.assign (.tmp 47)) 102 (qv_assign rfl) ?_
    refine go_nil ?_
    change G _ _ _ _
    refine p_weaken [4] rfl ?_
    refine p_ret0 ?_
    try dsimp only [thenQ, inBlockQ]
    try rw [if_pos rfl]
    refine ret_left (B3 ++ M1) (.inr rfl) (.cons (res_tmp rfl) .nil) .auto ?_
    refine ⟨fl', _, q3, cq3, B3, M1, ⟨srt, hl ▸ hp, hs', rfl, perm_iff hM1.nodup (hI.nodup.filter _) fun x => ?_⟩, rfl, hB3, hM1, rfl⟩
    rw [hmem, adv_mem hI (hl ▸ hp), List.mem_filter, Bool.not_eq_true', decide_eq_false_iff_not]
  replace h28 := kn h28
  refine p_skip0 ?_
  change G _ _ _ _
  refine p_weaken [1, 2, 5, 25, 26, 27] rfl ?_
  refine p_seqJ (fun s => ∃ (l2 : List Rec) (q2 : Option Addr) (cq2 : Nat) (B2 : Mem), (l2 = dueBy bd tick' (fl.take (i + 1))) ∧ (OwnL eRec 35 q2 cq2 l2 B2) ∧ Ge s ⟨[], [(1, .int .u64 tick'), (2, .pointer (some ⟨b2, 0, none⟩)), (5, .slice q2 l2.length cq2), (25, .slice pf fl.length cf), (26, .int .i64 fl.length), (27, .int .i64 i)], B2 ++ (capO b2 bc :: cacO bc tick' bd bt pf fl.length cf :: tabO bt bs n fl.length :: slotO bs L :: Af)⟩) (by kernel_rfl) ?_ ?_
  rotate_left
  · rintro s ⟨l2, q2, cq2, B2, hl2, hB2, hs⟩
    refine ge_ok hs ?_
    refine p_plain0 (0 :: 1 :: []) ?_
    refine go_q0 40 (.binOp .add 3 (.tmp 27) (.const (.int .i64 1)) 3) 3 (qv_add rfl rfl (by first | exact IntWalk.i64_in _ (by omega) | exact IntWalk.i64_in _ (by dsimp only; omega) | rfl)) ?_
    refine go_q0 27 (.move (.tmp 40)) 3 (qv_move rfl) ?_
    refine go_nil ?_
    exact ⟨_, ⟨i + 1, l2, q2, cq2, B2, by omega, hl2, hB2, ⟨rfl, ⟨[1, 2, 5, 25, 26, 27], rfl⟩, .auto⟩, rfl⟩, by omega⟩
  refine p_block 1 (by kernel_rfl) ?_
  refine p_seq0 ?_
  obtain ⟨bb, oo, cu, ee, ff, hpe, mm, H⟩ := hO.lst.at_ (i := i) (by omega)
  obtain ⟨x, hx⟩ : ∃ x, fl[i]? = some x := ⟨_, List.getElem?_eq_getElem (by omega)⟩
  have hxw := hI.wf x (List.mem_of_getElem? hx)
  have hsu := dueBy_succ (bd := bd) (tick := tick') hx
  have hll : l.length ≤ fl.length := by rw [hl]; exact Nat.le_trans (List.length_filter_le _ _) (by simp; omega)
  have hD := ct_due (bc := bc) (bt := bt) (nf := fl.length) (cf := cf) (tick := tick') (pf := pf) hbd hxw
  subst hpe
  refine p_plain0 (0 :: 1 :: 2 :: 3 :: []) ?_
  refine go_q0 29 (.indexAddr 102 (.tmp 25) (.tmp 27)) 0 (qv_index un102 sz35 rfl rfl rfl (by omega)) ?_
  refine go_q0 30 (.load 35 (.tmp 29)) 35 (qv_load rfl (At.of_mem (by repeat first | exact mm | exact List.mem_append_left _ mm | apply List.mem_cons_of_mem | apply List.mem_append_right)) (ldv_els H hx (by decide) agg35 rfl)) ?_
  refine go_s0 (some 7) (.alloc 35) 0 ?_
  refine os_allocA rfl ze35 (fun b7 => ?_)
  refine go_s0 none (.store 35 (.tmp 7) (.tmp 30)) 0 ?_
  refine os_store rfl rfl sz35 rfl (one_Rec _) .auto (Nat.le_of_ble_eq_true rfl) (splw_Rec _ _ (siz_Rec _)) ?_
  refine go_nil ?_
  change G _ _ _ _
  refine p_weaken [1, 2, 5, 7, 25, 26, 27] rfl ?_
  refine p_seq0 ?_
  refine p_plain0 (0 :: 1 :: 2 :: 3 :: 4 :: []) ?_
  refine go_q0 31 (.load 101 (.tmp 2)) 101 (qv_load rfl .auto (ldv_sca sc101 (get_one _))) ?_
  refine go_q0 32 (.load 35 (.tmp 7)) 35 (qv_load rfl .auto (ldv_agg agg35 (extw_Rec _) (Nat.le_of_ble_eq_true rfl))) ?_
  refine go_s0 (some 33) (.call { callee := .value (.func 101), args := #[.tmp 31, .tmp 32], argTypes := #[101, 35] }) 30 ?_
  refine os_pv rfl (pv_callR en101 rfl .auto (hD)) ?_
  refine go_q0 34 (.move (.tmp 1)) 30 (qv_move rfl) ?_
  refine go_q0 35 (.binOp .leq 30 (.tmp 33) (.tmp 34) 30) 4 (qv_leq rfl rfl rfl) ?_
  refine go_nil ?_
  change G _ _ _ _
  refine p_weaken [1, 2, 5, 7, 25, 26, 27, 35] rfl ?_
  refine p_cond (.tmp 35) (by kernel_rfl) rfl (fun h35 => ?_) (fun h35 => ?_)
  rotate_left
  · replace h35 := kn h35
    rw [if_neg h35] at hsu
    have hln : l = dueBy bd tick' (fl.take (i + 1)) := by rw [hsu, hl]; simp
    have hBn := hB
    refine p_skip0 ?_
    exact ⟨_, _, _, _, hln, hBn, ⟨rfl, ⟨[1, 2, 5, 25, 26, 27], rfl⟩, .auto⟩⟩
  replace h35 := kn h35
  rw [if_pos h35] at hsu
  refine p_plain0 (0 :: 1 :: 2 :: 3 :: 4 :: []) ?_
  refine go_q0 36 (.move (.tmp 5)) 102 (qv_move rfl) ?_
  refine go_q0 37 (.load 35 (.tmp 7)) 35 (qv_load rfl .auto (ldv_agg agg35 (extw_Rec _) (Nat.le_of_ble_eq_true rfl))) ?_
  refine go_s0 (some 38) (.buildSlice 102 1 #[(0, .tmp 37)]) 102 ?_
  refine os_buildSlice (Nat.le_of_ble_eq_true rfl) rfl (bls102_1 _) (fun b38 => ?_)
  refine go_s0 (some 39) (.call { callee := .builtin .append, args := #[.tmp 36, .tmp 38], argTypes := #[102, 102] }) 102 ?_
  refine os_appendK (E := eRec) (l := l) (l2 := [x]) rfl el102 rfl rfl rfl rfl (hB) .auto .auto (Go.E.holds_one _) (one_Rec) (by simp [maxLen] <;> omega) (by simp <;> omega) (fun p39 c39 A39 h39 => ?_)
  have hBn := h39
  have hln : l ++ [x] = dueBy bd tick' (fl.take (i + 1)) := by rw [hsu, hl]
  refine go_q0 5 (.assign (.tmp 39)) 102 (qv_assign rfl) ?_
  refine go_nil ?_
  exact ⟨_, _, _, _, hln, hBn, ⟨rfl, ⟨[1, 2, 5, 25, 26, 27], rfl⟩, .auto⟩⟩
end Go.Proofs.Ytobmcpoejhhemaa
