import Derived.Test.YtobmcpoejhhemaaGreatKCacW
namespace Go.Proofs.YtobmcpoejhhemaaGreat
open Go.E

theorem add_ok {S : List Sum24} {k : Key} {t : Tot} (hp : ∀ s ∈ S, 0 ≤ s.total.packets ∧ 0 ≤ s.total.bytes) (h1 : 0 ≤ t.packets) (h2 : 0 ≤ t.bytes) (h3 : sS Tot.packets S k + t.packets ≤ 1000000000) (h4 : sS Tot.bytes S k + t.bytes ≤ 1000000000) : ∀ s ∈ S, s.key = k → InK .u64 (s.total.packets + t.packets) ∧ InK .u64 (s.total.bytes + t.bytes) := fun s hs hk => by
  have e1 : s.total.packets ≤ sS Tot.packets S k := smk_le (fun x hx => (hp x hx).1) hs hk
  have e2 : s.total.bytes ≤ sS Tot.bytes S k := smk_le (fun x hx => (hp x hx).2) hs hk
  have e3 := hp s hs
  exact ⟨⟨show (0 : Int) ≤ _ by omega, show _ ≤ (18446744073709551615 : Int) by omega⟩, ⟨show (0 : Int) ≤ _ by omega, show _ ≤ (18446744073709551615 : Int) by omega⟩⟩
def Room (S : List Sum24) (l : List Rec) : Prop := ∀ k, sS Tot.packets S k + sR Tot.packets l k ≤ 1000000000 ∧ sS Tot.bytes S k + sR Tot.bytes l k ≤ 1000000000
theorem Room.at_ {S : List Sum24} {l : List Rec} (h : Room S l) (hp : ∀ s ∈ S, 0 ≤ s.total.packets ∧ 0 ≤ s.total.bytes) (hw : ∀ r ∈ l, r.Wf) {i : Nat} {x : Rec} (hx : l[i]? = some x) :
    ∀ s ∈ addRs S (l.take i), s.key = x.key → InK .u64 (s.total.packets + x.tot.packets) ∧ InK .u64 (s.total.bytes + x.tot.bytes) := by
  have hxw := hw x (List.mem_of_getElem? hx)
  have hil := (List.getElem?_eq_some_iff.1 hx).1
  have e : l = l.take i ++ x :: l.drop (i + 1) := by
    obtain ⟨_, rfl⟩ := List.getElem?_eq_some_iff.1 hx
    simp
  have h1 := h x.key
  have e1 : ∀ g, sR g l x.key = sR g (l.take i) x.key + (g x.tot + sR g (l.drop (i + 1)) x.key) := fun g => by
    conv => lhs; rw [e]
    rw [sR_app, sR_cons, if_pos rfl]
  rw [e1, e1] at h1
  have h2 := sR_pos (l := l.drop (i + 1)) (fun r hr => hw r (List.mem_of_mem_drop hr)) x.key
  refine add_ok (addRs_pos _ hp fun r hr => hw r (List.mem_of_mem_take hr)) hxw.packets_.1 hxw.bytes_.1 ?_ ?_
  · rw [addRs_sum lin_p]; omega
  · rw [addRs_sum lin_b]; omega
theorem ct_ended {p q : Option Addr} {c cq : Nat} {l : List Rec} {S : List Sum24} {Ml A : Mem} (hl : Lst eRec p l Ml) (hO : OwnL eSum24 119 q cq S A) (hlen : S.length + l.length ≤ 1000000) (hr : ∀ r ∈ l, r.right = true ∧ r.Wf) (hp : ∀ s ∈ S, 0 ≤ s.total.packets ∧ 0 ≤ s.total.bytes) (hroom : Room S l) :
    Ct Tryz.prog 23 [.slice p l.length c, .slice q S.length cq].toArray (Ml ++ A) (fun v M' => ∃ q' cq' B, v = .tuple #[.slice q' (addRs S l).length cq', .bool true] ∧ OwnL eSum24 119 q' cq' (addRs S l) B ∧ M' = Ml ++ B) := by
  refine ct_body (rv := [.tmp 4, .tmp 5]) [(0, _), (1, _)] Tryz.func23 (by kernel_rfl) Tryz.ntmps23 Tryz.results23 rfl rfl (fun w0 => ?_)
  refine p_seq0 ?_
  refine p_plain0 (0 :: 1 :: []) ?_
  refine go_q0 4 (.assign (.const (.slice none 0 0))) 54 (qv_assign rfl) ?_
  refine go_q0 5 (.assign (.const (.bool false))) 4 (qv_assign rfl) ?_
  refine go_nil ?_
  change G _ _ _ _
  refine p_seq0 ?_
  refine p_seq0 ?_
  refine p_plain0 (0 :: []) ?_
  refine go_q0 6 (.assign (.const (.int .i64 0))) 3 (qv_assign rfl) ?_
  refine go_nil ?_
  change G _ _ _ _
  refine p_block 0 (by kernel_rfl) ?_
  refine p_loopE (by kernel_rfl) (fun s m => ∃ (i : Nat) (S1 : List Sum24) (q1 : Option Addr) (k1 : Nat) (A1 : Mem), (i ≤ l.length) ∧ (S1 = addRs S (l.take i)) ∧ (OwnL eSum24 119 q1 k1 S1 A1) ∧ Ge s ⟨[], [(0, .slice p l.length c), (1, .slice q1 S1.length k1), (4, .slice none 0 0), (5, .bool false), (6, .int .i64 i)], Ml ++ A1⟩ ∧ m = l.length + 1 - i) ?_ ?_
  · exact ⟨_, ⟨0, S, q, cq, A, by omega, rfl, hO, ⟨rfl, ⟨[0, 1, 4, 5, 6], rfl⟩, .auto⟩, rfl⟩⟩
  rintro s m ⟨i, S1, q1, k1, A1, hi, hS, hO1, hs, rfl⟩
  refine ge_ok hs ?_
  refine p_seq0 ?_
  refine p_seq0 ?_
  refine p_plain0 (0 :: 1 :: 2 :: 3 :: []) ?_
  refine go_q0 7 (.move (.tmp 6)) 3 (qv_move rfl) ?_
  refine go_q0 8 (.move (.tmp 0)) 55 (qv_move rfl) ?_
  refine go_q0 9 (.call { callee := .builtin .len, args := #[.tmp 8], argTypes := #[55] }) 3 (qv_lenS un55 rfl) ?_
  refine go_q0 10 (.binOp .lss 3 (.tmp 7) (.tmp 9) 3) 4 (qv_lss rfl rfl rfl) ?_
  refine go_nil ?_
  change G _ _ _ _
  refine p_weaken [0, 1, 4, 5, 6, 10] rfl ?_
  refine p_cond (.tmp 10) (by kernel_rfl) rfl (fun h10 => ?_) (fun h10 => ?_)
  rotate_left
  · replace h10 := kn h10
    refine p_exit 0 (by kernel_rfl) ?_
    change G _ _ _ _
    refine p_weaken [1, 4, 5] rfl ?_
    refine p_seq0 ?_
    refine p_plain0 (0 :: 1 :: 2 :: []) ?_
    refine go_q0 32 (.move (.tmp 1)) 54 (qv_move rfl) ?_
    refine go_q0 4 (.assign (.tmp 32)) 54 (qv_assign rfl) ?_
    refine go_q0 5 (.assign (.const (.bool true))) 4 (qv_assign rfl) ?_
    refine go_nil ?_
    change G _ _ _ _
    refine p_weaken [4, 5] rfl ?_
    refine p_ret0 ?_
    try dsimp only [thenQ, inBlockQ]
    try rw [if_pos rfl]
    refine ret_left (Ml ++ A1) (.inr rfl) (.cons (res_tmp rfl) (.cons (res_tmp rfl) .nil)) .auto ?_
    have hie : i = l.length := by omega
    subst hie
    rw [List.take_length] at hS
    subst hS
    exact ⟨q1, k1, A1, rfl, hO1, rfl⟩
  replace h10 := kn h10
  refine p_skip0 ?_
  change G _ _ _ _
  refine p_weaken [0, 1, 4, 5, 6] rfl ?_
  refine p_seq0 ?_
  refine p_block 1 (by kernel_rfl) ?_
  refine p_seq0 ?_
  refine p_seq0 ?_
  obtain ⟨b, o, cu, e, f, hpe, mm, H⟩ := hl.at_ (i := i) (by omega)
  subst hpe
  obtain ⟨x, hx⟩ : ∃ x, l[i]? = some x := ⟨_, List.getElem?_eq_getElem (by omega)⟩
  have hxr := hr x (List.mem_of_getElem? hx)
  have hR := hxr.1 ▸ pu_RecRight x
  have hok := hroom.at_ hp (fun r h => (hr r h).2) hx
  rw [← hS] at hok
  have hsl : S1.length ≤ 1000000 := by have := addRs_len (l.take i) S; rw [← hS] at this; simp at this; omega
  have hAd := ct_add hO1 hsl hok
  refine p_plain0 (0 :: 1 :: 2 :: 3 :: 4 :: 5 :: []) ?_
  refine go_q0 13 (.move (.tmp 0)) 55 (qv_move rfl) ?_
  refine go_q0 14 (.move (.tmp 6)) 3 (qv_move rfl) ?_
  refine go_q0 15 (.indexAddr 55 (.tmp 13) (.tmp 14)) 0 (qv_index un55 sz69 rfl rfl rfl (by omega)) ?_
  refine go_q0 16 (.load 69 (.tmp 15)) 69 (qv_load rfl (At.of_mem (by repeat first | exact mm | exact List.mem_append_left _ mm | apply List.mem_cons_of_mem | apply List.mem_append_right)) (ldv_els H hx (by decide) agg69 rfl)) ?_
  refine go_s0 (some 17) (.call { callee := .value (.func 60), args := #[.tmp 16], argTypes := #[69] }) 4 ?_
  refine os_callP rfl en60 rfl (hR) ?_
  refine go_q0 18 (.unOp .not 4 (.tmp 17)) 4 (qv_not rfl) ?_
  refine go_nil ?_
  change G _ _ _ _
  refine p_weaken [0, 1, 4, 5, 6, 18] rfl ?_
  refine p_condF (.tmp 18) (by kernel_rfl) rfl ?_
  refine p_skip0 ?_
  change G _ _ _ _
  refine p_weaken [0, 1, 4, 5, 6] rfl ?_
  refine p_draw (by kernel_rfl) mixed 11 13 _ (fun _ h => h) (by kernel_rfl) ?_
  refine gd_all (0 :: 1 :: 2 :: 3 :: 4 :: 5 :: 6 :: 7 :: 8 :: 9 :: 10 :: []) _ rfl (by kernel_rfl) (by decide) (fun _ h => h) rfl ?_
  refine sq_q0 20 (.move (.tmp 1)) 54 (qv_move rfl) ?_
  refine sq_q0 21 (.move (.tmp 0)) 55 (qv_move rfl) ?_
  refine sq_q0 22 (.move (.tmp 6)) 3 (qv_move rfl) ?_
  refine sq_q0 23 (.indexAddr 55 (.tmp 21) (.tmp 22)) 0 (qv_index un55 sz69 rfl rfl rfl (by omega)) ?_
  refine sq_q0 24 (.fieldAddr 69 (.tmp 23) 0) 0 (qv_field rfl fd69_0) ?_
  refine sq_q0 25 (.load 29 (.tmp 24)) 29 (qv_load rfl (At.of_mem (by repeat first | exact mm | exact List.mem_append_left _ mm | apply List.mem_cons_of_mem | apply List.mem_append_right)) (ldv_elp H hx agg29 (ext_Rec_0_37 _) (by decide) (by decide) rfl)) ?_
  refine sq_q0 26 (.move (.tmp 0)) 55 (qv_move rfl) ?_
  refine sq_q0 27 (.move (.tmp 6)) 3 (qv_move rfl) ?_
  refine sq_q0 28 (.indexAddr 55 (.tmp 26) (.tmp 27)) 0 (qv_index un55 sz69 rfl rfl rfl (by omega)) ?_
  refine sq_q0 29 (.load 69 (.tmp 28)) 69 (qv_load rfl (At.of_mem (by repeat first | exact mm | exact List.mem_append_left _ mm | apply List.mem_cons_of_mem | apply List.mem_append_right)) (ldv_els H hx (by decide) agg69 rfl)) ?_
  refine sq_p (d := 30) (op := .call { callee := .value (.func 25), args := #[.tmp 29], argTypes := #[69] }) (ty := 65) (g := none) (by kernel_rfl) trivial (pv_call en25 rfl (pu_Total x)) ?_
  refine SeqK.nil (fun β => ?_)
  refine gd_tail [11, 12] rfl (by kernel_rfl) (by kernel_rfl) ?_
  refine go_s0 (some 31) (.call { callee := .value (.func 22), args := #[.tmp 20, .tmp 25, .tmp 30], argTypes := #[54, 29, 65] }) 54 ?_
  refine os_call (Nat.le_of_ble_eq_true rfl) en22 rfl .auto (hAd) ?_
  rintro v31 A31 ⟨q2, k2, A2, rfl, hO2, rfl⟩
  try dsimp only [List.nil_append, List.cons_append]
  refine go_q0 1 (.assign (.tmp 31)) 54 (qv_assign rfl) ?_
  refine go_nil ?_
  change G _ _ _ _
  refine p_weaken [0, 1, 4, 5, 6] rfl ?_
  refine p_plain0 (0 :: 1 :: 2 :: []) ?_
  refine go_q0 11 (.move (.tmp 6)) 3 (qv_move rfl) ?_
  refine go_q0 12 (.binOp .add 3 (.tmp 11) (.const (.int .i64 1)) 3) 3 (qv_add rfl rfl (by first | exact IntWalk.i64_in _ (by omega) | exact IntWalk.i64_in _ (by dsimp only; omega) | rfl)) ?_
  refine go_q0 6 (.assign (.tmp 12)) 3 (qv_assign rfl) ?_
  refine go_nil ?_
  exact ⟨_, ⟨i + 1, _, q2, k2, _, by omega, by rw [addRs_succ hx, ← hS], hO2, ⟨rfl, ⟨[0, 1, 4, 5, 6], rfl⟩, .auto⟩, rfl⟩, by omega⟩
theorem found_succ {fd : Bool} {S' : List Sum24} {j : Nat} {x y : Sum24} (hy : S'[j]? = some y) (h : fd = true ↔ x.total = ⟨0, 0⟩ ∨ x ∈ S'.take j) : (fd || decide (y = x)) = true ↔ x.total = ⟨0, 0⟩ ∨ x ∈ S'.take (j + 1) := by
  rw [List.take_add_one, hy, Bool.or_eq_true, h, List.mem_append, decide_eq_true_eq]
  simp [eq_comm, or_assoc]
theorem found_T {fd : Bool} {S' : List Sum24} {j : Nat} {x y : Sum24} (hy : S'[j]? = some y) (h : fd = true ↔ x.total = ⟨0, 0⟩ ∨ x ∈ S'.take j) (g : fd = true) : true = true ↔ x.total = ⟨0, 0⟩ ∨ x ∈ S'.take (j + 1) := by
  have := found_succ hy h
  rw [g] at this
  exact this
theorem found_F {fd : Bool} {S' : List Sum24} {j : Nat} {x y : Sum24} (hy : S'[j]? = some y) (h : fd = true ↔ x.total = ⟨0, 0⟩ ∨ x ∈ S'.take j) (g : fd = false) : decide (y = x) = true ↔ x.total = ⟨0, 0⟩ ∨ x ∈ S'.take (j + 1) := by
  have := found_succ hy h
  rw [g] at this
  exact this
theorem ct_same {p q : Option Addr} {c d : Nat} {S S' : List Sum24} {M : Mem} (ha : Lst eSum24 p S M) (hb : Lst eSum24 q S' M) (hS1 : S.length ≤ 1000000) (hS2 : S'.length ≤ 1000000) (hsm : ∀ a ∈ S, a.total = ⟨0, 0⟩ ∨ a ∈ S') :
    Ct Tryz.prog 26 [.slice p S.length c, .slice q S'.length d].toArray M (fun v M' => v = .bool true ∧ M' = M) := by
  refine ct_body (rv := [.tmp 4]) [(0, _), (1, _)] Tryz.func26 (by kernel_rfl) Tryz.ntmps26 Tryz.results26 rfl rfl (fun w0 => ?_)
  refine p_seq0 ?_
  refine p_plain0 (0 :: []) ?_
  refine go_q0 4 (.assign (.const (.bool false))) 4 (qv_assign rfl) ?_
  refine go_nil ?_
  change G _ _ _ _
  refine p_seq0 ?_
  refine p_seq0 ?_
  refine p_plain0 (0 :: []) ?_
  refine go_q0 5 (.assign (.const (.int .i64 0))) 3 (qv_assign rfl) ?_
  refine go_nil ?_
  change G _ _ _ _
  refine p_block 0 (by kernel_rfl) ?_
  refine p_loopE (by kernel_rfl) (fun s m => ∃ (i : Nat), (i ≤ S.length) ∧ Ge s ⟨[], [(0, .slice p S.length c), (1, .slice q S'.length d), (4, .bool false), (5, .int .i64 i)], M⟩ ∧ m = S.length + 1 - i) ?_ ?_
  · exact ⟨_, ⟨0, by omega, ⟨rfl, ⟨[0, 1, 4, 5], rfl⟩, .auto⟩, rfl⟩⟩
  rintro s m ⟨i, hi, hs, rfl⟩
  refine ge_ok hs ?_
  refine p_seq0 ?_
  refine p_seq0 ?_
  refine p_plain0 (0 :: 1 :: 2 :: 3 :: []) ?_
  refine go_q0 8 (.move (.tmp 5)) 3 (qv_move rfl) ?_
  refine go_q0 9 (.move (.tmp 0)) 54 (qv_move rfl) ?_
  refine go_q0 10 (.call { callee := .builtin .len, args := #[.tmp 9], argTypes := #[54] }) 3 (qv_lenS un54 rfl) ?_
  refine go_q0 11 (.binOp .lss 3 (.tmp 8) (.tmp 10) 3) 4 (qv_lss rfl rfl rfl) ?_
  refine go_nil ?_
  change G _ _ _ _
  refine p_weaken [0, 1, 4, 5, 11] rfl ?_
  refine p_cond (.tmp 11) (by kernel_rfl) rfl (fun h11 => ?_) (fun h11 => ?_)
  rotate_left
  · replace h11 := kn h11
    refine p_exit 0 (by kernel_rfl) ?_
    change G _ _ _ _
    refine p_weaken [4] rfl ?_
    refine p_seq0 ?_
    refine p_plain0 (0 :: []) ?_
    refine go_q0 4 (.assign (.const (.bool true))) 4 (qv_assign rfl) ?_
    refine go_nil ?_
    change G _ _ _ _
    refine p_ret0 ?_
    try dsimp only [thenQ, inBlockQ]
    try rw [if_pos rfl]
    refine ret_left (M) (.inr rfl) (.cons (res_tmp rfl) .nil) .auto ?_
    exact ⟨rfl, rfl⟩
  replace h11 := kn h11
  refine p_skip0 ?_
  change G _ _ _ _
  refine p_weaken [0, 1, 4, 5] rfl ?_
  refine p_seq0 ?_
  refine p_block 1 (by kernel_rfl) ?_
  refine p_seq0 ?_
  obtain ⟨b, o, cu, e, f, hpe, mm, H⟩ := ha.at_ (i := i) (by omega)
  subst hpe
  obtain ⟨x, hx⟩ : ∃ x, S[i]? = some x := ⟨_, List.getElem?_eq_getElem (by omega)⟩
  have hxs := hsm x (List.mem_of_getElem? hx)
  refine p_plain0 (0 :: 1 :: 2 :: 3 :: 4 :: 5 :: 6 :: 7 :: []) ?_
  refine go_q0 14 (.move (.tmp 0)) 54 (qv_move rfl) ?_
  refine go_q0 15 (.move (.tmp 5)) 3 (qv_move rfl) ?_
  refine go_q0 16 (.indexAddr 54 (.tmp 14) (.tmp 15)) 0 (qv_index un54 sz119 rfl rfl rfl (by omega)) ?_
  refine go_q0 17 (.fieldAddr 119 (.tmp 16) 1) 0 (qv_field rfl fd119_1) ?_
  refine go_q0 18 (.load 65 (.tmp 17)) 65 (qv_load rfl (At.of_mem (by repeat first | exact mm | exact List.mem_append_left _ mm | apply List.mem_cons_of_mem | apply List.mem_append_right)) (ldv_elp H hx agg65 (ext_Sum24_37_2 _) (by decide) (by decide) rfl)) ?_
  refine go_q0 19 (.build 65 #[]) 65 (qv_build (v := .agg (⟨0, 0⟩ : Tot).c) rfl (fun w => by kernel_rfl)) ?_
  refine go_q0 20 (.binOp .eql 65 (.tmp 18) (.tmp 19) 65) 4 (qv_eql_65 (s := x.total) (t := ⟨0, 0⟩) (b := decide (x.total = ⟨0, 0⟩)) rfl rfl rfl) ?_
  refine go_q0 6 (.assign (.tmp 20)) 4 (qv_assign rfl) ?_
  refine go_nil ?_
  change G _ _ _ _
  refine p_weaken [0, 1, 4, 5, 6] rfl ?_
  refine p_seq0 ?_
  refine p_seq0 ?_
  refine p_plain0 (0 :: []) ?_
  refine go_q0 7 (.assign (.const (.int .i64 0))) 3 (qv_assign rfl) ?_
  refine go_nil ?_
  change G _ _ _ _
  refine p_block 2 (by kernel_rfl) ?_
  refine p_loopE (by kernel_rfl) (fun s m => ∃ (j : Nat) (fd : Bool), (j ≤ S'.length) ∧ (fd = true ↔ x.total = ⟨0, 0⟩ ∨ x ∈ S'.take j) ∧ Ge s ⟨[], [(0, .slice (some ⟨b, o, none⟩) S.length c), (1, .slice q S'.length d), (4, .bool false), (5, .int .i64 i), (6, .bool fd), (7, .int .i64 j)], M⟩ ∧ m = S'.length + 1 - j) ?_ ?_
  · exact ⟨_, ⟨0, _, by omega, by simp, ⟨rfl, ⟨[0, 1, 4, 5, 6, 7], rfl⟩, .auto⟩, rfl⟩⟩
  rintro s m ⟨j, fd, hj, hfd, hs, rfl⟩
  refine ge_ok hs ?_
  refine p_seq0 ?_
  refine p_seq0 ?_
  refine p_plain0 (0 :: 1 :: 2 :: 3 :: []) ?_
  refine go_q0 21 (.move (.tmp 7)) 3 (qv_move rfl) ?_
  refine go_q0 22 (.move (.tmp 1)) 54 (qv_move rfl) ?_
  refine go_q0 23 (.call { callee := .builtin .len, args := #[.tmp 22], argTypes := #[54] }) 3 (qv_lenS un54 rfl) ?_
  refine go_q0 24 (.binOp .lss 3 (.tmp 21) (.tmp 23) 3) 4 (qv_lss rfl rfl rfl) ?_
  refine go_nil ?_
  change G _ _ _ _
  refine p_weaken [0, 1, 4, 5, 6, 7, 24] rfl ?_
  refine p_cond (.tmp 24) (by kernel_rfl) rfl (fun h24 => ?_) (fun h24 => ?_)
  rotate_left
  · replace h24 := kn h24
    refine p_exit 2 (by kernel_rfl) ?_
    change G _ _ _ _
    refine p_weaken [0, 1, 4, 5, 6] rfl ?_
    refine p_seq0 ?_
    have hje : j = S'.length := by omega
    rw [hje, List.take_length] at hfd
    refine p_plain0 (0 :: 1 :: []) ?_
    refine go_q0 39 (.move (.tmp 6)) 4 (qv_move rfl) ?_
    refine go_q0 40 (.unOp .not 4 (.tmp 39)) 4 (qv_not rfl) ?_
    refine go_nil ?_
    change G _ _ _ _
    refine p_weaken [0, 1, 4, 5, 40] rfl ?_
    refine p_cond (.tmp 40) (by kernel_rfl) rfl (fun h40 => ?_) (fun h40 => ?_)
    · replace h40 := kn h40
      rw [hfd.2 hxs] at h40
      cases h40
    replace h40 := kn h40
    refine p_skip0 ?_
    change G _ _ _ _
    refine p_weaken [0, 1, 4, 5] rfl ?_
    refine p_plain0 (0 :: 1 :: 2 :: []) ?_
    refine go_q0 12 (.move (.tmp 5)) 3 (qv_move rfl) ?_
    refine go_q0 13 (.binOp .add 3 (.tmp 12) (.const (.int .i64 1)) 3) 3 (qv_add rfl rfl (by first | exact IntWalk.i64_in _ (by omega) | exact IntWalk.i64_in _ (by dsimp only; omega) | rfl)) ?_
    refine go_q0 5 (.assign (.tmp 13)) 3 (qv_assign rfl) ?_
    refine go_nil ?_
    exact ⟨_, ⟨i + 1, by omega, ⟨rfl, ⟨[0, 1, 4, 5], rfl⟩, .auto⟩, rfl⟩, by omega⟩
  replace h24 := kn h24
  refine p_skip0 ?_
  change G _ _ _ _
  refine p_weaken [0, 1, 4, 5, 6, 7] rfl ?_
  refine p_seq0 ?_
  refine p_block 3 (by kernel_rfl) ?_
  obtain ⟨b2, o2, cu2, e2, f2, hpe, mm2, H2⟩ := hb.at_ (i := j) (by omega)
  subst hpe
  obtain ⟨y, hy⟩ : ∃ y, S'[j]? = some y := ⟨_, List.getElem?_eq_getElem (by omega)⟩
  refine p_draw (by kernel_rfl) mixed 12 13 _ (fun _ h => h) (by kernel_rfl) ?_
  refine gd_all (0 :: 1 :: 2 :: 3 :: 4 :: 5 :: 6 :: 7 :: 8 :: 9 :: 10 :: 11 :: []) _ rfl (by kernel_rfl) (by decide) (fun _ h => h) rfl ?_
  refine sq_q0 27 (.move (.tmp 6)) 4 (qv_move rfl) ?_
  refine sq_q0 28 (.move (.tmp 27)) 4 (qv_move rfl) ?_
  refine sq_case (d := 28) rfl (fun _ => rfl) (fun g28 => ?_) (fun g28 => ?_)
  · replace g28 := kn g28
    refine sq_n (d := 29) (op := .move (.tmp 1)) (ty := 54) (g := some (1, false)) (by kernel_rfl) ⟨28, _, by kernel_rfl, rfl, rfl⟩ ?_
    refine sq_n (d := 30) (op := .move (.tmp 7)) (ty := 3) (g := some (1, false)) (by kernel_rfl) ⟨28, _, by kernel_rfl, rfl, rfl⟩ ?_
    refine sq_n (d := 31) (op := .indexAddr 54 (.tmp 29) (.tmp 30)) (ty := 0) (g := some (1, false)) (by kernel_rfl) ⟨28, _, by kernel_rfl, rfl, rfl⟩ ?_
    refine sq_n (d := 32) (op := .load 119 (.tmp 31)) (ty := 119) (g := some (1, false)) (by kernel_rfl) ⟨28, _, by kernel_rfl, rfl, rfl⟩ ?_
    refine sq_n (d := 33) (op := .move (.tmp 0)) (ty := 54) (g := some (1, false)) (by kernel_rfl) ⟨28, _, by kernel_rfl, rfl, rfl⟩ ?_
    refine sq_n (d := 34) (op := .move (.tmp 5)) (ty := 3) (g := some (1, false)) (by kernel_rfl) ⟨28, _, by kernel_rfl, rfl, rfl⟩ ?_
    refine sq_n (d := 35) (op := .indexAddr 54 (.tmp 33) (.tmp 34)) (ty := 0) (g := some (1, false)) (by kernel_rfl) ⟨28, _, by kernel_rfl, rfl, rfl⟩ ?_
    refine sq_n (d := 36) (op := .load 119 (.tmp 35)) (ty := 119) (g := some (1, false)) (by kernel_rfl) ⟨28, _, by kernel_rfl, rfl, rfl⟩ ?_
    refine sq_n (d := 37) (op := .binOp .eql 119 (.tmp 32) (.tmp 36) 119) (ty := 4) (g := some (1, false)) (by kernel_rfl) ⟨28, _, by kernel_rfl, rfl, rfl⟩ ?_
    refine sq_q0 38 (.pick (.tmp 28) (.const (.bool true)) (.tmp 37)) 4 (qv_pick_t rfl rfl) ?_
    refine SeqK.nil (fun β => ?_)
    refine gd_tail [12] rfl (by kernel_rfl) (by kernel_rfl) ?_
    refine go_q0 6 (.assign (.tmp 38)) 4 (qv_assign rfl) ?_
    refine go_nil ?_
    change G _ _ _ _
    refine p_weaken [0, 1, 4, 5, 6, 7] rfl ?_
    refine p_plain0 (0 :: 1 :: 2 :: []) ?_
    refine go_q0 25 (.move (.tmp 7)) 3 (qv_move rfl) ?_
    refine go_q0 26 (.binOp .add 3 (.tmp 25) (.const (.int .i64 1)) 3) 3 (qv_add rfl rfl (by first | exact IntWalk.i64_in _ (by omega) | exact IntWalk.i64_in _ (by dsimp only; omega) | rfl)) ?_
    refine go_q0 7 (.assign (.tmp 26)) 3 (qv_assign rfl) ?_
    refine go_nil ?_
    exact ⟨_, ⟨j + 1, _, by omega, by first | exact found_T hy hfd (by simpa using g28) | exact found_F hy hfd (by simpa using g28), ⟨rfl, ⟨[0, 1, 4, 5, 6, 7], rfl⟩, .auto⟩, rfl⟩, by omega⟩
  replace g28 := kn g28
  refine sq_q (d := 29) (op := .move (.tmp 1)) (ty := 54) (g := some (1, false)) (by kernel_rfl) ⟨28, by kernel_rfl, rfl⟩ (fun _ h => nomatch h) (qv_move rfl) ?_
  refine sq_q (d := 30) (op := .move (.tmp 7)) (ty := 3) (g := some (1, false)) (by kernel_rfl) ⟨28, by kernel_rfl, rfl⟩ (fun _ h => nomatch h) (qv_move rfl) ?_
  refine sq_q (d := 31) (op := .indexAddr 54 (.tmp 29) (.tmp 30)) (ty := 0) (g := some (1, false)) (by kernel_rfl) ⟨28, by kernel_rfl, rfl⟩ (fun _ h => nomatch h) (qv_index un54 sz119 rfl rfl rfl (by omega)) ?_
  refine sq_q (d := 32) (op := .load 119 (.tmp 31)) (ty := 119) (g := some (1, false)) (by kernel_rfl) ⟨28, by kernel_rfl, rfl⟩ (fun _ h => nomatch h) (qv_load rfl (At.of_mem (by repeat first | exact mm2 | exact List.mem_append_left _ mm2 | apply List.mem_cons_of_mem | apply List.mem_append_right)) (ldv_els H2 hy (by decide) agg119 rfl)) ?_
  refine sq_q (d := 33) (op := .move (.tmp 0)) (ty := 54) (g := some (1, false)) (by kernel_rfl) ⟨28, by kernel_rfl, rfl⟩ (fun _ h => nomatch h) (qv_move rfl) ?_
  refine sq_q (d := 34) (op := .move (.tmp 5)) (ty := 3) (g := some (1, false)) (by kernel_rfl) ⟨28, by kernel_rfl, rfl⟩ (fun _ h => nomatch h) (qv_move rfl) ?_
  refine sq_q (d := 35) (op := .indexAddr 54 (.tmp 33) (.tmp 34)) (ty := 0) (g := some (1, false)) (by kernel_rfl) ⟨28, by kernel_rfl, rfl⟩ (fun _ h => nomatch h) (qv_index un54 sz119 rfl rfl rfl (by omega)) ?_
  refine sq_q (d := 36) (op := .load 119 (.tmp 35)) (ty := 119) (g := some (1, false)) (by kernel_rfl) ⟨28, by kernel_rfl, rfl⟩ (fun _ h => nomatch h) (qv_load rfl (At.of_mem (by repeat first | exact mm | exact List.mem_append_left _ mm | apply List.mem_cons_of_mem | apply List.mem_append_right)) (ldv_els H hx (by decide) agg119 rfl)) ?_
  refine sq_q (d := 37) (op := .binOp .eql 119 (.tmp 32) (.tmp 36) 119) (ty := 4) (g := some (1, false)) (by kernel_rfl) ⟨28, by kernel_rfl, rfl⟩ (fun _ h => nomatch h) (qv_eql_119 (s := y) (t := x) (b := decide (y = x)) rfl rfl rfl) ?_
  refine sq_q0 38 (.pick (.tmp 28) (.const (.bool true)) (.tmp 37)) 4 (qv_pick_f rfl rfl) ?_
  refine SeqK.nil (fun β => ?_)
  refine gd_tail [12] rfl (by kernel_rfl) (by kernel_rfl) ?_
  refine go_q0 6 (.assign (.tmp 38)) 4 (qv_assign rfl) ?_
  refine go_nil ?_
  change G _ _ _ _
  refine p_weaken [0, 1, 4, 5, 6, 7] rfl ?_
  refine p_plain0 (0 :: 1 :: 2 :: []) ?_
  refine go_q0 25 (.move (.tmp 7)) 3 (qv_move rfl) ?_
  refine go_q0 26 (.binOp .add 3 (.tmp 25) (.const (.int .i64 1)) 3) 3 (qv_add rfl rfl (by first | exact IntWalk.i64_in _ (by omega) | exact IntWalk.i64_in _ (by dsimp only; omega) | rfl)) ?_
  refine go_q0 7 (.assign (.tmp 26)) 3 (qv_assign rfl) ?_
  refine go_nil ?_
  exact ⟨_, ⟨j + 1, _, by omega, by first | exact found_T hy hfd (by simpa using g28) | exact found_F hy hfd (by simpa using g28), ⟨rfl, ⟨[0, 1, 4, 5, 6, 7], rfl⟩, .auto⟩, rfl⟩, by omega⟩
theorem ct_young {bc : Nat} {tick : Int} {bd : Bnd} {fl : List Rec} {M : Mem} (hM : CacM bc tick bd fl M) (ht : InK .u64 tick) (hy : ∀ r ∈ fl, r.Wf ∧ r.first ≤ tick ∧ r.last ≤ tick ∧ tick < dueR bd r) :
    Ct Tryz.prog 19 [.pointer (some ⟨bc, 0, none⟩), .agg bd.c].toArray M (fun v M' => v = .bool true ∧ M' = M) := by
  have hN := ct_Next hM
  have hgt : ∀ v, nextS bd fl = some v → tick < v := fun v hv => by
    obtain ⟨x, hx, rfl⟩ := next_of hv
    exact (hy x hx).2.2.2
  have hle := hM.le
  generalize nextS bd fl = nx at *
  refine ct_body (rv := [.tmp 4]) [(0, _), (1, _)] Tryz.func19 (by kernel_rfl) Tryz.ntmps19 Tryz.results19 rfl rfl (fun w0 => ?_)
  refine p_seq0 ?_
  refine p_plain0 (0 :: 1 :: []) ?_
  refine go_s0 (some 3) (.box 36 (.tmp 1)) 0 ?_
  refine os_boxA rfl rfl (fun b3 => ?_)
  refine go_q0 4 (.assign (.const (.bool false))) 4 (qv_assign rfl) ?_
  refine go_nil ?_
  change G _ _ _ _
  refine p_weaken [0, 3, 4] rfl ?_
  refine p_seq0 ?_
  refine p_plain0 (0 :: 1 :: 2 :: 3 :: 4 :: 5 :: 6 :: []) ?_
  refine go_q0 10 (.move (.tmp 0)) 43 (qv_move rfl) ?_
  refine go_s0 (some 11) (.call { callee := .value (.func 27), args := #[.tmp 10], argTypes := #[43] }) 72 ?_
  refine os_pv rfl (pv_callR en27 rfl .auto (hN)) ?_
  refine go_q0 9 (.move (.tmp 11)) 72 (qv_move rfl) ?_
  refine go_q0 12 (.extract (.tmp 9) 0) 23 (qv_extract rfl rfl) ?_
  refine go_q0 13 (.extract (.tmp 9) 1) 4 (qv_extract rfl rfl) ?_
  refine go_q0 5 (.assign (.tmp 12)) 23 (qv_assign rfl) ?_
  refine go_q0 6 (.assign (.tmp 13)) 4 (qv_assign rfl) ?_
  refine go_nil ?_
  change G _ _ _ _
  refine p_weaken [0, 3, 4, 5, 6] rfl ?_
  refine p_seq0 ?_
  refine p_seq0 ?_
  refine p_plain0 (0 :: 1 :: 2 :: 3 :: 4 :: 5 :: 6 :: []) ?_
  refine go_q0 14 (.move (.tmp 6)) 4 (qv_move rfl) ?_
  refine go_q0 15 (.move (.tmp 14)) 4 (qv_move rfl) ?_
  refine go_case (d := 15) rfl (fun g15 => ?_) (fun g15 => ?_)
  rotate_left
  · replace g15 := kn g15
    refine go_n (d := 16) (op := .move (.tmp 5)) (ty := 23) (g := some (1, true)) (by kernel_rfl) ⟨15, _, by kernel_rfl, rfl, rfl⟩ rfl ?_
    refine go_n (d := 17) (op := .move (.tmp 0)) (ty := 43) (g := some (1, true)) (by kernel_rfl) ⟨15, _, by kernel_rfl, rfl, rfl⟩ rfl ?_
    refine go_n (d := 18) (op := .call { callee := .value (.func 17), args := #[.tmp 17], argTypes := #[43] }) (ty := 23) (g := some (1, true)) (by kernel_rfl) ⟨15, _, by kernel_rfl, rfl, rfl⟩ rfl ?_
    refine go_n (d := 19) (op := .binOp .leq 23 (.tmp 16) (.tmp 18) 23) (ty := 4) (g := some (1, true)) (by kernel_rfl) ⟨15, _, by kernel_rfl, rfl, rfl⟩ rfl ?_
    refine go_q0 20 (.pick (.tmp 15) (.tmp 19) (.const (.bool false))) 4 (qv_pick_f rfl rfl) ?_
    refine go_nil ?_
    change G _ _ _ _
    refine p_weaken [0, 3, 4, 20] rfl ?_
    refine p_condF (.tmp 20) (by kernel_rfl) rfl ?_
    refine p_skip0 ?_
    change G _ _ _ _
    refine p_weaken [0, 3, 4] rfl ?_
    refine p_seq0 ?_
    refine p_plain0 (0 :: 1 :: 2 :: []) ?_
    refine go_q0 21 (.move (.tmp 0)) 43 (qv_move rfl) ?_
    refine go_s0 (some 22) (.call { callee := .value (.func 24), args := #[.tmp 21], argTypes := #[43] }) 55 ?_
    refine os_call (Nat.le_of_ble_eq_true rfl) en24 rfl .auto (ct_All hM) ?_
    rintro v22 A22 ⟨out, q, cq, B, hA, rfl, hB, rfl⟩
    try dsimp only [List.nil_append, List.cons_append]
    have hal := hA.1.length_eq
    refine go_q0 7 (.assign (.tmp 22)) 55 (qv_assign rfl) ?_
    refine go_nil ?_
    change G _ _ _ _
    refine p_weaken [0, 3, 4, 7] rfl ?_
    refine p_seq0 ?_
    refine p_seq0 ?_
    refine p_plain0 (0 :: []) ?_
    refine go_q0 8 (.assign (.const (.int .i64 0))) 3 (qv_assign rfl) ?_
    refine go_nil ?_
    change G _ _ _ _
    refine p_block 0 (by kernel_rfl) ?_
    refine p_loopE (by kernel_rfl) (fun s m => ∃ (i : Nat), (i ≤ out.length) ∧ Ge s ⟨[], [(0, .pointer (some ⟨bc, 0, none⟩)), (3, .pointer (some ⟨b3, 0, none⟩)), (4, .bool false), (7, .slice q out.length cq), (8, .int .i64 i)], (b3, .cells bd.c 36 (0, 0)) :: (B ++ M)⟩ ∧ m = out.length + 1 - i) ?_ ?_
    · exact ⟨_, ⟨0, by omega, ⟨rfl, ⟨[0, 3, 4, 7, 8], rfl⟩, .auto⟩, rfl⟩⟩
    rintro s m ⟨i, hi, hs, rfl⟩
    refine ge_ok hs ?_
    refine p_seq0 ?_
    refine p_seq0 ?_
    refine p_plain0 (0 :: 1 :: 2 :: 3 :: []) ?_
    refine go_q0 23 (.move (.tmp 8)) 3 (qv_move rfl) ?_
    refine go_q0 24 (.move (.tmp 7)) 55 (qv_move rfl) ?_
    refine go_q0 25 (.call { callee := .builtin .len, args := #[.tmp 24], argTypes := #[55] }) 3 (qv_lenS un55 rfl) ?_
    refine go_q0 26 (.binOp .lss 3 (.tmp 23) (.tmp 25) 3) 4 (qv_lss rfl rfl rfl) ?_
    refine go_nil ?_
    change G _ _ _ _
    refine p_weaken [0, 3, 4, 7, 8, 26] rfl ?_
    refine p_cond (.tmp 26) (by kernel_rfl) rfl (fun h26 => ?_) (fun h26 => ?_)
    rotate_left
    · replace h26 := kn h26
      refine p_exit 0 (by kernel_rfl) ?_
      change G _ _ _ _
      refine p_weaken [4] rfl ?_
      refine p_seq0 ?_
      refine p_plain0 (0 :: []) ?_
      refine go_q0 4 (.assign (.const (.bool true))) 4 (qv_assign rfl) ?_
      refine go_nil ?_
      change G _ _ _ _
      refine p_ret0 ?_
      try dsimp only [thenQ, inBlockQ]
      try rw [if_pos rfl]
      refine ret_left (M) (.inr rfl) (.cons (res_tmp rfl) .nil) .auto ?_
      exact ⟨rfl, rfl⟩
    replace h26 := kn h26
    refine p_skip0 ?_
    change G _ _ _ _
    refine p_weaken [0, 3, 4, 7, 8] rfl ?_
    refine p_seq0 ?_
    refine p_block 1 (by kernel_rfl) ?_
    refine p_seq0 ?_
    obtain ⟨b, o, cu, e, f, hpe, mm, H⟩ := hB.lst.at_ (i := i) (by omega)
    subst hpe
    obtain ⟨x, hx⟩ : ∃ x, out[i]? = some x := ⟨_, List.getElem?_eq_getElem (by omega)⟩
    obtain ⟨hxw, hx1, hx2, hx3⟩ := hy x (hA.1.mem_iff.1 (List.mem_of_getElem? hx))
    have hT1 : tick ≤ 18446744073709551615 := ht.2
    obtain ⟨hx4, hx5⟩ := due_young hx3 hT1
    have hx6 : 0 ≤ x.first := hxw.first_.1
    have hx7 : 0 ≤ x.last := hxw.last_.1
    refine p_draw (by kernel_rfl) mixed 24 24 _ (fun _ h => h) (by kernel_rfl) ?_
    refine gd_all (0 :: 1 :: 2 :: 3 :: 4 :: 5 :: 6 :: 7 :: 8 :: 9 :: 10 :: 11 :: 12 :: 13 :: 14 :: 15 :: 16 :: 17 :: 18 :: 19 :: 20 :: 21 :: 22 :: 23 :: []) _ rfl (by kernel_rfl) (by decide) (fun _ h => h) rfl ?_
    refine sq_q0 29 (.move (.tmp 0)) 43 (qv_move rfl) ?_
    refine sq_p (d := 30) (op := .call { callee := .value (.func 17), args := #[.tmp 29], argTypes := #[43] }) (ty := 23) (g := none) (by kernel_rfl) trivial (pv_callR en17 rfl .auto (ct_Tick hM)) ?_
    refine sq_q0 31 (.move (.tmp 7)) 55 (qv_move rfl) ?_
    refine sq_q0 32 (.move (.tmp 8)) 3 (qv_move rfl) ?_
    refine sq_q0 33 (.indexAddr 55 (.tmp 31) (.tmp 32)) 0 (qv_index un55 sz69 rfl rfl rfl (by omega)) ?_
    refine sq_q0 34 (.fieldAddr 69 (.tmp 33) 3) 0 (qv_field rfl fd69_3) ?_
    refine sq_q0 35 (.load 23 (.tmp 34)) 23 (qv_load rfl (At.of_mem (by repeat first | exact mm | exact List.mem_append_left _ mm | apply List.mem_cons_of_mem | apply List.mem_append_right)) (ldv_el H hx sc23 (get_Rec_39 _) rfl)) ?_
    refine sq_q0 36 (.binOp .sub 23 (.tmp 30) (.tmp 35) 23) 23 (qv_sub rfl rfl (IntWalk.u64_in _ (by constructor <;> omega))) ?_
    refine sq_q0 37 (.fieldAddr 36 (.tmp 3) 2) 0 (qv_field rfl fd36_2) ?_
    refine sq_q0 38 (.load 23 (.tmp 37)) 23 (qv_load rfl .auto (ldv_sca sc23 (get_Bnd_2 _))) ?_
    refine sq_q0 39 (.binOp .geq 23 (.tmp 36) (.tmp 38) 23) 4 (qv_geq (b := false) rfl rfl (by simp; omega)) ?_
    refine sq_q0 40 (.move (.tmp 39)) 4 (qv_move rfl) ?_
    refine sq_q (d := 41) (op := .move (.tmp 0)) (ty := 43) (g := some (11, false)) (by kernel_rfl) ⟨40, by kernel_rfl, rfl⟩ (fun _ h => nomatch h) (qv_move rfl) ?_
    refine sq_p (d := 42) (op := .call { callee := .value (.func 17), args := #[.tmp 41], argTypes := #[43] }) (ty := 23) (g := some (11, false)) (by kernel_rfl) ⟨40, by kernel_rfl, rfl⟩ (pv_callR en17 rfl .auto (ct_Tick hM)) ?_
    refine sq_q (d := 43) (op := .move (.tmp 7)) (ty := 55) (g := some (11, false)) (by kernel_rfl) ⟨40, by kernel_rfl, rfl⟩ (fun _ h => nomatch h) (qv_move rfl) ?_
    refine sq_q (d := 44) (op := .move (.tmp 8)) (ty := 3) (g := some (11, false)) (by kernel_rfl) ⟨40, by kernel_rfl, rfl⟩ (fun _ h => nomatch h) (qv_move rfl) ?_
    refine sq_q (d := 45) (op := .indexAddr 55 (.tmp 43) (.tmp 44)) (ty := 0) (g := some (11, false)) (by kernel_rfl) ⟨40, by kernel_rfl, rfl⟩ (fun _ h => nomatch h) (qv_index un55 sz69 rfl rfl rfl (by omega)) ?_
    refine sq_q (d := 46) (op := .fieldAddr 69 (.tmp 45) 4) (ty := 0) (g := some (11, false)) (by kernel_rfl) ⟨40, by kernel_rfl, rfl⟩ (fun _ h => nomatch h) (qv_field rfl fd69_4) ?_
    refine sq_q (d := 47) (op := .load 23 (.tmp 46)) (ty := 23) (g := some (11, false)) (by kernel_rfl) ⟨40, by kernel_rfl, rfl⟩ (fun _ h => nomatch h) (qv_load rfl (At.of_mem (by repeat first | exact mm | exact List.mem_append_left _ mm | apply List.mem_cons_of_mem | apply List.mem_append_right)) (ldv_el H hx sc23 (get_Rec_40 _) rfl)) ?_
    refine sq_q (d := 48) (op := .binOp .sub 23 (.tmp 42) (.tmp 47) 23) (ty := 23) (g := some (11, false)) (by kernel_rfl) ⟨40, by kernel_rfl, rfl⟩ (fun _ h => nomatch h) (qv_sub rfl rfl (IntWalk.u64_in _ (by constructor <;> omega))) ?_
    refine sq_q (d := 49) (op := .fieldAddr 36 (.tmp 3) 1) (ty := 0) (g := some (11, false)) (by kernel_rfl) ⟨40, by kernel_rfl, rfl⟩ (fun _ h => nomatch h) (qv_field rfl fd36_1) ?_
    refine sq_q (d := 50) (op := .load 23 (.tmp 49)) (ty := 23) (g := some (11, false)) (by kernel_rfl) ⟨40, by kernel_rfl, rfl⟩ (fun _ h => nomatch h) (qv_load rfl .auto (ldv_sca sc23 (get_Bnd_1 _))) ?_
    refine sq_q (d := 51) (op := .binOp .geq 23 (.tmp 48) (.tmp 50) 23) (ty := 4) (g := some (11, false)) (by kernel_rfl) ⟨40, by kernel_rfl, rfl⟩ (fun _ h => nomatch h) (qv_geq (b := false) rfl rfl (by simp; omega)) ?_
    refine sq_q0 52 (.pick (.tmp 40) (.const (.bool true)) (.tmp 51)) 4 (qv_pick_f rfl rfl) ?_
    refine SeqK.nil (fun β => ?_)
    refine gd_tail [] rfl (by kernel_rfl) (by kernel_rfl) ?_
    refine go_nil ?_
    change G _ _ _ _
    refine p_weaken [0, 3, 4, 7, 8, 52] rfl ?_
    refine p_condF (.tmp 52) (by kernel_rfl) rfl ?_
    refine p_skip0 ?_
    change G _ _ _ _
    refine p_weaken [0, 3, 4, 7, 8] rfl ?_
    refine p_plain0 (0 :: 1 :: 2 :: []) ?_
    refine go_q0 27 (.move (.tmp 8)) 3 (qv_move rfl) ?_
    refine go_q0 28 (.binOp .add 3 (.tmp 27) (.const (.int .i64 1)) 3) 3 (qv_add rfl rfl (by first | exact IntWalk.i64_in _ (by omega) | exact IntWalk.i64_in _ (by dsimp only; omega) | rfl)) ?_
    refine go_q0 8 (.assign (.tmp 28)) 3 (qv_assign rfl) ?_
    refine go_nil ?_
    exact ⟨_, ⟨i + 1, by omega, ⟨rfl, ⟨[0, 3, 4, 7, 8], rfl⟩, .auto⟩, rfl⟩, by omega⟩
  replace g15 := kn g15
  obtain ⟨v, rfl⟩ : ∃ v, nx = some v := Option.isSome_iff_exists.1 g15
  refine go_q (d := 16) (op := .move (.tmp 5)) (ty := 23) (g := some (1, true)) (by kernel_rfl) ⟨15, by kernel_rfl, rfl⟩ rfl (qv_move rfl) ?_
  refine go_q (d := 17) (op := .move (.tmp 0)) (ty := 43) (g := some (1, true)) (by kernel_rfl) ⟨15, by kernel_rfl, rfl⟩ rfl (qv_move rfl) ?_
  refine go_s (d := some 18) (op := .call { callee := .value (.func 17), args := #[.tmp 17], argTypes := #[43] }) (ty := 23) (g := some (1, true)) (by kernel_rfl) ⟨15, by kernel_rfl, rfl⟩ ?_
  refine os_pv rfl (pv_callR en17 rfl .auto (ct_Tick hM)) ?_
  refine go_q (d := 19) (op := .binOp .leq 23 (.tmp 16) (.tmp 18) 23) (ty := 4) (g := some (1, true)) (by kernel_rfl) ⟨15, by kernel_rfl, rfl⟩ rfl (qv_leq (b := false) rfl rfl (by have := hgt v rfl; simp; omega)) ?_
  refine go_q0 20 (.pick (.tmp 15) (.tmp 19) (.const (.bool false))) 4 (qv_pick_t rfl rfl) ?_
  refine go_nil ?_
  change G _ _ _ _
  refine p_weaken [0, 3, 4, 20] rfl ?_
  refine p_condF (.tmp 20) (by kernel_rfl) rfl ?_
  refine p_skip0 ?_
  change G _ _ _ _
  refine p_weaken [0, 3, 4] rfl ?_
  refine p_seq0 ?_
  refine p_plain0 (0 :: 1 :: 2 :: []) ?_
  refine go_q0 21 (.move (.tmp 0)) 43 (qv_move rfl) ?_
  refine go_s0 (some 22) (.call { callee := .value (.func 24), args := #[.tmp 21], argTypes := #[43] }) 55 ?_
  refine os_call (Nat.le_of_ble_eq_true rfl) en24 rfl .auto (ct_All hM) ?_
  rintro v22 A22 ⟨out, q, cq, B, hA, rfl, hB, rfl⟩
  try dsimp only [List.nil_append, List.cons_append]
  have hal := hA.1.length_eq
  refine go_q0 7 (.assign (.tmp 22)) 55 (qv_assign rfl) ?_
  refine go_nil ?_
  change G _ _ _ _
  refine p_weaken [0, 3, 4, 7] rfl ?_
  refine p_seq0 ?_
  refine p_seq0 ?_
  refine p_plain0 (0 :: []) ?_
  refine go_q0 8 (.assign (.const (.int .i64 0))) 3 (qv_assign rfl) ?_
  refine go_nil ?_
  change G _ _ _ _
  refine p_block 0 (by kernel_rfl) ?_
  refine p_loopE (by kernel_rfl) (fun s m => ∃ (i : Nat), (i ≤ out.length) ∧ Ge s ⟨[], [(0, .pointer (some ⟨bc, 0, none⟩)), (3, .pointer (some ⟨b3, 0, none⟩)), (4, .bool false), (7, .slice q out.length cq), (8, .int .i64 i)], (b3, .cells bd.c 36 (0, 0)) :: (B ++ M)⟩ ∧ m = out.length + 1 - i) ?_ ?_
  · exact ⟨_, ⟨0, by omega, ⟨rfl, ⟨[0, 3, 4, 7, 8], rfl⟩, .auto⟩, rfl⟩⟩
  rintro s m ⟨i, hi, hs, rfl⟩
  refine ge_ok hs ?_
  refine p_seq0 ?_
  refine p_seq0 ?_
  refine p_plain0 (0 :: 1 :: 2 :: 3 :: []) ?_
  refine go_q0 23 (.move (.tmp 8)) 3 (qv_move rfl) ?_
  refine go_q0 24 (.move (.tmp 7)) 55 (qv_move rfl) ?_
  refine go_q0 25 (.call { callee := .builtin .len, args := #[.tmp 24], argTypes := #[55] }) 3 (qv_lenS un55 rfl) ?_
  refine go_q0 26 (.binOp .lss 3 (.tmp 23) (.tmp 25) 3) 4 (qv_lss rfl rfl rfl) ?_
  refine go_nil ?_
  change G _ _ _ _
  refine p_weaken [0, 3, 4, 7, 8, 26] rfl ?_
  refine p_cond (.tmp 26) (by kernel_rfl) rfl (fun h26 => ?_) (fun h26 => ?_)
  rotate_left
  · replace h26 := kn h26
    refine p_exit 0 (by kernel_rfl) ?_
    change G _ _ _ _
    refine p_weaken [4] rfl ?_
    refine p_seq0 ?_
    refine p_plain0 (0 :: []) ?_
    refine go_q0 4 (.assign (.const (.bool true))) 4 (qv_assign rfl) ?_
    refine go_nil ?_
    change G _ _ _ _
    refine p_ret0 ?_
    try dsimp only [thenQ, inBlockQ]
    try rw [if_pos rfl]
    refine ret_left (M) (.inr rfl) (.cons (res_tmp rfl) .nil) .auto ?_
    exact ⟨rfl, rfl⟩
  replace h26 := kn h26
  refine p_skip0 ?_
  change G _ _ _ _
  refine p_weaken [0, 3, 4, 7, 8] rfl ?_
  refine p_seq0 ?_
  refine p_block 1 (by kernel_rfl) ?_
  refine p_seq0 ?_
  obtain ⟨b, o, cu, e, f, hpe, mm, H⟩ := hB.lst.at_ (i := i) (by omega)
  subst hpe
  obtain ⟨x, hx⟩ : ∃ x, out[i]? = some x := ⟨_, List.getElem?_eq_getElem (by omega)⟩
  obtain ⟨hxw, hx1, hx2, hx3⟩ := hy x (hA.1.mem_iff.1 (List.mem_of_getElem? hx))
  have hT1 : tick ≤ 18446744073709551615 := ht.2
  obtain ⟨hx4, hx5⟩ := due_young hx3 hT1
  have hx6 : 0 ≤ x.first := hxw.first_.1
  have hx7 : 0 ≤ x.last := hxw.last_.1
  refine p_draw (by kernel_rfl) mixed 24 24 _ (fun _ h => h) (by kernel_rfl) ?_
  refine gd_all (0 :: 1 :: 2 :: 3 :: 4 :: 5 :: 6 :: 7 :: 8 :: 9 :: 10 :: 11 :: 12 :: 13 :: 14 :: 15 :: 16 :: 17 :: 18 :: 19 :: 20 :: 21 :: 22 :: 23 :: []) _ rfl (by kernel_rfl) (by decide) (fun _ h => h) rfl ?_
  refine sq_q0 29 (.move (.tmp 0)) 43 (qv_move rfl) ?_
  refine sq_p (d := 30) (op := .call { callee := .value (.func 17), args := #[.tmp 29], argTypes := #[43] }) (ty := 23) (g := none) (by kernel_rfl) trivial (pv_callR en17 rfl .auto (ct_Tick hM)) ?_
  refine sq_q0 31 (.move (.tmp 7)) 55 (qv_move rfl) ?_
  refine sq_q0 32 (.move (.tmp 8)) 3 (qv_move rfl) ?_
  refine sq_q0 33 (.indexAddr 55 (.tmp 31) (.tmp 32)) 0 (qv_index un55 sz69 rfl rfl rfl (by omega)) ?_
  refine sq_q0 34 (.fieldAddr 69 (.tmp 33) 3) 0 (qv_field rfl fd69_3) ?_
  refine sq_q0 35 (.load 23 (.tmp 34)) 23 (qv_load rfl (At.of_mem (by repeat first | exact mm | exact List.mem_append_left _ mm | apply List.mem_cons_of_mem | apply List.mem_append_right)) (ldv_el H hx sc23 (get_Rec_39 _) rfl)) ?_
  refine sq_q0 36 (.binOp .sub 23 (.tmp 30) (.tmp 35) 23) 23 (qv_sub rfl rfl (IntWalk.u64_in _ (by constructor <;> omega))) ?_
  refine sq_q0 37 (.fieldAddr 36 (.tmp 3) 2) 0 (qv_field rfl fd36_2) ?_
  refine sq_q0 38 (.load 23 (.tmp 37)) 23 (qv_load rfl .auto (ldv_sca sc23 (get_Bnd_2 _))) ?_
  refine sq_q0 39 (.binOp .geq 23 (.tmp 36) (.tmp 38) 23) 4 (qv_geq (b := false) rfl rfl (by simp; omega)) ?_
  refine sq_q0 40 (.move (.tmp 39)) 4 (qv_move rfl) ?_
  refine sq_q (d := 41) (op := .move (.tmp 0)) (ty := 43) (g := some (11, false)) (by kernel_rfl) ⟨40, by kernel_rfl, rfl⟩ (fun _ h => nomatch h) (qv_move rfl) ?_
  refine sq_p (d := 42) (op := .call { callee := .value (.func 17), args := #[.tmp 41], argTypes := #[43] }) (ty := 23) (g := some (11, false)) (by kernel_rfl) ⟨40, by kernel_rfl, rfl⟩ (pv_callR en17 rfl .auto (ct_Tick hM)) ?_
  refine sq_q (d := 43) (op := .move (.tmp 7)) (ty := 55) (g := some (11, false)) (by kernel_rfl) ⟨40, by kernel_rfl, rfl⟩ (fun _ h => nomatch h) (qv_move rfl) ?_
  refine sq_q (d := 44) (op := .move (.tmp 8)) (ty := 3) (g := some (11, false)) (by kernel_rfl) ⟨40, by kernel_rfl, rfl⟩ (fun _ h => nomatch h) (qv_move rfl) ?_
  refine sq_q (d := 45) (op := .indexAddr 55 (.tmp 43) (.tmp 44)) (ty := 0) (g := some (11, false)) (by kernel_rfl) ⟨40, by kernel_rfl, rfl⟩ (fun _ h => nomatch h) (qv_index un55 sz69 rfl rfl rfl (by omega)) ?_
  refine sq_q (d := 46) (op := .fieldAddr 69 (.tmp 45) 4) (ty := 0) (g := some (11, false)) (by kernel_rfl) ⟨40, by kernel_rfl, rfl⟩ (fun _ h => nomatch h) (qv_field rfl fd69_4) ?_
  refine sq_q (d := 47) (op := .load 23 (.tmp 46)) (ty := 23) (g := some (11, false)) (by kernel_rfl) ⟨40, by kernel_rfl, rfl⟩ (fun _ h => nomatch h) (qv_load rfl (At.of_mem (by repeat first | exact mm | exact List.mem_append_left _ mm | apply List.mem_cons_of_mem | apply List.mem_append_right)) (ldv_el H hx sc23 (get_Rec_40 _) rfl)) ?_
  refine sq_q (d := 48) (op := .binOp .sub 23 (.tmp 42) (.tmp 47) 23) (ty := 23) (g := some (11, false)) (by kernel_rfl) ⟨40, by kernel_rfl, rfl⟩ (fun _ h => nomatch h) (qv_sub rfl rfl (IntWalk.u64_in _ (by constructor <;> omega))) ?_
  refine sq_q (d := 49) (op := .fieldAddr 36 (.tmp 3) 1) (ty := 0) (g := some (11, false)) (by kernel_rfl) ⟨40, by kernel_rfl, rfl⟩ (fun _ h => nomatch h) (qv_field rfl fd36_1) ?_
  refine sq_q (d := 50) (op := .load 23 (.tmp 49)) (ty := 23) (g := some (11, false)) (by kernel_rfl) ⟨40, by kernel_rfl, rfl⟩ (fun _ h => nomatch h) (qv_load rfl .auto (ldv_sca sc23 (get_Bnd_1 _))) ?_
  refine sq_q (d := 51) (op := .binOp .geq 23 (.tmp 48) (.tmp 50) 23) (ty := 4) (g := some (11, false)) (by kernel_rfl) ⟨40, by kernel_rfl, rfl⟩ (fun _ h => nomatch h) (qv_geq (b := false) rfl rfl (by simp; omega)) ?_
  refine sq_q0 52 (.pick (.tmp 40) (.const (.bool true)) (.tmp 51)) 4 (qv_pick_f rfl rfl) ?_
  refine SeqK.nil (fun β => ?_)
  refine gd_tail [] rfl (by kernel_rfl) (by kernel_rfl) ?_
  refine go_nil ?_
  change G _ _ _ _
  refine p_weaken [0, 3, 4, 7, 8, 52] rfl ?_
  refine p_condF (.tmp 52) (by kernel_rfl) rfl ?_
  refine p_skip0 ?_
  change G _ _ _ _
  refine p_weaken [0, 3, 4, 7, 8] rfl ?_
  refine p_plain0 (0 :: 1 :: 2 :: []) ?_
  refine go_q0 27 (.move (.tmp 8)) 3 (qv_move rfl) ?_
  refine go_q0 28 (.binOp .add 3 (.tmp 27) (.const (.int .i64 1)) 3) 3 (qv_add rfl rfl (by first | exact IntWalk.i64_in _ (by omega) | exact IntWalk.i64_in _ (by dsimp only; omega) | rfl)) ?_
  refine go_q0 8 (.assign (.tmp 28)) 3 (qv_assign rfl) ?_
  refine go_nil ?_
  exact ⟨_, ⟨i + 1, by omega, ⟨rfl, ⟨[0, 3, 4, 7, 8], rfl⟩, .auto⟩, rfl⟩, by omega⟩
end Go.Proofs.YtobmcpoejhhemaaGreat
