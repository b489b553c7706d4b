import Derived.Test.YtobmcpoejhhemaaOMpL
namespace Go.Proofs.Ytobmcpoejhhemaa
open Go.E

def boxT (b1 bf : Nat) : Nat × Obj := (b1, .cells #[.map (some bf)] 205 (0, 0))
theorem ct_mapsKeys (bf : Nat) : Ct Try.prog 134 [.map (some bf)].toArray [] (fun v A => ∃ b1, v = .func (.func 173) #[] #[.pointer (some ⟨b1, 0, none⟩)] ∧ A = [boxT b1 bf]) := by
  refine ct_body (rv := [.tmp 2]) [(0, _)] Try.func134 (by kernel_rfl) Try.ntmps134 Try.results134 rfl rfl (fun w0 => ?_)
  refine p_seq0 ?_
  refine p_plain0 (0 :: 1 :: []) ?_
  refine go_s0 (some 1) (.box 205 (.tmp 0)) 0 ?_
  refine os_box1 rfl rfl rfl (fun b1 => ?_)
  refine go_q0 2 (.assign (.const .nilFunc)) 213 (qv_assign rfl) ?_
  refine go_nil ?_
  change G _ _ _ _
  refine p_weaken [1, 2] rfl ?_
  refine p_seq0 ?_
  refine p_plain0 (0 :: 1 :: []) ?_
  refine go_q0 3 (.makeFunc (.func 173) #[] #[.tmp 1]) 212 (qv_makeFunc rfl) ?_
  refine go_q0 2 (.assign (.tmp 3)) 213 (qv_assign rfl) ?_
  refine go_nil ?_
  change G _ _ _ _
  refine p_weaken [2] rfl ?_
  refine p_ret0 ?_
  try dsimp only [thenQ, inBlockQ]
  try rw [if_pos rfl]
  refine ret_left ([boxT b1 bf]) (.inr rfl) (.cons (res_tmp rfl) .nil) .auto ?_
  exact ⟨b1, rfl, rfl⟩
theorem unseen0 (l : List MEnt) : unseen l #[] = l.length := by
  unfold unseen
  rw [List.filter_eq_self.2 fun x _ => by simp]
theorem ct_KeysSeq {g : Rg} {b1 bf c : Nat} {l : List MEnt} {M0 : Mem} (T : List Key → Mem → Prop) (hps : g.ps.size = 1) (hl : MOk l c) (h0 : T [] M0)
    (hr : ∀ (ks : List Key) (x : MEnt) (Mi : Mem), x ∈ l → ks.length < l.length → T ks Mi → RCt Try.prog g [.agg x.key.c] (g.o .ready none :: (g.D, .deferred (some [])) :: Mi) (fun u M' => u = .bool true ∧ ∃ Mi', T (ks ++ [x.key]) Mi' ∧ M' = g.o .ready none :: (g.D, .deferred (some [])) :: Mi')) :
    Ct Try.prog 173 [.func (.yield g.l) #[] #[], .pointer (some ⟨b1, 0, none⟩)].toArray (g.o .ready none :: (g.D, .deferred (some [])) :: (M0 ++ [boxT b1 bf, mapO bf l c]))
      (fun _ M' => ∃ ks Mn, T ks Mn ∧ ks.length ≤ l.length ∧ (∀ k ∈ ks, k.Wf) ∧ M' = g.o .ready none :: (g.D, .deferred (some [])) :: (Mn ++ [boxT b1 bf, mapO bf l c])) := by
  refine ct_body (rv := []) [(0, _), (1, _)] Try.func173 (by kernel_rfl) Try.ntmps173 Try.results173 rfl rfl (fun w0 => ?_)
  refine p_seq0 ?_
  refine p_plain0 (0 :: 1 :: []) ?_
  refine go_q0 4 (.load 205 (.tmp 1)) 205 (qv_load rfl .auto (ldv_sca sc205 (get_one _))) ?_
  refine go_s0 (some 5) (.range 205 (.tmp 4)) 0 ?_
  refine os_rangeT rfl rfl rfl .auto (fun bi => ?_)
  refine go_nil ?_
  change G _ _ _ _
  refine p_weaken [0, 5] rfl ?_
  refine p_block 0 (by kernel_rfl) ?_
  refine p_loopE (by kernel_rfl) (fun s m => ∃ (sn : Array Nat) (ls : Nat) (ks : List Key) (Mi : Mem), (c ≤ ls) ∧ (T ks Mi) ∧ (ks.length + unseen l sn ≤ l.length) ∧ (∀ k ∈ ks, k.Wf) ∧ Ge s ⟨[], [(0, .func (.yield g.l) #[] #[]), (5, .pointer (some ⟨bi, 0, none⟩))], itO bi bf c sn ls :: g.o .ready none :: (g.D, .deferred (some [])) :: (Mi ++ [boxT b1 bf, mapO bf l c])⟩ ∧ m = unseen l sn + 1) ?_ ?_
  · exact ⟨_, ⟨#[], c, [], M0, Nat.le_refl _, h0, by rw [unseen0]; simp, fun _ h => absurd h List.not_mem_nil, ⟨rfl, ⟨[0, 5], rfl⟩, .auto⟩, rfl⟩⟩
  rintro s m ⟨sn, ls, ks, Mi, hls, hT, hkl, hkw, hs, rfl⟩
  refine ge_ok hs ?_
  refine p_seq0 ?_
  refine p_plain0 (0 :: 1 :: []) ?_
  refine go_s0 (some 6) (.next (.tmp 5) false) 0 ?_
  refine os_nextS (fun sn' ls' => itO bi bf c sn' ls' :: g.o .ready none :: (g.D, .deferred (some [])) :: (Mi ++ [boxT b1 bf, mapO bf l c])) rfl rfl .auto .auto hl.lt hls (Nat.le_refl _) (fun sn' ls' => Up.here) (fun mt tv sn' ls' ht0 hmF hmT hls' => ?_)
  refine go_q0 7 (.extract (.tmp 6) 0) 4 (qv_extract (v := .bool mt) rfl ht0) ?_
  refine go_nil ?_
  change G _ _ _ _
  refine p_weaken [0, 5, 7] rfl ?_
  refine p_seq0 ?_
  refine p_cond (.tmp 7) (by kernel_rfl) rfl (fun h7 => ?_) (fun h7 => ?_)
  rotate_left
  · replace h7 := kn h7
    refine p_exit 0 (by kernel_rfl) ?_
    try dsimp only [thenQ, inBlockQ]
    try rw [if_pos rfl]
    refine ret_left (g.o .ready none :: (g.D, .deferred (some [])) :: (Mi ++ [boxT b1 bf, mapO bf l c])) (.inl rfl) .nil .auto ?_
    exact ⟨ks, Mi, hT, by omega, hkw, rfl⟩
  replace h7 := kn h7
  obtain ⟨x, hxl, hxs, hsn', hlc'⟩ := hmT h7
  subst hsn'
  subst hlc'
  have hlt := unseen_lt hxl hxs
  have hkwn : ∀ k ∈ ks ++ [x.key], k.Wf := fun k hk => by
    rcases List.mem_append.1 hk with h | h
    · exact hkw k h
    · rw [List.mem_singleton.1 h]; exact hl.kw x hxl
  refine p_skip0 ?_
  change G _ _ _ _
  refine p_weaken [0, 5] rfl ?_
  refine p_block 1 (by kernel_rfl) ?_
  refine p_seq0 ?_
  refine p_plain0 (0 :: 1 :: 2 :: 3 :: []) ?_
  refine go_q0 8 (.entry (.tmp 5)) 0 (qv_entryT rfl .auto .auto hxl hl.nd) ?_
  refine go_q0 9 (.extract (.tmp 8) 0) 27 (qv_extract (v := .agg x.key.c) rfl rfl) ?_
  refine go_s0 (some 3) (.alloc 27) 0 ?_
  refine os_allocA rfl ze27 (fun b3 => ?_)
  refine go_s0 none (.store 27 (.tmp 3) (.tmp 9)) 0 ?_
  refine os_store rfl rfl sz27 rfl (one_Key _) .auto (Nat.le_of_ble_eq_true rfl) (splw_Key _ _ (siz_Key _)) ?_
  refine go_nil ?_
  change G _ _ _ _
  refine p_weaken [0, 3, 5] rfl ?_
  refine p_seq0 ?_
  refine p_plain0 (0 :: 1 :: 2 :: 3 :: []) ?_
  refine go_q0 10 (.move (.tmp 0)) 93 (qv_move rfl) ?_
  refine go_q0 11 (.load 27 (.tmp 3)) 27 (qv_load rfl .auto (ldv_agg agg27 (extw_Key _) (Nat.le_of_ble_eq_true rfl))) ?_
  refine go_s0 (some 12) (.call { callee := .value (.tmp 10), args := #[.tmp 11], argTypes := #[27] }) 4 ?_
  refine os_yield (g := g) (A := g.o .ready none :: (g.D, .deferred (some [])) :: Mi) rfl rfl rfl hps.symm (Sel.skip (Sel.skip (Sel.cons .here (Sel.cons .here Sel.app)))) (by simp) (hr ks x Mi hxl (by omega) hT) (fun u A' hR => ?_)
  obtain ⟨rfl, Mi', hT', rfl⟩ := hR
  refine go_q0 13 (.unOp .not 4 (.tmp 12)) 4 (qv_not rfl) ?_
  refine go_nil ?_
  change G _ _ _ _
  refine p_weaken [0, 5, 13] rfl ?_
  refine p_condF (.tmp 13) (by kernel_rfl) rfl ?_
  refine p_skip0 ?_
  exact ⟨_, ⟨sn.push x.born, _, ks ++ [x.key], Mi', hls', hT', by rw [List.length_append]; simp only [List.length_cons, List.length_nil]; omega, hkwn, ⟨rfl, ⟨[0, 5], rfl⟩, .auto⟩, rfl⟩, by omega⟩
def boxK (bv : Nat) (p : Option Addr) (n c : Nat) : Nat × Obj := (bv, .cells #[.slice p n c] 86 (0, 0))
def appK (b2 : Nat) (ks : List Key) (Mi : Mem) : Prop := ∃ q cq A, OwnL eKey 27 q cq ks A ∧ Mi = boxK b2 q ks.length cq :: A
theorem perm_app' {α : Type} (A : List α) (a g b d c : α) : (A ++ [a, g, b, d, c]).Perm (g :: ((d :: c :: A) ++ [a, b])) := by
  classical
  exact List.perm_iff_count.2 fun x => by simp only [List.count_append, List.count_cons, List.count_nil]; omega
theorem perm_ce' {α : Type} (a : α) (l : List α) : (a :: l).Perm (l ++ [a]) := List.perm_append_comm (l₁ := [a])
theorem ct_AppendKeys {b1 bf c : Nat} {l : List MEnt} (hl : MOk l c) (hm : l.length ≤ 10000) :
    Ct Try.prog 203 [.slice none 0 0, .func (.func 173) #[] #[.pointer (some ⟨b1, 0, none⟩)]].toArray [boxT b1 bf, mapO bf l c] (fun v M' => ∃ ks q cq A, ks.length ≤ l.length ∧ (∀ k ∈ ks, k.Wf) ∧ v = .slice q ks.length cq ∧ OwnL eKey 27 q cq ks A ∧ M' = A ++ [boxT b1 bf, mapO bf l c]) := by
  refine ct_body (rv := [.tmp 4]) [(0, _), (1, _)] Try.func203 (by kernel_rfl) Try.ntmps203 Try.results203 rfl rfl (fun w0 => ?_)
  refine p_seq0 ?_
  refine p_plain0 (0 :: 1 :: []) ?_
  refine go_s0 (some 2) (.box 86 (.tmp 0)) 0 ?_
  refine os_box1 rfl rfl rfl (fun b2 => ?_)
  refine go_q0 4 (.assign (.const (.slice none 0 0))) 86 (qv_assign rfl) ?_
  refine go_nil ?_
  change G _ _ _ _
  refine p_weaken [1, 2, 4] rfl ?_
  refine p_seq0 ?_
  refine p_seq0 ?_
  refine p_plain0 (0 :: []) ?_
  refine go_q0 6 (.move (.tmp 1)) 213 (qv_move rfl) ?_
  refine go_nil ?_
  change G _ _ _ _
  refine p_weaken [2, 4, 6] rfl ?_
  refine p_block 0 (by kernel_rfl) ?_
  refine p_range (gop := .tmp 6) (ps := #[7]) (A := ([boxK b2 none 0 0] ++ [boxT b1 bf, mapO bf l c])) (by kernel_rfl) rfl rfl en173 (Sel.all : Sel ([boxK b2 none 0 0] ++ [boxT b1 bf, mapO bf l c]) _ _) (fun g hps hga hgb hsz hfr => ?_)
  have hfr := hfr.pickT [2] rfl
  have hround : ∀ (ks : List Key) (x : MEnt) (Mi : Mem), x ∈ l → ks.length < l.length → appK b2 ks Mi → RCt Try.prog g [.agg x.key.c] (g.o .ready none :: (g.D, .deferred (some [])) :: Mi) (fun u M' => u = .bool true ∧ ∃ Mi', appK b2 (ks ++ [x.key]) Mi' ∧ M' = g.o .ready none :: (g.D, .deferred (some [])) :: Mi') := by
    intro ks x Mi hx hkl hT
    obtain ⟨q, cq, A, hO, rfl⟩ := hT
    refine rct_of hps hsz rfl hfr (fun w0 => ?_)
    rw [hga, hgb]
    refine p_plain0 (0 :: 1 :: []) ?_
    refine go_s0 (some 5) (.alloc 27) 0 ?_
    refine os_allocA rfl ze27 (fun b5 => ?_)
    refine go_s0 none (.store 27 (.tmp 5) (.tmp 7)) 0 ?_
    refine os_store rfl rfl sz27 rfl (one_Key _) .auto (Nat.le_of_ble_eq_true rfl) (splw_Key _ _ (siz_Key _)) ?_
    refine go_nil ?_
    refine ⟨rfl, _, List.Perm.swap _ _ _, ?_⟩
    refine p_block 1 (by kernel_rfl) ?_
    refine p_plain0 (0 :: 1 :: 2 :: 3 :: 4 :: []) ?_
    refine go_q0 8 (.load 86 (.tmp 2)) 86 (qv_load rfl .auto (ldv_sca sc86 (get_one _))) ?_
    refine go_q0 9 (.load 27 (.tmp 5)) 27 (qv_load rfl .auto (ldv_agg agg27 (extw_Key _) (Nat.le_of_ble_eq_true rfl))) ?_
    refine go_s0 (some 10) (.buildSlice 86 1 #[(0, .tmp 9)]) 86 ?_
    refine os_buildSlice (Nat.le_of_ble_eq_true rfl) rfl (bls86_1 _) (fun b10 => ?_)
    refine go_s0 (some 11) (.call { callee := .builtin .append, args := #[.tmp 8, .tmp 10], argTypes := #[86, 86] }) 86 ?_
    refine os_appendK (E := eKey) (l := ks) (l2 := [x.key]) rfl el86 rfl rfl rfl rfl (hO) .auto .auto (Go.E.holds_one _) (one_Key) (by simp [maxLen] <;> omega) (by simp <;> omega) (fun p11 c11 A11 h11 => ?_)
    refine go_s0 none (.store 86 (.tmp 2) (.tmp 11)) 0 ?_
    refine os_store1 rfl rfl sz86 rfl rfl .auto (Nat.le_of_ble_eq_true rfl) (set_one _ _) ?_
    refine go_nil ?_
    exact ⟨(g.D, _) :: (b2, _) :: A11, [_, _], perm_app' _ _ _ _ _ _, rfl, _, ⟨p11, c11, A11, h11, rfl⟩, rfl⟩
  refine (ct_KeysSeq (appK b2) (by rw [hps]; rfl) hl ⟨none, 0, [], OwnL.nil, rfl⟩ hround).mono ?_
  rintro _ M' ⟨ks, Mn, ⟨q, cq, A, hO, rfl⟩, hkl, hkw, rfl⟩
  · refine ⟨_, _, _, rfl, by decide, ?_⟩
    dsimp only [aftQ]
    change G _ _ _ _
    refine p_weaken [2, 4] rfl ?_
    refine p_seq0 ?_
    refine p_plain0 (0 :: 1 :: []) ?_
    refine go_q0 12 (.load 86 (.tmp 2)) 86 (qv_load rfl .auto (ldv_sca sc86 (get_one _))) ?_
    refine go_q0 4 (.assign (.tmp 12)) 86 (qv_assign rfl) ?_
    refine go_nil ?_
    change G _ _ _ _
    refine p_weaken [4] rfl ?_
    refine p_ret0 ?_
    try dsimp only [thenQ, inBlockQ]
    try rw [if_pos rfl]
    refine ret_mark (A ++ [boxT b1 bf, mapO bf l c]) (.inr rfl) ⟨_, _, List.Perm.refl _, by rw [List.append_nil]; exact perm_ce' _ _, (.cons (res_tmp rfl) .nil)⟩ ?_
    exact ⟨ks, q, cq, A, hkl, hkw, rfl, hO, rfl⟩
theorem ct_CollectK {b1 bf c : Nat} {l : List MEnt} (hl : MOk l c) (hm : l.length ≤ 10000) :
    Ct Try.prog 172 [.func (.func 173) #[] #[.pointer (some ⟨b1, 0, none⟩)]].toArray [boxT b1 bf, mapO bf l c] (fun v M' => ∃ ks q cq A, ks.length ≤ l.length ∧ (∀ k ∈ ks, k.Wf) ∧ v = .slice q ks.length cq ∧ OwnL eKey 27 q cq ks A ∧ M' = A ++ [boxT b1 bf, mapO bf l c]) := by
  refine ct_body (rv := [.tmp 2]) [(0, _)] Try.func172 (by kernel_rfl) Try.ntmps172 Try.results172 rfl rfl (fun w0 => ?_)
  refine p_seq0 ?_
  refine p_plain0 (0 :: []) ?_
  refine go_q0 2 (.assign (.const (.slice none 0 0))) 86 (qv_assign rfl) ?_
  refine go_nil ?_
  change G _ _ _ _
  refine p_seq0 ?_
  refine p_plain0 (0 :: 1 :: 2 :: []) ?_
  refine go_q0 3 (.move (.tmp 0)) 213 (qv_move rfl) ?_
  refine go_s0 (some 4) (.call { callee := .value (.func 203), args := #[.const (.slice none 0 0), .tmp 3], argTypes := #[86, 213] }) 86 ?_
  refine os_call (Nat.le_of_ble_eq_true rfl) en203 rfl .auto (ct_AppendKeys hl hm (b1 := b1) (bf := bf)) ?_
  rintro v4 A4 ⟨ks, q, cq, A, hkl, hkw, rfl, hO, rfl⟩
  try dsimp only [List.nil_append, List.cons_append]
  refine go_q0 2 (.assign (.tmp 4)) 86 (qv_assign rfl) ?_
  refine go_nil ?_
  change G _ _ _ _
  refine p_weaken [2] rfl ?_
  refine p_ret0 ?_
  try dsimp only [thenQ, inBlockQ]
  try rw [if_pos rfl]
  refine ret_left (A ++ [boxT b1 bf, mapO bf l c]) (.inr rfl) (.cons (res_tmp rfl) .nil) .auto ?_
  exact ⟨ks, q, cq, A, hkl, hkw, rfl, hO, rfl⟩
theorem ct_SortedK {b1 bf c : Nat} {l : List MEnt} (hl : MOk l c) (hm : l.length ≤ 10000) :
    Ct Try.prog 133 [.func (.func 173) #[] #[.pointer (some ⟨b1, 0, none⟩)], .func (.func 121) #[] #[]].toArray [boxT b1 bf, mapO bf l c] (fun v M' => ∃ ks q cq A, ks.length ≤ l.length ∧ (∀ k ∈ ks, k.Wf) ∧ v = .slice q ks.length cq ∧ OwnL eKey 27 q cq ks A ∧ M' = A ++ [boxT b1 bf, mapO bf l c]) := by
  refine ct_body (rv := [.tmp 4]) [(0, _), (1, _)] Try.func133 (by kernel_rfl) Try.ntmps133 Try.results133 rfl rfl (fun w0 => ?_)
  refine p_seq0 ?_
  refine p_plain0 (0 :: []) ?_
  refine go_q0 4 (.assign (.const (.slice none 0 0))) 86 (qv_assign rfl) ?_
  refine go_nil ?_
  change G _ _ _ _
  refine p_seq0 ?_
  refine p_plain0 (0 :: 1 :: 2 :: []) ?_
  refine go_q0 6 (.move (.tmp 0)) 213 (qv_move rfl) ?_
  refine go_s0 (some 7) (.call { callee := .value (.func 172), args := #[.tmp 6], argTypes := #[213] }) 86 ?_
  refine os_call (Nat.le_of_ble_eq_true rfl) en172 rfl .auto (ct_CollectK hl hm (b1 := b1) (bf := bf)) ?_
  rintro v7 A7 ⟨ks, q, cq, A, hkl, hkw, rfl, hO, rfl⟩
  try dsimp only [List.nil_append, List.cons_append]
  refine go_q0 5 (.assign (.tmp 7)) 86 (qv_assign rfl) ?_
  refine go_nil ?_
  change G _ _ _ _
  refine p_weaken [1, 4, 5] rfl ?_
  refine p_seq0 ?_
  refine p_plain0 (0 :: 1 :: 2 :: []) ?_
  refine go_q0 8 (.move (.tmp 5)) 86 (qv_move rfl) ?_
  refine go_q0 9 (.move (.tmp 1)) 202 (qv_move rfl) ?_
  refine go_s0 (some 10) (.call { callee := .value (.func 120), args := #[.tmp 8, .tmp 9], argTypes := #[86, 202] }) 0 ?_
  refine os_call (Nat.le_of_ble_eq_true rfl) en120 rfl (by rw [List.append_nil]; exact Sel.app) (pu_SortO hO hkw (by omega)) ?_
  rintro v10 A10 ⟨rfl, l', hp, hs', hO'⟩
  try dsimp only [List.nil_append, List.cons_append]
  refine go_nil ?_
  change G _ _ _ _
  refine p_weaken [4, 5] rfl ?_
  refine p_seq0 ?_
  refine p_plain0 (0 :: 1 :: []) ?_
  refine go_q0 11 (.move (.tmp 5)) 86 (qv_move rfl) ?_
  refine go_q0 4 (.assign (.tmp 11)) 86 (qv_assign rfl) ?_
  refine go_nil ?_
  change G _ _ _ _
  refine p_weaken [4] rfl ?_
  refine p_ret0 ?_
  try dsimp only [thenQ, inBlockQ]
  try rw [if_pos rfl]
  refine ret_left (A10 ++ [boxT b1 bf, mapO bf l c]) (.inr rfl) (.cons (res_tmp rfl) .nil) .auto ?_
  exact ⟨l', q, cq, A10, by rw [hp.length_eq]; exact hkl, fun k hk => hkw k (hp.mem_iff.1 hk), by rw [hp.length_eq]; rfl, hO', rfl⟩
theorem ct_MKeys {bm : Nat} {S : MS} {M : Mem} (hM : ModM bm S M) (hm : S.fw.length ≤ 10000) :
    Ct Try.prog 75 [.pointer (some ⟨bm, 0, none⟩)].toArray M (fun v M' => ∃ ks q cq A, ks.length ≤ S.fw.length ∧ (∀ k ∈ ks, k.Wf) ∧ v = .slice q ks.length cq ∧ OwnL eKey 27 q cq ks A ∧ M' = A ++ M) := by
  have hM0 := hM
  obtain ⟨bf, bc, bl, pe, ce, pl, cl, Ae, Al, Ar, hI, hE, hL, hA, rfl⟩ := hM
  refine ct_body (rv := [.tmp 2]) [(0, _)] Try.func75 (by kernel_rfl) Try.ntmps75 Try.results75 rfl rfl (fun w0 => ?_)
  refine p_seq0 ?_
  refine p_plain0 (0 :: []) ?_
  refine go_q0 2 (.assign (.const (.slice none 0 0))) 86 (qv_assign rfl) ?_
  refine go_nil ?_
  change G _ _ _ _
  refine p_seq0 ?_
  refine p_seq0 ?_
  refine p_plain0 (0 :: 1 :: []) ?_
  refine go_q0 3 (.move (.tmp 0)) 131 (qv_move rfl) ?_
  refine go_q0 4 (.binOp .eql 131 (.tmp 3) (.const (.pointer none)) 131) 4 (qv_eqlP un131 rfl) ?_
  refine go_nil ?_
  change G _ _ _ _
  refine p_weaken [0, 2, 4] rfl ?_
  refine p_condF (.tmp 4) (by kernel_rfl) rfl ?_
  refine p_skip0 ?_
  change G _ _ _ _
  refine p_weaken [0, 2] rfl ?_
  refine p_seq0 ?_
  refine p_plain0 (0 :: 1 :: 2 :: 3 :: 4 :: 5 :: 6 :: []) ?_
  refine go_q0 5 (.move (.tmp 0)) 131 (qv_move rfl) ?_
  refine go_q0 6 (.nilCheck (.tmp 5)) 0 (qv_nilCheck rfl) ?_
  refine go_q0 7 (.fieldAddr 207 (.tmp 6) 0) 0 (qv_field rfl fd207_0) ?_
  refine go_q0 8 (.load 205 (.tmp 7)) 205 (qv_load rfl .auto (ldv_sca sc205 (get_Mod_0 _))) ?_
  refine go_s0 (some 9) (.call { callee := .value (.func 134), args := #[.tmp 8], argTypes := #[205] }) 213 ?_
  refine os_call (Nat.le_of_ble_eq_true rfl) en134 rfl .auto (ct_mapsKeys bf) ?_
  rintro v9 A9 ⟨b1, rfl, rfl⟩
  try dsimp only [List.nil_append, List.cons_append]
  refine go_s0 (some 10) (.call { callee := .value (.func 133), args := #[.tmp 9, .func 121], argTypes := #[213, 202] }) 86 ?_
  refine os_call (Nat.le_of_ble_eq_true rfl) en133 rfl (Sel.cons .here (Sel.cons (.next .here) .nil)) (ct_SortedK hI.f hm (b1 := b1) (bf := bf)) ?_
  rintro v10 A10 ⟨ks, q, cq, A, hkl, hkw, rfl, hO, rfl⟩
  try dsimp only [List.nil_append, List.cons_append]
  refine go_q0 2 (.assign (.tmp 10)) 86 (qv_assign rfl) ?_
  refine go_nil ?_
  change G _ _ _ _
  refine p_weaken [2] rfl ?_
  refine p_ret0 ?_
  try dsimp only [thenQ, inBlockQ]
  try rw [if_pos rfl]
  refine ret_left (A ++ (modO bm bf bc bl pe S.es.length ce pl S.line.length cl S.first S.boot :: mapO bf S.fw S.fc :: mapO bc S.ca S.cc :: mapO bl S.lo S.lc :: (Ae ++ (Al ++ Ar)))) (.inr rfl) (.cons (res_tmp rfl) .nil) .auto ?_
  exact ⟨ks, q, cq, A, hkl, hkw, rfl, hO, rfl⟩
end Go.Proofs.Ytobmcpoejhhemaa
