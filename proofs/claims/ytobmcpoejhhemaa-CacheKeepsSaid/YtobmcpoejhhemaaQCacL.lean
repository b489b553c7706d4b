import Derived.Test.YtobmcpoejhhemaaQCacK
namespace Go.Proofs.Ytobmcpoejhhemaa
open Go.E

/-- The captured variable that holds a slice of records. -/
def boxR (bv : Nat) (p : Option Addr) (n c : Nat) : Nat × Obj := (bv, .cells #[.slice p n c] 102 (0, 0))
theorem ct_Values1 {g : Rg} {bv c : Nat} {p : Option Addr} {l : List Rec} {Ml M0 : Mem} (T : Nat → Mem → Prop) (hps : g.ps.size = 1) (hl : Lst eRec p l Ml) (hm : l.length ≤ 1000000) (h0 : T 0 M0)
    (hr : ∀ (i : Nat) (x : Rec) (Mi : Mem), l[i]? = some x → T i Mi → RCt Try.prog g [.agg x.c] (g.o .ready none :: (g.D, .deferred (some [])) :: Mi) (fun u M' => u = .bool true ∧ ∃ Mi', T (i + 1) Mi' ∧ M' = g.o .ready none :: (g.D, .deferred (some [])) :: Mi')) :
    Ct Try.prog 155 [.func (.yield g.l) #[] #[], .pointer (some ⟨bv, 0, none⟩)].toArray (g.o .ready none :: (g.D, .deferred (some [])) :: (M0 ++ (boxR bv p l.length c :: Ml)))
      (fun _ M' => ∃ Mn, T l.length Mn ∧ M' = g.o .ready none :: (g.D, .deferred (some [])) :: (Mn ++ (boxR bv p l.length c :: Ml))) := by
  refine ct_body (rv := []) [(0, _), (1, _)] Try.func155 (by kernel_rfl) Try.ntmps155 Try.results155 rfl rfl (fun w0 => ?_)
  refine p_seq0 ?_
  refine p_plain0 (0 :: 1 :: 2 :: []) ?_
  refine go_q0 5 (.load 102 (.tmp 1)) 102 (qv_load rfl .auto (ldv_sca sc102 (get_one _))) ?_
  refine go_q0 6 (.call { callee := .builtin .len, args := #[.tmp 5], argTypes := #[102] }) 3 (qv_lenS un102 rfl) ?_
  refine go_q0 7 (.move (.const (.int .i64 0))) 3 (qv_move rfl) ?_
  refine go_nil ?_
  change G _ _ _ _
  refine p_weaken [0, 5, 6, 7] rfl ?_
  refine p_block 0 (by kernel_rfl) ?_
  refine p_loopE (by kernel_rfl) (fun s m => ∃ (i : Nat) (Mi : Mem), (i ≤ l.length) ∧ (T i Mi) ∧ Ge s ⟨[], [(0, .func (.yield g.l) #[] #[]), (5, .slice p l.length c), (6, .int .i64 l.length), (7, .int .i64 i)], g.o .ready none :: (g.D, .deferred (some [])) :: (Mi ++ (boxR bv p l.length c :: Ml))⟩ ∧ m = l.length + 1 - i) ?_ ?_
  · exact ⟨_, ⟨0, M0, by omega, h0, ⟨rfl, ⟨[0, 5, 6, 7], rfl⟩, .auto⟩, rfl⟩⟩
  rintro s m ⟨i, Mi, hi, hT, hs, rfl⟩
  refine ge_ok hs ?_
  refine p_seq0 ?_
  refine p_plain0 (0 :: []) ?_
  refine go_q0 8 (.binOp .lss 3 (.tmp 7) (.tmp 6) 3) 0 (qv_lss rfl rfl rfl) ?_
  refine go_nil ?_
  change G _ _ _ _
  refine p_seq0 ?_
  refine p_cond (.tmp 8) (by kernel_rfl) rfl (fun h8 => ?_) (fun h8 => ?_)
  rotate_left
  · replace h8 := kn h8
    refine p_exit 0 (by kernel_rfl) ?_
    try dsimp only [thenQ, inBlockQ]
    try rw [if_pos rfl]
    have hie : i = l.length := by omega
    subst hie
    refine ret_left _ (.inl rfl) .nil .refl ?_
    exact ⟨Mi, hT, rfl⟩
  replace h8 := kn h8
  refine p_skip0 ?_
  change G _ _ _ _
  refine p_weaken [0, 5, 6, 7] rfl ?_
  refine p_seq0 ?_
  refine p_block 1 (by kernel_rfl) ?_
  refine p_seq0 ?_
  obtain ⟨b, o, cu, e, f, hpe, mm, H⟩ := hl.at_ (i := i) (by omega)
  subst hpe
  obtain ⟨x, hx⟩ : ∃ x, l[i]? = some x := ⟨_, List.getElem?_eq_getElem (by omega)⟩
  refine p_plain0 (0 :: 1 :: 2 :: 3 :: []) ?_
  refine go_q0 9 (.indexAddr 102 (.tmp 5) (.tmp 7)) 0 (qv_index un102 sz35 rfl rfl rfl (by omega)) ?_
  refine go_q0 10 (.load 35 (.tmp 9)) 35 (qv_load rfl (At.of_mem (by repeat first | exact mm | exact List.mem_append_left _ mm | apply List.mem_cons_of_mem | apply List.mem_append_right)) (ldv_els H hx (by decide) agg35 rfl)) ?_
  refine go_s0 (some 4) (.alloc 35) 0 ?_
  refine os_allocA rfl ze35 (fun b4 => ?_)
  refine go_s0 none (.store 35 (.tmp 4) (.tmp 10)) 0 ?_
  refine os_store rfl rfl sz35 rfl (one_Rec _) .auto (Nat.le_of_ble_eq_true rfl) (splw_Rec _ _ (siz_Rec _)) ?_
  refine go_nil ?_
  change G _ _ _ _
  refine p_weaken [0, 4, 5, 6, 7] rfl ?_
  refine p_seq0 ?_
  refine p_plain0 (0 :: 1 :: 2 :: 3 :: []) ?_
  refine go_q0 11 (.move (.tmp 0)) 234 (qv_move rfl) ?_
  refine go_q0 12 (.load 35 (.tmp 4)) 35 (qv_load rfl .auto (ldv_agg agg35 (extw_Rec _) (Nat.le_of_ble_eq_true rfl))) ?_
  refine go_s0 (some 13) (.call { callee := .value (.tmp 11), args := #[.tmp 12], argTypes := #[35] }) 4 ?_
  refine os_yield (g := g) (A := g.o .ready none :: (g.D, .deferred (some [])) :: Mi) rfl rfl rfl hps.symm (Sel.skip (Sel.cons .here (Sel.cons .here Sel.app))) (by simp) (hr i x Mi hx hT) (fun u A' hR => ?_)
  obtain ⟨rfl, Mi', hT', rfl⟩ := hR
  refine go_q0 14 (.unOp .not 4 (.tmp 13)) 4 (qv_not rfl) ?_
  refine go_nil ?_
  change G _ _ _ _
  refine p_weaken [0, 5, 6, 7, 14] rfl ?_
  refine p_condF (.tmp 14) (by kernel_rfl) rfl ?_
  refine p_skip0 ?_
  change G _ _ _ _
  refine p_weaken [0, 5, 6, 7] rfl ?_
  refine p_plain0 (0 :: 1 :: []) ?_
  refine go_q0 15 (.binOp .add 3 (.tmp 7) (.const (.int .i64 1)) 3) 3 (qv_add rfl rfl (by first | exact IntWalk.i64_in _ (by omega) | exact IntWalk.i64_in _ (by dsimp only; omega) | rfl)) ?_
  refine go_q0 7 (.move (.tmp 15)) 3 (qv_move rfl) ?_
  refine go_nil ?_
  exact ⟨_, ⟨i + 1, Mi', by omega, hT', ⟨rfl, ⟨[0, 5, 6, 7], rfl⟩, .auto⟩, rfl⟩, by omega⟩
def appT (b2 : Nat) (l : List Rec) (i : Nat) (Mi : Mem) : Prop := ∃ q cq A, OwnL eRec 35 q cq (l.take i) A ∧ Mi = boxR b2 q (l.take i).length cq :: A
theorem perm_app {α : Type} (A : List α) (a g b d c : α) : (A ++ [a, g, b, d, c]).Perm (g :: ((d :: c :: A) ++ [a, b])) := by
  classical
  exact List.perm_iff_count.2 fun x => by simp only [List.count_append, List.count_cons, List.count_nil]; omega
theorem perm_cons_end {α : Type} (a : α) (l : List α) : (a :: l).Perm (l ++ [a]) := List.perm_append_comm (l₁ := [a])
theorem ct_AppendSeq {bv c : Nat} {p : Option Addr} {l : List Rec} {Ml : Mem} (hl : Lst eRec p l Ml) (hm : l.length ≤ 10000) :
    Ct Try.prog 186 [.slice none 0 0, .func (.func 155) #[] #[.pointer (some ⟨bv, 0, none⟩)]].toArray (boxR bv p l.length c :: Ml) (fun v M' => ∃ q cq A, v = .slice q l.length cq ∧ OwnL eRec 35 q cq l A ∧ M' = A ++ (boxR bv p l.length c :: Ml)) := by
  refine ct_body (rv := [.tmp 4]) [(0, _), (1, _)] Try.func186 (by kernel_rfl) Try.ntmps186 Try.results186 rfl rfl (fun w0 => ?_)
  refine p_seq0 ?_
  refine p_plain0 (0 :: 1 :: []) ?_
  refine go_s0 (some 2) (.box 102 (.tmp 0)) 0 ?_
  refine os_box1 rfl rfl rfl (fun b2 => ?_)
  refine go_q0 4 (.assign (.const (.slice none 0 0))) 102 (qv_assign rfl) ?_
  refine go_nil ?_
  change G _ _ _ _
  refine p_weaken [1, 2, 4] rfl ?_
  refine p_seq0 ?_
  refine p_seq0 ?_
  refine p_plain0 (0 :: []) ?_
  refine go_q0 6 (.move (.tmp 1)) 191 (qv_move rfl) ?_
  refine go_nil ?_
  change G _ _ _ _
  refine p_weaken [2, 4, 6] rfl ?_
  refine p_block 0 (by kernel_rfl) ?_
  refine p_range (gop := .tmp 6) (ps := #[7]) (A := ([boxR b2 none 0 0] ++ (boxR bv p l.length c :: Ml))) (by kernel_rfl) rfl rfl en155 (Sel.all : Sel ([boxR b2 none 0 0] ++ (boxR bv p l.length c :: Ml)) _ _) (fun g hps hga hgb hsz hfr => ?_)
  have hfr := hfr.pickT [2] rfl
  have hround : ∀ (i : Nat) (x : Rec) (Mi : Mem), l[i]? = some x → appT b2 l i Mi → RCt Try.prog g [.agg x.c] (g.o .ready none :: (g.D, .deferred (some [])) :: Mi) (fun u M' => u = .bool true ∧ ∃ Mi', appT b2 l (i + 1) Mi' ∧ M' = g.o .ready none :: (g.D, .deferred (some [])) :: Mi') := by
    intro i x Mi hx hT
    obtain ⟨q, cq, A, hO, rfl⟩ := hT
    have hlt : (l.take i).length ≤ 10000 := Nat.le_trans (by simp; omega) hm
    refine rct_of hps hsz rfl hfr (fun w0 => ?_)
    rw [hga, hgb]
    refine p_plain0 (0 :: 1 :: []) ?_
    refine go_s0 (some 5) (.alloc 35) 0 ?_
    refine os_allocA rfl ze35 (fun b5 => ?_)
    refine go_s0 none (.store 35 (.tmp 5) (.tmp 7)) 0 ?_
    refine os_store rfl rfl sz35 rfl (one_Rec _) .auto (Nat.le_of_ble_eq_true rfl) (splw_Rec _ _ (siz_Rec _)) ?_
    refine go_nil ?_
    refine ⟨rfl, _, List.Perm.swap _ _ _, ?_⟩
    refine p_block 1 (by kernel_rfl) ?_
    refine p_plain0 (0 :: 1 :: 2 :: 3 :: 4 :: []) ?_
    refine go_q0 8 (.load 102 (.tmp 2)) 102 (qv_load rfl .auto (ldv_sca sc102 (get_one _))) ?_
    refine go_q0 9 (.load 35 (.tmp 5)) 35 (qv_load rfl .auto (ldv_agg agg35 (extw_Rec _) (Nat.le_of_ble_eq_true rfl))) ?_
    refine go_s0 (some 10) (.buildSlice 102 1 #[(0, .tmp 9)]) 102 ?_
    refine os_buildSlice (Nat.le_of_ble_eq_true rfl) rfl (bls102_1 _) (fun b10 => ?_)
    refine go_s0 (some 11) (.call { callee := .builtin .append, args := #[.tmp 8, .tmp 10], argTypes := #[102, 102] }) 102 ?_
    refine os_appendK (E := eRec) (l := l.take i) (l2 := [x]) rfl el102 rfl rfl rfl rfl (hO) .auto .auto (Go.E.holds_one _) (one_Rec) (by simp [maxLen] <;> omega) (by simp <;> omega) (fun p11 c11 A11 h11 => ?_)
    refine go_s0 none (.store 102 (.tmp 2) (.tmp 11)) 0 ?_
    refine os_store1 rfl rfl sz102 rfl rfl .auto (Nat.le_of_ble_eq_true rfl) (set_one _ _) ?_
    refine go_nil ?_
    exact ⟨(g.D, _) :: (b2, _) :: A11, [_, _], perm_app _ _ _ _ _ _, rfl, _, ⟨p11, c11, A11, by rw [List.take_add_one, hx]; exact h11, by rw [List.take_add_one, hx]; rfl⟩, rfl⟩
  refine (ct_Values1 (appT b2 l) (by rw [hps]; rfl) hl (by omega) ⟨none, 0, [], OwnL.nil, rfl⟩ hround).mono ?_
  rintro _ M' ⟨Mn, ⟨q, cq, A, hO, rfl⟩, rfl⟩
  · refine ⟨_, _, _, rfl, by decide, ?_⟩
    dsimp only [aftQ]
    change G _ _ _ _
    refine p_weaken [2, 4] rfl ?_
    refine p_seq0 ?_
    refine p_plain0 (0 :: 1 :: []) ?_
    refine go_q0 12 (.load 102 (.tmp 2)) 102 (qv_load rfl .auto (ldv_sca sc102 (get_one _))) ?_
    refine go_q0 4 (.assign (.tmp 12)) 102 (qv_assign rfl) ?_
    refine go_nil ?_
    change G _ _ _ _
    refine p_weaken [4] rfl ?_
    refine p_ret0 ?_
    try dsimp only [thenQ, inBlockQ]
    try rw [if_pos rfl]
    refine ret_mark (A ++ (boxR bv p l.length c :: Ml)) (.inr rfl) ⟨_, _, List.Perm.refl _, by rw [List.append_nil]; exact perm_cons_end _ _, (.cons (res_tmp rfl) .nil)⟩ ?_
    rw [List.take_length] at hO
    exact ⟨q, cq, A, by rw [List.take_length]; rfl, hO, rfl⟩
end Go.Proofs.Ytobmcpoejhhemaa
