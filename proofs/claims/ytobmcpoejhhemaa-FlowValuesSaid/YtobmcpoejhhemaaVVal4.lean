import Derived.Test.YtobmcpoejhhemaaVVal3
import Derived.Laws.StructEq
namespace Go.Proofs.Ytobmcpoejhhemaa
open Go.E

theorem eqv_str {P : Program} {t : TypeId} (h : P.underlying t = some .string) (d : Nat) (a : ByteArray) : ∀ w, (Op.equalIn (d + 1) t (.string a) (.string a)).run P w = .ok true w := fun w => by
  rw [run_equalIn_string w d t a a h, beq_self_eq_true]
theorem fl_rv : (Try.prog.fieldsOf 165).toList = [(Try.prog.fieldsOf 165).toList.getD 0 default, (Try.prog.fieldsOf 165).toList.getD 1 default] := by kernel_rfl
theorem eqv_rv (d : Nat) (s : RV) : ∀ w, (Op.equalIn (d + 1 + 1) 165 (.agg s.c) (.agg s.c)).run Try.prog w = .ok true w := by
  intro w
  rw [run_equalIn_struct (P := Try.prog) w (d + 1) 165 s.c s.c (by kernel_rfl) (by kernel_rfl), fl_rv]
  refine ((eqf_cons (P := Try.prog) (xs := s.c) (ys := s.c) (f := (Try.prog.fieldsOf 165).toList.getD 0 default) (ft := 30) (off := 0) (by kernel_rfl) (by kernel_rfl) (by kernel_rfl) (fun w => by kernel_rfl) (fun w => by kernel_rfl) (eqv_int (k := .u64) eu30 (d + 0) s.n s.n) (eqf_cons (P := Try.prog) (xs := s.c) (ys := s.c) (f := (Try.prog.fieldsOf 165).toList.getD 1 default) (ft := 9) (off := 1) (by kernel_rfl) (by kernel_rfl) (by kernel_rfl) (fun w => by kernel_rfl) (fun w => by kernel_rfl) (eqv_str un9 (d + 0) (strOfNums s.s)) (eqf_nil))) w).trans ?_
  simp
theorem qv_neq_rv {fr : Fr} {M : Mem} {ty u : TypeId} {x y : Operand} {s : RV} (hx : evo fr x = some (.agg s.c)) (hy : evo fr y = some (.agg s.c)) : QV Try.prog (.binOp .neq 165 x y u) ty fr M (.bool false) := qv_neqA (k := 1) hx hy (by kernel_rfl) (fun d => eqv_rv d s) (Nat.le_of_ble_eq_true rfl)
theorem ze165 : Zer Try.prog 165 (.agg (⟨0, .string (strOfNums [])⟩ : RVal).c) := fun _ => by kernel_rfl
theorem ct_FieldValue {M : Mem} (a : FV) (s : RV) (hn : s.n = a.n) (hm : a.m = s.s.length) (hl : Lst (eI .u8) a.p s.s M) :
    Ct Try.prog 91 [.agg (⟨a.n, .slice a.p a.m a.k⟩ : FVal).c].toArray M (fun v M' => v = .agg s.c ∧ M' = M) := by
  refine ct_body (rv := [.cell 2 165]) [(0, _)] Try.func91 (by kernel_rfl) Try.ntmps91 Try.results91 rfl rfl (fun w0 => ?_)
  refine p_seq0 ?_
  refine p_plain0 (0 :: 1 :: []) ?_
  refine go_s0 (some 1) (.box 76 (.tmp 0)) 0 ?_
  refine os_boxA rfl rfl (fun b1 => ?_)
  refine go_s0 (some 2) (.alloc 165) 0 ?_
  refine os_allocA rfl ze165 (fun b2 => ?_)
  refine go_nil ?_
  change G _ _ _ _
  refine p_weaken [1, 2] rfl ?_
  refine p_seq0 ?_
  refine p_plain0 (0 :: 1 :: 2 :: 3 :: 4 :: 5 :: 6 :: []) ?_
  refine go_q0 3 (.fieldAddr 76 (.tmp 1) 0) 0 (qv_field rfl fd76_0) ?_
  refine go_q0 4 (.load 30 (.tmp 3)) 30 (qv_load rfl .auto (ldv_sca sc30 (get_FVal_0 _))) ?_
  refine go_q0 5 (.fieldAddr 76 (.tmp 1) 1) 0 (qv_field rfl fd76_1) ?_
  refine go_q0 6 (.load 74 (.tmp 5)) 74 (qv_load rfl .auto (ldv_sca sc74 (get_FVal_1 _))) ?_
  refine go_q0 7 (.convert 74 9 (.tmp 6)) 9 (qv_bstr (l := s.s) un74 un5 un9 rfl hm (by first | exact hl | exact hl.tail | exact hl.tail.tail)) ?_
  refine go_q0 8 (.build 165 #[(0, .tmp 4), (1, .tmp 7)]) 165 (qv_build (v := .agg (⟨a.n, .string (strOfNums s.s)⟩ : RVal).c) rfl (fun w => by kernel_rfl)) ?_
  refine go_s0 none (.store 165 (.tmp 2) (.tmp 8)) 0 ?_
  refine os_store rfl rfl sz165 rfl (one_RVal _ rfl) .auto (Nat.le_of_ble_eq_true rfl) (splw_RVal _ _ (siz_RVal _)) ?_
  refine go_nil ?_
  change G _ _ _ _
  refine p_weaken [2] rfl ?_
  refine p_ret0 ?_
  try dsimp only [thenQ, inBlockQ]
  try rw [if_pos rfl]
  refine ret_left (M) (.inr rfl) (.cons (res_cell rfl (At.mem .auto) (ldv_agg agg165 (extw_RVal _) (Nat.le_of_ble_eq_true rfl))) .nil) .auto ?_
  obtain ⟨n, t⟩ := s
  cases hn
  exact ⟨rfl, rfl⟩
theorem ct_SameValues {p q : Option Addr} {c d : Nat} {l : List FV} {x : List RV} {M : Mem} (ha : Lst eFV p l M) (hb : Lst eRV q x M) (hl : l.length ≤ 1000000) (hlen : x.length = l.length)
    (hs : ∀ (i : Nat) (a : FV) (s : RV), l[i]? = some a → x[i]? = some s → s.n = a.n ∧ a.m = s.s.length ∧ Lst (eI .u8) a.p s.s M) :
    Ct Try.prog 32 [.slice p l.length c, .slice q x.length d].toArray M (fun v M' => v = .bool true ∧ M' = M) := by
  have hsm := hs
  refine ct_body (rv := [.tmp 4]) [(0, _), (1, _)] Try.func32 (by kernel_rfl) Try.ntmps32 Try.results32 rfl rfl (fun w0 => ?_)
  refine p_seq0 ?_
  refine p_plain0 (0 :: []) ?_
  refine go_q0 4 (.assign (.const (.bool false))) 4 (qv_assign rfl) ?_
  refine go_nil ?_
  change G _ _ _ _
  refine p_seq0 ?_
  refine p_seq0 ?_
  refine p_plain0 (0 :: 1 :: 2 :: 3 :: 4 :: []) ?_
  refine go_q0 6 (.move (.tmp 0)) 64 (qv_move rfl) ?_
  refine go_q0 7 (.call { callee := .builtin .len, args := #[.tmp 6], argTypes := #[64] }) 3 (qv_lenS un64 rfl) ?_
  refine go_q0 8 (.move (.tmp 1)) 60 (qv_move rfl) ?_
  refine go_q0 9 (.call { callee := .builtin .len, args := #[.tmp 8], argTypes := #[60] }) 3 (qv_lenS un60 rfl) ?_
  refine go_q0 10 (.binOp .neq 3 (.tmp 7) (.tmp 9) 3) 4 (qv_neq (b := false) rfl rfl (by simp; omega)) ?_
  refine go_nil ?_
  change G _ _ _ _
  refine p_weaken [0, 1, 4, 10] rfl ?_
  refine p_condF (.tmp 10) (by kernel_rfl) rfl ?_
  refine p_skip0 ?_
  change G _ _ _ _
  refine p_weaken [0, 1, 4] rfl ?_
  refine p_seq0 ?_
  refine p_seq0 ?_
  refine p_plain0 (0 :: []) ?_
  refine go_q0 5 (.assign (.const (.int .i64 0))) 3 (qv_assign rfl) ?_
  refine go_nil ?_
  change G _ _ _ _
  refine p_block 0 (by kernel_rfl) ?_
  refine p_loopE (by kernel_rfl) (fun s m => ∃ (i : Nat), (i ≤ l.length) ∧ Ge s ⟨[], [(0, .slice p l.length c), (1, .slice q x.length d), (4, .bool false), (5, .int .i64 i)], M⟩ ∧ m = l.length + 1 - i) ?_ ?_
  · exact ⟨_, ⟨0, by omega, ⟨rfl, ⟨[0, 1, 4, 5], rfl⟩, .auto⟩, rfl⟩⟩
  rintro s m ⟨i, hi, hs, rfl⟩
  refine ge_ok hs ?_
  refine p_seq0 ?_
  refine p_seq0 ?_
  refine p_plain0 (0 :: 1 :: 2 :: 3 :: []) ?_
  refine go_q0 11 (.move (.tmp 5)) 3 (qv_move rfl) ?_
  refine go_q0 12 (.move (.tmp 0)) 64 (qv_move rfl) ?_
  refine go_q0 13 (.call { callee := .builtin .len, args := #[.tmp 12], argTypes := #[64] }) 3 (qv_lenS un64 rfl) ?_
  refine go_q0 14 (.binOp .lss 3 (.tmp 11) (.tmp 13) 3) 4 (qv_lss rfl rfl rfl) ?_
  refine go_nil ?_
  change G _ _ _ _
  refine p_weaken [0, 1, 4, 5, 14] rfl ?_
  refine p_cond (.tmp 14) (by kernel_rfl) rfl (fun h14 => ?_) (fun h14 => ?_)
  rotate_left
  · replace h14 := kn h14
    refine p_exit 0 (by kernel_rfl) ?_
    change G _ _ _ _
    refine p_weaken [4] rfl ?_
    refine p_seq0 ?_
    refine p_plain0 (0 :: []) ?_
    refine go_q0 4 (.assign (.const (.bool true))) 4 (qv_assign rfl) ?_
    refine go_nil ?_
    change G _ _ _ _
    refine p_ret0 ?_
    try dsimp only [thenQ, inBlockQ]
    try rw [if_pos rfl]
    refine ret_left (M) (.inr rfl) (.cons (res_tmp rfl) .nil) .auto ?_
    exact ⟨rfl, rfl⟩
  replace h14 := kn h14
  refine p_skip0 ?_
  change G _ _ _ _
  refine p_weaken [0, 1, 4, 5] rfl ?_
  refine p_seq0 ?_
  refine p_block 1 (by kernel_rfl) ?_
  refine p_seq0 ?_
  obtain ⟨x1, y1, cu1, g1, f1, hp1, mm1, H1⟩ := ha.at_ (i := i) (by omega)
  obtain ⟨x2, y2, cu2, g2, f2, hp2, mm2, H2⟩ := hb.at_ (i := i) (by omega)
  subst hp1
  subst hp2
  obtain ⟨a, hy⟩ : ∃ a, l[i]? = some a := ⟨_, List.getElem?_eq_getElem (by omega)⟩
  obtain ⟨t, hz⟩ : ∃ t, x[i]? = some t := ⟨_, List.getElem?_eq_getElem (by omega)⟩
  obtain ⟨e1, e2, e3⟩ := hsm i a t hy hz
  refine p_draw (by kernel_rfl) mixed 10 10 _ (fun _ h => h) (by kernel_rfl) ?_
  refine gd_all (0 :: 1 :: 2 :: 3 :: 4 :: 5 :: 6 :: 7 :: 8 :: 9 :: []) _ rfl (by kernel_rfl) (by decide) (fun _ h => h) rfl ?_
  refine sq_q0 17 (.move (.tmp 0)) 64 (qv_move rfl) ?_
  refine sq_q0 18 (.move (.tmp 5)) 3 (qv_move rfl) ?_
  refine sq_q0 19 (.indexAddr 64 (.tmp 17) (.tmp 18)) 0 (qv_index un64 sz76 rfl rfl rfl (by omega)) ?_
  refine sq_q0 20 (.load 76 (.tmp 19)) 76 (qv_load rfl (At.of_mem (by repeat first | exact mm1 | exact List.mem_append_left _ mm1 | apply List.mem_cons_of_mem | apply List.mem_append_right)) (ldv_els H1 hy (by decide) agg76 rfl)) ?_
  refine sq_p (d := 21) (op := .call { callee := .value (.func 91), args := #[.tmp 20], argTypes := #[76] }) (ty := 165) (g := none) (by kernel_rfl) trivial (pv_callR en91 rfl .auto (ct_FieldValue a t e1 e2 e3)) ?_
  refine sq_q0 22 (.move (.tmp 1)) 60 (qv_move rfl) ?_
  refine sq_q0 23 (.move (.tmp 5)) 3 (qv_move rfl) ?_
  refine sq_q0 24 (.indexAddr 60 (.tmp 22) (.tmp 23)) 0 (qv_index un60 sz165 rfl rfl rfl (by omega)) ?_
  refine sq_q0 25 (.load 165 (.tmp 24)) 165 (qv_load rfl (At.of_mem (by repeat first | exact mm2 | exact List.mem_append_left _ mm2 | apply List.mem_cons_of_mem | apply List.mem_append_right)) (ldv_els H2 hz (by decide) agg165 rfl)) ?_
  refine sq_q0 26 (.binOp .neq 165 (.tmp 21) (.tmp 25) 165) 4 (qv_neq_rv (s := t) rfl rfl) ?_
  refine SeqK.nil (fun β => ?_)
  refine gd_tail [] rfl (by kernel_rfl) (by kernel_rfl) ?_
  refine go_nil ?_
  change G _ _ _ _
  refine p_weaken [0, 1, 4, 5, 26] rfl ?_
  refine p_condF (.tmp 26) (by kernel_rfl) rfl ?_
  refine p_skip0 ?_
  change G _ _ _ _
  refine p_weaken [0, 1, 4, 5] rfl ?_
  refine p_plain0 (0 :: 1 :: 2 :: []) ?_
  refine go_q0 15 (.move (.tmp 5)) 3 (qv_move rfl) ?_
  refine go_q0 16 (.binOp .add 3 (.tmp 15) (.const (.int .i64 1)) 3) 3 (qv_add rfl rfl (by first | exact IntWalk.i64_in _ (by omega) | exact IntWalk.i64_in _ (by dsimp only; omega) | rfl)) ?_
  refine go_q0 5 (.assign (.tmp 16)) 3 (qv_assign rfl) ?_
  refine go_nil ?_
  exact ⟨_, ⟨i + 1, by omega, ⟨rfl, ⟨[0, 1, 4, 5], rfl⟩, .auto⟩, rfl⟩, by omega⟩
end Go.Proofs.Ytobmcpoejhhemaa
