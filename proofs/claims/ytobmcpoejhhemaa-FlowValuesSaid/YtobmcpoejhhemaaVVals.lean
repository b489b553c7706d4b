import Derived.Test.YtobmcpoejhhemaaVCmpW
namespace Go.Proofs.Ytobmcpoejhhemaa
open Go.E

def numberV (b : Bool) : Int := if b then 257 else 256
theorem pu_Number (b : Bool) : Pu Try.prog 36 [.bool b] (.int .u16 (numberV b)) := by
  refine ct_body (rv := [.tmp 2]) [(0, _)] Try.func36 (by kernel_rfl) Try.ntmps36 Try.results36 rfl rfl (fun w0 => ?_)
  refine p_seq0 ?_
  refine p_plain0 (0 :: []) ?_
  refine go_q0 2 (.assign (.const (.int .u16 0))) 25 (qv_assign rfl) ?_
  refine go_nil ?_
  change G _ _ _ _
  refine p_seq0 ?_
  refine p_seq0 ?_
  refine p_plain0 (0 :: []) ?_
  refine go_q0 3 (.move (.tmp 0)) 4 (qv_move rfl) ?_
  refine go_nil ?_
  change G _ _ _ _
  refine p_weaken [2, 3] rfl ?_
  refine p_cond (.tmp 3) (by kernel_rfl) rfl (fun h3 => ?_) (fun h3 => ?_)
  · replace h3 := kn h3
    subst h3
    refine p_seq0 ?_
    refine p_plain0 (0 :: []) ?_
    refine go_q0 2 (.assign (.const (.int .u16 257))) 25 (qv_assign rfl) ?_
    refine go_nil ?_
    change G _ _ _ _
    refine p_weaken [2] rfl ?_
    refine p_ret0 ?_
    try dsimp only [thenQ, inBlockQ]
    try rw [if_pos rfl]
    refine ret_now (.inr rfl) (.cons (res_tmp rfl) .nil) (by repeat constructor) ?_
    exact ⟨rfl, rfl⟩
  replace h3 := kn h3
  obtain rfl : b = false := by simpa using h3
  refine p_skip0 ?_
  change G _ _ _ _
  refine p_weaken [2] rfl ?_
  refine p_seq0 ?_
  refine p_plain0 (0 :: []) ?_
  refine go_q0 2 (.assign (.const (.int .u16 256))) 25 (qv_assign rfl) ?_
  refine go_nil ?_
  change G _ _ _ _
  refine p_ret0 ?_
  try dsimp only [thenQ, inBlockQ]
  try rw [if_pos rfl]
  refine ret_now (.inr rfl) (.cons (res_tmp rfl) .nil) (by repeat constructor) ?_
  exact ⟨rfl, rfl⟩
theorem pu_refNumber (b : Bool) : Pu Try.prog 37 [.bool b] (.int .u16 (numberV b)) := by
  refine ct_body (rv := [.tmp 2]) [(0, _)] Try.func37 (by kernel_rfl) Try.ntmps37 Try.results37 rfl rfl (fun w0 => ?_)
  refine p_seq0 ?_
  refine p_plain0 (0 :: []) ?_
  refine go_q0 2 (.assign (.const (.int .u16 0))) 25 (qv_assign rfl) ?_
  refine go_nil ?_
  change G _ _ _ _
  refine p_seq0 ?_
  refine p_seq0 ?_
  refine p_plain0 (0 :: []) ?_
  refine go_q0 3 (.move (.tmp 0)) 4 (qv_move rfl) ?_
  refine go_nil ?_
  change G _ _ _ _
  refine p_weaken [2, 3] rfl ?_
  refine p_cond (.tmp 3) (by kernel_rfl) rfl (fun h3 => ?_) (fun h3 => ?_)
  · replace h3 := kn h3
    subst h3
    refine p_seq0 ?_
    refine p_plain0 (0 :: []) ?_
    refine go_q0 2 (.assign (.const (.int .u16 257))) 25 (qv_assign rfl) ?_
    refine go_nil ?_
    change G _ _ _ _
    refine p_weaken [2] rfl ?_
    refine p_ret0 ?_
    try dsimp only [thenQ, inBlockQ]
    try rw [if_pos rfl]
    refine ret_now (.inr rfl) (.cons (res_tmp rfl) .nil) (by repeat constructor) ?_
    exact ⟨rfl, rfl⟩
  replace h3 := kn h3
  obtain rfl : b = false := by simpa using h3
  refine p_skip0 ?_
  change G _ _ _ _
  refine p_weaken [2] rfl ?_
  refine p_seq0 ?_
  refine p_plain0 (0 :: []) ?_
  refine go_q0 2 (.assign (.const (.int .u16 256))) 25 (qv_assign rfl) ?_
  refine go_nil ?_
  change G _ _ _ _
  refine p_ret0 ?_
  try dsimp only [thenQ, inBlockQ]
  try rw [if_pos rfl]
  refine ret_now (.inr rfl) (.cons (res_tmp rfl) .nil) (by repeat constructor) ?_
  exact ⟨rfl, rfl⟩
theorem ct_refSpecs (long : Bool) : Ct Try.prog 34 [.bool long].toArray [] (fun v A => ∃ p cap, v = .slice p 12 cap ∧ OwnL eFSpec 169 p cap (specsOf long) A) := by
  refine ct_body (rv := [.tmp 2]) [(0, _)] Try.func34 (by kernel_rfl) Try.ntmps34 Try.results34 rfl rfl (fun w0 => ?_)
  refine p_seq0 ?_
  refine p_plain0 (0 :: []) ?_
  refine go_q0 2 (.assign (.const (.slice none 0 0))) 71 (qv_assign rfl) ?_
  refine go_nil ?_
  change G _ _ _ _
  refine p_seq0 ?_
  refine p_plain0 (0 :: 1 :: 2 :: 3 :: []) ?_
  refine go_q0 4 (.build 169 #[(0, .const (.int .u16 8)), (2, .const (.int .u16 4))]) 169 (qv_build rfl (bld169_0_2 _ _)) ?_
  refine go_q0 5 (.build 169 #[(0, .const (.int .u16 12)), (2, .const (.int .u16 4))]) 169 (qv_build rfl (bld169_0_2 _ _)) ?_
  refine go_s0 (some 6) (.buildSlice 71 2 #[(0, .tmp 4), (1, .tmp 5)]) 71 ?_
  refine os_buildSlice (Nat.le_of_ble_eq_true rfl) rfl (bls71_2 _ _) (fun b6 => ?_)
  refine go_q0 3 (.assign (.tmp 6)) 71 (qv_assign rfl) ?_
  refine go_nil ?_
  change G _ _ _ _
  refine p_weaken [0, 2, 3] rfl ?_
  refine p_seqJ (fun s => ∃ (b : Nat) (cur : Array Value), (cur.toList = eFSpec.flat (specs0 long)) ∧ Ge s ⟨[], [(2, .slice none 0 0), (3, .slice (some ⟨b, 0, none⟩) 2 2)], [(b, .cells cur 169 (0, 0))]⟩) (by kernel_rfl) ?_ ?_
  · refine p_seq0 ?_
    refine p_plain0 (0 :: []) ?_
    refine go_q0 7 (.move (.tmp 0)) 4 (qv_move rfl) ?_
    refine go_nil ?_
    change G _ _ _ _
    refine p_weaken [2, 3, 7] rfl ?_
    refine p_cond (.tmp 7) (by kernel_rfl) rfl (fun h7 => ?_) (fun h7 => ?_)
    rotate_left
    · replace h7 := kn h7
      refine p_skip0 ?_
      subst h7
      exact ⟨_, _, by kernel_rfl, ⟨rfl, ⟨[2, 3], rfl⟩, .auto⟩⟩
    replace h7 := kn h7
    refine p_plain0 (0 :: 1 :: 2 :: 3 :: []) ?_
    refine go_q0 8 (.build 169 #[(0, .const (.int .u16 27)), (2, .const (.int .u16 16))]) 169 (qv_build rfl (bld169_0_2 _ _)) ?_
    refine go_q0 9 (.build 169 #[(0, .const (.int .u16 28)), (2, .const (.int .u16 16))]) 169 (qv_build rfl (bld169_0_2 _ _)) ?_
    refine go_s0 (some 10) (.buildSlice 71 2 #[(0, .tmp 8), (1, .tmp 9)]) 71 ?_
    refine os_buildSlice (Nat.le_of_ble_eq_true rfl) rfl (bls71_2 _ _) (fun b10 => ?_)
    refine go_q0 3 (.assign (.tmp 10)) 71 (qv_assign rfl) ?_
    refine go_nil ?_
    subst h7
    exact ⟨_, _, by kernel_rfl, ⟨rfl, ⟨[2, 3], rfl⟩, .auto⟩⟩
  rintro s ⟨b, cur, hc, hs⟩
  refine ge_ok hs ?_
  refine p_seq0 ?_
  refine p_plain0 (0 :: 1 :: 2 :: 3 :: 4 :: 5 :: 6 :: 7 :: 8 :: 9 :: 10 :: 11 :: 12 :: 13 :: []) ?_
  refine go_q0 11 (.move (.tmp 3)) 71 (qv_move rfl) ?_
  refine go_q0 12 (.build 169 #[(0, .const (.int .u16 4)), (2, .const (.int .u16 1))]) 169 (qv_build rfl (bld169_0_2 _ _)) ?_
  refine go_q0 13 (.build 169 #[(0, .const (.int .u16 7)), (2, .const (.int .u16 2))]) 169 (qv_build rfl (bld169_0_2 _ _)) ?_
  refine go_q0 14 (.build 169 #[(0, .const (.int .u16 11)), (2, .const (.int .u16 2))]) 169 (qv_build rfl (bld169_0_2 _ _)) ?_
  refine go_q0 15 (.build 169 #[(0, .const (.int .u16 1)), (2, .const (.int .u16 8))]) 169 (qv_build rfl (bld169_0_2 _ _)) ?_
  refine go_q0 16 (.build 169 #[(0, .const (.int .u16 2)), (2, .const (.int .u16 8))]) 169 (qv_build rfl (bld169_0_2 _ _)) ?_
  refine go_q0 17 (.build 169 #[(0, .const (.int .u16 152)), (2, .const (.int .u16 8))]) 169 (qv_build rfl (bld169_0_2 _ _)) ?_
  refine go_q0 18 (.build 169 #[(0, .const (.int .u16 153)), (2, .const (.int .u16 8))]) 169 (qv_build rfl (bld169_0_2 _ _)) ?_
  refine go_q0 19 (.build 169 #[(0, .const (.int .u16 6)), (2, .const (.int .u16 1))]) 169 (qv_build rfl (bld169_0_2 _ _)) ?_
  refine go_q0 20 (.build 169 #[(0, .const (.int .u16 136)), (2, .const (.int .u16 1))]) 169 (qv_build rfl (bld169_0_2 _ _)) ?_
  refine go_q0 21 (.build 169 #[(0, .const (.int .u16 1)), (1, .const (.int .u32 32473)), (2, .const (.int .u16 1))]) 169 (qv_build rfl (bld169_0_1_2 _ _ _)) ?_
  refine go_s0 (some 22) (.buildSlice 71 10 #[(0, .tmp 12), (1, .tmp 13), (2, .tmp 14), (3, .tmp 15), (4, .tmp 16), (5, .tmp 17), (6, .tmp 18), (7, .tmp 19), (8, .tmp 20), (9, .tmp 21)]) 71 ?_
  refine os_buildSlice (Nat.le_of_ble_eq_true rfl) rfl (bls71_10 _ _ _ _ _ _ _ _ _ _) (fun b22 => ?_)
  refine go_s0 (some 23) (.call { callee := .builtin .append, args := #[.tmp 11, .tmp 22], argTypes := #[71, 71] }) 71 ?_
  refine os_appendL (E := eFSpec) (l := specs0 long) (l2 := specs1) rfl el71 rfl (len_specs0 long).symm rfl rfl (OwnL.of_build (len_specs0 long) hc (by decide)) (by repeat constructor) (by repeat constructor) (Holds.whole (by kernel_rfl)) one_FSpec (by rw [len_specs0]; decide) (by rw [len_specs0]; decide) (fun p23 cap23 A23 h23 => ?_)
  refine go_q0 2 (.assign (.tmp 23)) 71 (qv_assign rfl) ?_
  refine go_nil ?_
  change G _ _ _ _
  refine p_weaken [2] rfl ?_
  refine p_ret0 ?_
  try dsimp only [thenQ, inBlockQ]
  try rw [if_pos rfl]
  refine ret_left (A23) (.inr rfl) (.cons (res_tmp rfl) .nil) .auto ?_
  exact ⟨p23, cap23, by rw [len_specs0]; rfl, h23⟩
theorem pu_FieldSpec (x : FSpec) : Pu Try.prog 92 [.agg x.c] (.agg x.c) := by
  refine ct_body (rv := [.cell 2 169]) [(0, _)] Try.func92 (by kernel_rfl) Try.ntmps92 Try.results92 rfl rfl (fun w0 => ?_)
  refine p_seq0 ?_
  refine p_plain0 (0 :: 1 :: []) ?_
  refine go_s0 (some 1) (.box 79 (.tmp 0)) 0 ?_
  refine os_boxA rfl rfl (fun b1 => ?_)
  refine go_s0 (some 2) (.alloc 169) 0 ?_
  refine os_allocA rfl ze169 (fun b2 => ?_)
  refine go_nil ?_
  change G _ _ _ _
  refine p_weaken [1, 2] rfl ?_
  refine p_seq0 ?_
  refine p_plain0 (0 :: 1 :: 2 :: 3 :: 4 :: 5 :: 6 :: 7 :: []) ?_
  refine go_q0 3 (.fieldAddr 79 (.tmp 1) 0) 0 (qv_field rfl fd79_0) ?_
  refine go_q0 4 (.load 25 (.tmp 3)) 25 (qv_load rfl .auto (ldv_sca sc25 (get_FSpec_0 _))) ?_
  refine go_q0 5 (.fieldAddr 79 (.tmp 1) 1) 0 (qv_field rfl fd79_1) ?_
  refine go_q0 6 (.load 77 (.tmp 5)) 77 (qv_load rfl .auto (ldv_sca sc77 (get_FSpec_1 _))) ?_
  refine go_q0 7 (.fieldAddr 79 (.tmp 1) 2) 0 (qv_field rfl fd79_2) ?_
  refine go_q0 8 (.load 25 (.tmp 7)) 25 (qv_load rfl .auto (ldv_sca sc25 (get_FSpec_2 _))) ?_
  refine go_q0 9 (.build 169 #[(0, .tmp 4), (1, .tmp 6), (2, .tmp 8)]) 169 (qv_build (v := .agg x.c) rfl (fun w => by kernel_rfl)) ?_
  refine go_s0 none (.store 169 (.tmp 2) (.tmp 9)) 0 ?_
  refine os_store rfl rfl sz169 rfl (one_FSpec _) .auto (Nat.le_of_ble_eq_true rfl) (splw_FSpec _ _ (siz_FSpec _)) ?_
  refine go_nil ?_
  change G _ _ _ _
  refine p_weaken [2] rfl ?_
  refine p_ret0 ?_
  try dsimp only [thenQ, inBlockQ]
  try rw [if_pos rfl]
  refine ret_now (.inr rfl) (.cons (res_cell rfl (At.mem .auto) (ldv_agg agg169 (extw_FSpec _) (Nat.le_of_ble_eq_true rfl))) .nil) (by repeat constructor) ?_
  exact ⟨rfl, rfl⟩
theorem ct_SameSpecs {p q : Option Addr} {c d : Nat} {l : List FSpec} {M : Mem} (ha : Lst eFSpec p l M) (hb : Lst eFSpec q l M) (hl : l.length ≤ 1000000) :
    Ct Try.prog 33 [.slice p l.length c, .slice q l.length d].toArray M (fun v M' => v = .bool true ∧ M' = M) := by
  refine ct_body (rv := [.tmp 4]) [(0, _), (1, _)] Try.func33 (by kernel_rfl) Try.ntmps33 Try.results33 rfl rfl (fun w0 => ?_)
  refine p_seq0 ?_
  refine p_plain0 (0 :: []) ?_
  refine go_q0 4 (.assign (.const (.bool false))) 4 (qv_assign rfl) ?_
  refine go_nil ?_
  change G _ _ _ _
  refine p_seq0 ?_
  refine p_seq0 ?_
  refine p_plain0 (0 :: 1 :: 2 :: 3 :: 4 :: []) ?_
  refine go_q0 6 (.move (.tmp 0)) 67 (qv_move rfl) ?_
  refine go_q0 7 (.call { callee := .builtin .len, args := #[.tmp 6], argTypes := #[67] }) 3 (qv_lenS un67 rfl) ?_
  refine go_q0 8 (.move (.tmp 1)) 71 (qv_move rfl) ?_
  refine go_q0 9 (.call { callee := .builtin .len, args := #[.tmp 8], argTypes := #[71] }) 3 (qv_lenS un71 rfl) ?_
  refine go_q0 10 (.binOp .neq 3 (.tmp 7) (.tmp 9) 3) 4 (qv_neq (b := false) rfl rfl (by simp)) ?_
  refine go_nil ?_
  change G _ _ _ _
  refine p_weaken [0, 1, 4, 10] rfl ?_
  refine p_condF (.tmp 10) (by kernel_rfl) rfl ?_
  refine p_skip0 ?_
  change G _ _ _ _
  refine p_weaken [0, 1, 4] rfl ?_
  refine p_seq0 ?_
  refine p_seq0 ?_
  refine p_plain0 (0 :: []) ?_
  refine go_q0 5 (.assign (.const (.int .i64 0))) 3 (qv_assign rfl) ?_
  refine go_nil ?_
  change G _ _ _ _
  refine p_block 0 (by kernel_rfl) ?_
  refine p_loopE (by kernel_rfl) (fun s m => ∃ (i : Nat), (i ≤ l.length) ∧ Ge s ⟨[], [(0, .slice p l.length c), (1, .slice q l.length d), (4, .bool false), (5, .int .i64 i)], M⟩ ∧ m = l.length + 1 - i) ?_ ?_
  · exact ⟨_, ⟨0, by omega, ⟨rfl, ⟨[0, 1, 4, 5], rfl⟩, .auto⟩, rfl⟩⟩
  rintro s m ⟨i, hi, hs, rfl⟩
  refine ge_ok hs ?_
  refine p_seq0 ?_
  refine p_seq0 ?_
  refine p_plain0 (0 :: 1 :: 2 :: 3 :: []) ?_
  refine go_q0 11 (.move (.tmp 5)) 3 (qv_move rfl) ?_
  refine go_q0 12 (.move (.tmp 0)) 67 (qv_move rfl) ?_
  refine go_q0 13 (.call { callee := .builtin .len, args := #[.tmp 12], argTypes := #[67] }) 3 (qv_lenS un67 rfl) ?_
  refine go_q0 14 (.binOp .lss 3 (.tmp 11) (.tmp 13) 3) 4 (qv_lss rfl rfl rfl) ?_
  refine go_nil ?_
  change G _ _ _ _
  refine p_weaken [0, 1, 4, 5, 14] rfl ?_
  refine p_cond (.tmp 14) (by kernel_rfl) rfl (fun h14 => ?_) (fun h14 => ?_)
  rotate_left
  · replace h14 := kn h14
    refine p_exit 0 (by kernel_rfl) ?_
    change G _ _ _ _
    refine p_weaken [4] rfl ?_
    refine p_seq0 ?_
    refine p_plain0 (0 :: []) ?_
    refine go_q0 4 (.assign (.const (.bool true))) 4 (qv_assign rfl) ?_
    refine go_nil ?_
    change G _ _ _ _
    refine p_ret0 ?_
    try dsimp only [thenQ, inBlockQ]
    try rw [if_pos rfl]
    refine ret_left (M) (.inr rfl) (.cons (res_tmp rfl) .nil) .auto ?_
    exact ⟨rfl, rfl⟩
  replace h14 := kn h14
  refine p_skip0 ?_
  change G _ _ _ _
  refine p_weaken [0, 1, 4, 5] rfl ?_
  refine p_seq0 ?_
  refine p_block 1 (by kernel_rfl) ?_
  refine p_seq0 ?_
  obtain ⟨x1, y1, cu1, g1, f1, hp1, mm1, H1⟩ := ha.at_ (i := i) (by omega)
  obtain ⟨x2, y2, cu2, g2, f2, hp2, mm2, H2⟩ := hb.at_ (i := i) (by omega)
  subst hp1
  subst hp2
  obtain ⟨x, hy⟩ : ∃ x, l[i]? = some x := ⟨_, List.getElem?_eq_getElem (by omega)⟩
  refine p_draw (by kernel_rfl) mixed 10 10 _ (fun _ h => h) (by kernel_rfl) ?_
  refine gd_all (0 :: 1 :: 2 :: 3 :: 4 :: 5 :: 6 :: 7 :: 8 :: 9 :: []) _ rfl (by kernel_rfl) (by decide) (fun _ h => h) rfl ?_
  refine sq_q0 17 (.move (.tmp 0)) 67 (qv_move rfl) ?_
  refine sq_q0 18 (.move (.tmp 5)) 3 (qv_move rfl) ?_
  refine sq_q0 19 (.indexAddr 67 (.tmp 17) (.tmp 18)) 0 (qv_index un67 sz79 rfl rfl rfl (by omega)) ?_
  refine sq_q0 20 (.load 79 (.tmp 19)) 79 (qv_load rfl (At.of_mem (by repeat first | exact mm1 | exact List.mem_append_left _ mm1 | apply List.mem_cons_of_mem | apply List.mem_append_right)) (ldv_els H1 hy (by decide) agg79 rfl)) ?_
  refine sq_p (d := 21) (op := .call { callee := .value (.func 92), args := #[.tmp 20], argTypes := #[79] }) (ty := 169) (g := none) (by kernel_rfl) trivial (pv_call en92 rfl (pu_FieldSpec x)) ?_
  refine sq_q0 22 (.move (.tmp 1)) 71 (qv_move rfl) ?_
  refine sq_q0 23 (.move (.tmp 5)) 3 (qv_move rfl) ?_
  refine sq_q0 24 (.indexAddr 71 (.tmp 22) (.tmp 23)) 0 (qv_index un71 sz169 rfl rfl rfl (by omega)) ?_
  refine sq_q0 25 (.load 169 (.tmp 24)) 169 (qv_load rfl (At.of_mem (by repeat first | exact mm2 | exact List.mem_append_left _ mm2 | apply List.mem_cons_of_mem | apply List.mem_append_right)) (ldv_els H2 hy (by decide) agg169 rfl)) ?_
  refine sq_q0 26 (.binOp .neq 169 (.tmp 21) (.tmp 25) 169) 4 (qv_neq_169 (s := x) (t := x) (b := false) rfl rfl (by simp)) ?_
  refine SeqK.nil (fun β => ?_)
  refine gd_tail [] rfl (by kernel_rfl) (by kernel_rfl) ?_
  refine go_nil ?_
  change G _ _ _ _
  refine p_weaken [0, 1, 4, 5, 26] rfl ?_
  refine p_condF (.tmp 26) (by kernel_rfl) rfl ?_
  refine p_skip0 ?_
  change G _ _ _ _
  refine p_weaken [0, 1, 4, 5] rfl ?_
  refine p_plain0 (0 :: 1 :: 2 :: []) ?_
  refine go_q0 15 (.move (.tmp 5)) 3 (qv_move rfl) ?_
  refine go_q0 16 (.binOp .add 3 (.tmp 15) (.const (.int .i64 1)) 3) 3 (qv_add rfl rfl (by first | exact IntWalk.i64_in _ (by omega) | exact IntWalk.i64_in _ (by dsimp only; omega) | rfl)) ?_
  refine go_q0 5 (.assign (.tmp 16)) 3 (qv_assign rfl) ?_
  refine go_nil ?_
  exact ⟨_, ⟨i + 1, by omega, ⟨rfl, ⟨[0, 1, 4, 5], rfl⟩, .auto⟩, rfl⟩, by omega⟩
theorem ct_Spoil {p : Option Addr} {cap : Nat} {l : List Int} {A : Mem} (hO : OwnL (eI .u8) 5 p cap l A) (hl : l.length ≤ 1000000) :
    Ct Try.prog 35 [.slice p l.length cap].toArray A (fun _ M' => ∃ l' : List Int, l'.length = l.length ∧ OwnL (eI .u8) 5 p cap l' M') := by
  refine ct_body (rv := []) [(0, _)] Try.func35 (by kernel_rfl) Try.ntmps35 Try.results35 rfl rfl (fun w0 => ?_)
  refine p_seq0 ?_
  refine p_plain0 (0 :: []) ?_
  refine go_q0 2 (.assign (.const (.int .i64 0))) 3 (qv_assign rfl) ?_
  refine go_nil ?_
  change G _ _ _ _
  refine p_block 0 (by kernel_rfl) ?_
  refine p_loopE (by kernel_rfl) (fun s m => ∃ (i : Nat) (l1 : List Int) (A1 : Mem), (i ≤ l.length) ∧ (l1.length = l.length) ∧ (OwnL (eI .u8) 5 p cap l1 A1) ∧ Ge s ⟨[], [(0, .slice p l.length cap), (2, .int .i64 i)], A1⟩ ∧ m = l.length + 1 - i) ?_ ?_
  · exact ⟨_, ⟨0, l, A, by omega, rfl, hO, ⟨rfl, ⟨[0, 2], rfl⟩, .auto⟩, rfl⟩⟩
  rintro s m ⟨i, l1, A1, hi, hl1, hO1, hs, rfl⟩
  refine ge_ok hs ?_
  refine p_seq0 ?_
  refine p_seq0 ?_
  refine p_plain0 (0 :: 1 :: 2 :: 3 :: []) ?_
  refine go_q0 3 (.move (.tmp 2)) 3 (qv_move rfl) ?_
  refine go_q0 4 (.move (.tmp 0)) 74 (qv_move rfl) ?_
  refine go_q0 5 (.call { callee := .builtin .len, args := #[.tmp 4], argTypes := #[74] }) 3 (qv_lenS un74 rfl) ?_
  refine go_q0 6 (.binOp .lss 3 (.tmp 3) (.tmp 5) 3) 4 (qv_lss rfl rfl rfl) ?_
  refine go_nil ?_
  change G _ _ _ _
  refine p_weaken [0, 2, 6] rfl ?_
  refine p_cond (.tmp 6) (by kernel_rfl) rfl (fun h6 => ?_) (fun h6 => ?_)
  rotate_left
  · replace h6 := kn h6
    refine p_exit 0 (by kernel_rfl) ?_
    try dsimp only [thenQ, inBlockQ]
    try rw [if_pos rfl]
    refine ret_left (A1) (.inl rfl) .nil .auto ?_
    exact ⟨l1, hl1, hO1⟩
  replace h6 := kn h6
  refine p_skip0 ?_
  change G _ _ _ _
  refine p_weaken [0, 2] rfl ?_
  refine p_seq0 ?_
  refine p_block 1 (by kernel_rfl) ?_
  obtain ⟨b, cur, rfl, rfl, hc1, hc2, hc3, H⟩ := hO1.some_ (by omega)
  have hP := OwnL.put (e := 5) (b := b) (165 : Int) hc1 hc2 hc3 H (show i < l1.length by omega)
  have hft := own_fit (E := eI .u8) hc1 hc3 (show i < l1.length by omega)
  refine p_plain0 (0 :: 1 :: 2 :: 3 :: []) ?_
  refine go_q0 9 (.move (.tmp 0)) 74 (qv_move rfl) ?_
  refine go_q0 10 (.move (.tmp 2)) 3 (qv_move rfl) ?_
  refine go_q0 11 (.indexAddr 74 (.tmp 9) (.tmp 10)) 0 (qv_index un74 sz5 rfl rfl rfl (by omega)) ?_
  refine go_s0 none (.store 5 (.tmp 11) (.const (.int .u8 165))) 0 ?_
  refine os_store rfl rfl sz5 rfl (eI_one .u8 165) .auto hft rfl ?_
  refine go_nil ?_
  change G _ _ _ _
  refine p_weaken [0, 2] rfl ?_
  refine p_plain0 (0 :: 1 :: 2 :: []) ?_
  refine go_q0 7 (.move (.tmp 2)) 3 (qv_move rfl) ?_
  refine go_q0 8 (.binOp .add 3 (.tmp 7) (.const (.int .i64 1)) 3) 3 (qv_add rfl rfl (by first | exact IntWalk.i64_in _ (by omega) | exact IntWalk.i64_in _ (by dsimp only; omega) | rfl)) ?_
  refine go_q0 2 (.assign (.tmp 8)) 3 (qv_assign rfl) ?_
  refine go_nil ?_
  exact ⟨_, ⟨i + 1, _, _, by omega, by rw [List.length_set]; exact hl1, hP, ⟨rfl, ⟨[0, 2], rfl⟩, .auto⟩, rfl⟩, by omega⟩
end Go.Proofs.Ytobmcpoejhhemaa
