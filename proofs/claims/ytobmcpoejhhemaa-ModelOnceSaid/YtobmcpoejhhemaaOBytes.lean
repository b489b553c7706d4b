import Derived.Test.YtobmcpoejhhemaaOKeys
import Derived.Test.YtobmcpoejhhemaaORd
namespace Go.Proofs.Ytobmcpoejhhemaa
open Go.E

/-- A slice of bytes of the call's own. -/
def OwnB (v : Value) (l : List Int) (A : Mem) : Prop := ∃ p cap, v = .slice p l.length cap ∧ OwnL (eI .u8) 5 p cap l A
def adrBytes (a : Adr) : List Int := if a.six then [a.b.x0, a.b.x1, a.b.x2, a.b.x3, a.b.x4, a.b.x5, a.b.x6, a.b.x7, a.b.x8, a.b.x9, a.b.x10, a.b.x11, a.b.x12, a.b.x13, a.b.x14, a.b.x15] else [a.b.x0, a.b.x1, a.b.x2, a.b.x3]
theorem len_adrBytes (a : Adr) : (adrBytes a).length = if a.six then 16 else 4 := by unfold adrBytes; split <;> rfl

/-- A copy of bytes. -/
theorem ct_bytesClone {b off cap : Nat} {cur : Array Value} {e : TypeId} {fz : Nat × Nat} {l : List Int} (hl : Holds (eI .u8) cur off l) (hm : l.length ≤ 1000000) :
    Ct Try.prog 146 [.slice (some ⟨b, off, none⟩) l.length cap].toArray [(b, .cells cur e fz)] (fun v M' => ∃ A, OwnB v l A ∧ M' = A ++ [(b, .cells cur e fz)]) := by
  refine ct_body (rv := [.tmp 2]) [(0, _)] Try.func146 (by kernel_rfl) Try.ntmps146 Try.results146 rfl rfl (fun w0 => ?_)
  refine p_seq0 ?_
  refine p_plain0 (0 :: []) ?_
  refine go_q0 2 (.assign (.const (.slice none 0 0))) 74 (qv_assign rfl) ?_
  refine go_nil ?_
  change G _ _ _ _
  refine p_seq0 ?_
  refine p_seq0 ?_
  refine p_plain0 (0 :: 1 :: []) ?_
  refine go_q0 3 (.move (.tmp 0)) 74 (qv_move rfl) ?_
  refine go_q0 4 (.binOp .eql 74 (.tmp 3) (.const (.slice none 0 0)) 74) 4 (qv_eqlS un74 rfl) ?_
  refine go_nil ?_
  change G _ _ _ _
  refine p_weaken [0, 2, 4] rfl ?_
  refine p_condF (.tmp 4) (by kernel_rfl) rfl ?_
  refine p_skip0 ?_
  change G _ _ _ _
  refine p_weaken [0, 2] rfl ?_
  refine p_seq0 ?_
  refine p_plain0 (0 :: 1 :: 2 :: 3 :: []) ?_
  refine go_s0 (some 5) (.buildSlice 74 0 #[]) 74 ?_
  refine os_buildSlice (Nat.le_of_ble_eq_true rfl) rfl (bls74_0) (fun b5 => ?_)
  refine go_q0 6 (.move (.tmp 0)) 74 (qv_move rfl) ?_
  refine go_s0 (some 7) (.call { callee := .builtin .append, args := #[.tmp 5, .tmp 6], argTypes := #[74, 74] }) 74 ?_
  refine os_appendL (E := eI .u8) (l := []) (l2 := l) rfl el74 rfl rfl rfl rfl (OwnL.of_build rfl rfl (by decide)) (by repeat constructor) (by repeat constructor) hl (fun _ u hu => by simp [eI] at hu; subst hu; rfl) (by simp [maxLen]; omega) (by simp; omega) (fun p7 c7 A7 h7 => ?_)
  refine go_q0 2 (.assign (.tmp 7)) 74 (qv_assign rfl) ?_
  refine go_nil ?_
  change G _ _ _ _
  refine p_weaken [2] rfl ?_
  refine p_ret0 ?_
  try dsimp only [thenQ, inBlockQ]
  try rw [if_pos rfl]
  refine ret_left (A7 ++ [(b, .cells cur e fz)]) (.inr rfl) (.cons (res_tmp rfl) .nil) .auto ?_
  exact ⟨A7, ⟨p7, c7, by simp [E.valOf], by simpa using h7⟩, rfl⟩

/-- A slice of bytes that is owned and not empty. -/
theorem OwnB.some_ {v : Value} {l : List Int} {A : Mem} (h : OwnB v l A) (hl : 0 < l.length) : ∃ b cap cur, v = .slice (some ⟨b, 0, none⟩) l.length cap ∧ A = [(b, .cells cur 5 (0, 0))] ∧ OwnL (eI .u8) 5 (some ⟨b, 0, none⟩) cap l A ∧ Holds (eI .u8) cur 0 l := by
  obtain ⟨p, cap, rfl, ho⟩ := h
  obtain ⟨b, cur, rfl, rfl, _, _, _, h1⟩ := ho.some_ hl
  exact ⟨b, cap, cur, rfl, rfl, ho, h1⟩
theorem eI_one (k : IntKind) (a : Int) : ∀ u ∈ ((eI k).c a).toList, u.oneCell' = true := fun u hu => by simp [eI] at hu; subst hu; rfl
theorem holds_adr (a : Adr) : Holds (eI .u8) a.c 1 (adrBytes a) := by
  obtain ⟨six, b⟩ := a
  cases six <;> rfl
theorem pu_size (a : Adr) : Pu Try.prog 147 [.agg a.c] (.int .i64 ((adrBytes a).length : Nat)) := by
  obtain ⟨six, b⟩ := a
  cases six with
  | true => exact pu_size6 b
  | false => exact pu_size4 b
theorem adr_le (a : Adr) : 0 < (adrBytes a).length ∧ (adrBytes a).length ≤ 16 := by rw [len_adrBytes]; split <;> decide
theorem ct_AddrBytes (a : Adr) : Ct Try.prog 90 [.agg a.c].toArray [] (fun v A => OwnB v (adrBytes a) A) := by
  refine ct_body (rv := [.tmp 2]) [(0, _)] Try.func90 (by kernel_rfl) Try.ntmps90 Try.results90 rfl rfl (fun w0 => ?_)
  have ha := adr_le a
  refine p_seq0 ?_
  refine p_plain0 (0 :: 1 :: []) ?_
  refine go_s0 (some 1) (.box 24 (.tmp 0)) 0 ?_
  refine os_boxA rfl rfl (fun b1 => ?_)
  refine go_q0 2 (.assign (.const (.slice none 0 0))) 74 (qv_assign rfl) ?_
  refine go_nil ?_
  change G _ _ _ _
  refine p_weaken [1, 2] rfl ?_
  refine p_seq0 ?_
  refine p_plain0 (0 :: 1 :: 2 :: 3 :: 4 :: 5 :: []) ?_
  refine go_q0 3 (.fieldAddr 24 (.tmp 1) 1) 0 (qv_field rfl fd24_1) ?_
  refine go_q0 4 (.load 24 (.tmp 1)) 24 (qv_load rfl .auto (ldv_agg agg24 (extw_Adr _) (Nat.le_of_ble_eq_true rfl))) ?_
  refine go_s0 (some 5) (.call { callee := .value (.func 147), args := #[.tmp 4], argTypes := #[24] }) 3 ?_
  refine os_callP rfl en147 rfl (pu_size a) ?_
  refine go_q0 6 (.slice 22 (.tmp 3) none (some (.tmp 5)) none) 74 (qv_slA0 un22 sz5 rfl rfl (bd_some rfl rfl) (by omega)) ?_
  refine go_s0 (some 7) (.call { callee := .value (.func 146), args := #[.tmp 6], argTypes := #[74] }) 74 ?_
  refine os_call (Nat.le_of_ble_eq_true rfl) en146 rfl .auto (ct_bytesClone (holds_adr a) (by omega)) ?_
  rintro v7 A7 ⟨A, hB, rfl⟩
  try dsimp only [List.nil_append, List.cons_append]
  rw [List.append_assoc]
  refine go_q0 2 (.assign (.tmp 7)) 74 (qv_assign rfl) ?_
  refine go_nil ?_
  change G _ _ _ _
  refine p_weaken [2] rfl ?_
  refine p_ret0 ?_
  try dsimp only [thenQ, inBlockQ]
  try rw [if_pos rfl]
  refine ret_left (A) (.inr rfl) (.cons (res_tmp rfl) .nil) .auto ?_
  exact hB

/-- A writer at bw holds the bytes l. -/
def WriB (bw : Nat) (l : List Int) (W : Mem) : Prop := ∃ p cap A, OwnL (eI .u8) 5 p cap l A ∧ W = (bw, .cells (⟨.slice p l.length cap⟩ : Wri).c 236 (0, 0)) :: A
theorem ct_Raw {bw b off cap : Nat} {cur : Array Value} {e : TypeId} {fz : Nat × Nat} {l x : List Int} {W : Mem} (hW : WriB bw l W) (hx : Holds (eI .u8) cur off x) (hm : l.length ≤ 100000) (hm2 : x.length ≤ 100000) :
    Ct Try.prog 156 [.pointer (some ⟨bw, 0, none⟩), .slice (some ⟨b, off, none⟩) x.length cap].toArray ((b, .cells cur e fz) :: W) (fun v M' => v = .int .i64 0 ∧ ∃ W', WriB bw (l ++ x) W' ∧ M' = (b, .cells cur e fz) :: W') := by
  obtain ⟨p, capw, A, hA, rfl⟩ := hW
  refine ct_body (rv := [.tmp 4]) [(0, _), (1, _)] Try.func156 (by kernel_rfl) Try.ntmps156 Try.results156 rfl rfl (fun w0 => ?_)
  refine p_seq0 ?_
  refine p_plain0 (0 :: []) ?_
  refine go_q0 4 (.assign (.const (.int .i64 0))) 61 (qv_assign rfl) ?_
  refine go_nil ?_
  change G _ _ _ _
  refine p_seq0 ?_
  refine p_seq0 ?_
  refine p_plain0 (0 :: 1 :: []) ?_
  refine go_q0 5 (.move (.tmp 0)) 266 (qv_move rfl) ?_
  refine go_q0 6 (.binOp .eql 266 (.tmp 5) (.const (.pointer none)) 266) 4 (qv_eqlP un266 rfl) ?_
  refine go_nil ?_
  change G _ _ _ _
  refine p_weaken [0, 1, 4, 6] rfl ?_
  refine p_condF (.tmp 6) (by kernel_rfl) rfl ?_
  refine p_skip0 ?_
  change G _ _ _ _
  refine p_weaken [0, 1, 4] rfl ?_
  refine p_seq0 ?_
  refine p_plain0 (0 :: 1 :: 2 :: 3 :: 4 :: 5 :: 6 :: 7 :: 8 :: 9 :: []) ?_
  refine go_q0 7 (.move (.tmp 0)) 266 (qv_move rfl) ?_
  refine go_q0 8 (.move (.tmp 0)) 266 (qv_move rfl) ?_
  refine go_q0 9 (.nilCheck (.tmp 8)) 0 (qv_nilCheck rfl) ?_
  refine go_q0 10 (.fieldAddr 236 (.tmp 9) 0) 0 (qv_field rfl fd236_0) ?_
  refine go_q0 11 (.load 74 (.tmp 10)) 74 (qv_load rfl .auto (ldv_sca sc74 (get_Wri_0 _))) ?_
  refine go_q0 12 (.move (.tmp 1)) 74 (qv_move rfl) ?_
  refine go_s0 (some 13) (.call { callee := .builtin .append, args := #[.tmp 11, .tmp 12], argTypes := #[74, 74] }) 74 ?_
  refine os_appendL (E := eI .u8) (l := l) (l2 := x) rfl el74 rfl rfl rfl rfl hA (by exact Sel.skip (Sel.skip Sel.all)) (by repeat first | exact .here | apply At.next | apply At.app) hx (eI_one _) (by simp [maxLen]; omega) (by simp; omega) (fun p7 c7 A7 h7 => ?_)
  refine go_q0 14 (.nilCheck (.tmp 7)) 0 (qv_nilCheck rfl) ?_
  refine go_q0 15 (.fieldAddr 236 (.tmp 14) 0) 0 (qv_field rfl fd236_0) ?_
  refine go_s0 none (.store 74 (.tmp 15) (.tmp 13)) 0 ?_
  refine os_store1 rfl rfl sz74 rfl rfl (by repeat first | exact .here | apply Up.next | apply Up.app) (Nat.le_of_ble_eq_true rfl) (set_Wri_0 _ _) ?_
  refine go_nil ?_
  change G _ _ _ _
  refine p_weaken [4] rfl ?_
  refine p_seq0 ?_
  refine p_plain0 (0 :: []) ?_
  refine go_q0 4 (.assign (.const (.int .i64 0))) 61 (qv_assign rfl) ?_
  refine go_nil ?_
  change G _ _ _ _
  refine p_ret0 ?_
  try dsimp only [thenQ, inBlockQ]
  try rw [if_pos rfl]
  refine ret_leftP (((b, .cells cur e fz) :: (bw, .cells (⟨.slice p7 (l.length + x.length) c7⟩ : Wri).c 236 (0, 0)) :: A7)) (.inr rfl) (.cons (res_tmp rfl) .nil) (⟨[], by rw [List.append_nil]; exact List.perm_append_comm (l₁ := A7) (l₂ := [_, _])⟩) ?_
  exact ⟨rfl, (bw, .cells (⟨.slice p7 (l.length + x.length) c7⟩ : Wri).c 236 (0, 0)) :: A7, ⟨p7, c7, A7, h7, by simp⟩, rfl⟩

theorem shr8 (p : Int) : p.fdiv (2 ^ min (8 : Int).toNat IntKind.u64.bits) = p / 256 := by
  rw [show (2 : Int) ^ min (8 : Int).toNat IntKind.u64.bits = 256 by decide]
  exact Int.fdiv_eq_ediv_of_nonneg _ (by decide)
theorem pu_Least {v : Int} (h0 : 0 ≤ v) (h1 : v ≤ 65535) : Pu Try.prog 210 [.int .u64 v] (.int .i64 (if v < 256 then 1 else 2)) := by
  refine ct_body (rv := [.tmp 2]) [(0, _)] Try.func210 (by kernel_rfl) Try.ntmps210 Try.results210 rfl rfl (fun w0 => ?_)
  refine p_seq0 ?_
  refine p_plain0 (0 :: []) ?_
  refine go_q0 2 (.assign (.const (.int .i64 0))) 3 (qv_assign rfl) ?_
  refine go_nil ?_
  change G _ _ _ _
  refine p_seq0 ?_
  refine p_plain0 (0 :: []) ?_
  refine go_q0 3 (.assign (.const (.int .i64 1))) 3 (qv_assign rfl) ?_
  refine go_nil ?_
  change G _ _ _ _
  refine p_seq0 ?_
  refine p_seq0 ?_
  refine p_plain0 (0 :: 1 :: 2 :: []) ?_
  refine go_q0 4 (.move (.tmp 0)) 30 (qv_move rfl) ?_
  refine go_q0 5 (.binOp .shr 30 (.tmp 4) (.const (.int .u64 8)) 220) 30 (qv_shr rfl rfl (by omega) (shr8 v)) ?_
  refine go_q0 0 (.assign (.tmp 5)) 30 (qv_assign rfl) ?_
  refine go_nil ?_
  change G _ _ _ _
  refine p_weaken [0, 2, 3] rfl ?_
  refine p_block 0 (by kernel_rfl) ?_
  refine p_loopE (by kernel_rfl) (fun s m => ∃ (n : Int) (x : Int), ((n = 1 ∧ x = v / 256) ∨ (n = 2 ∧ x = 0 ∧ 256 ≤ v)) ∧ Ge s ⟨[], [(0, .int .u64 x), (2, .int .i64 0), (3, .int .i64 n)], []⟩ ∧ m = (3 - n).toNat) ?_ ?_
  · exact ⟨_, ⟨1, v / 256, by omega, ⟨rfl, ⟨[0, 2, 3], rfl⟩, .auto⟩, rfl⟩⟩
  rintro s m ⟨n, x, hn, hs, rfl⟩
  refine ge_ok hs ?_
  refine p_seq0 ?_
  refine p_seq0 ?_
  refine p_plain0 (0 :: 1 :: []) ?_
  refine go_q0 6 (.move (.tmp 0)) 30 (qv_move rfl) ?_
  refine go_q0 7 (.binOp .gtr 30 (.tmp 6) (.const (.int .u64 0)) 30) 4 (qv_gtr rfl rfl rfl) ?_
  refine go_nil ?_
  change G _ _ _ _
  refine p_weaken [0, 2, 3, 7] rfl ?_
  refine p_cond (.tmp 7) (by kernel_rfl) rfl (fun h7 => ?_) (fun h7 => ?_)
  · replace h7 := kn h7
    refine p_skip0 ?_
    change G _ _ _ _
    refine p_weaken [0, 2, 3] rfl ?_
    refine p_seq0 ?_
    refine p_block 1 (by kernel_rfl) ?_
    refine p_plain0 (0 :: 1 :: 2 :: []) ?_
    refine go_q0 10 (.move (.tmp 3)) 3 (qv_move rfl) ?_
    refine go_q0 11 (.binOp .add 3 (.tmp 10) (.const (.int .i64 1)) 3) 3 (qv_add rfl rfl (by first | exact IntWalk.i64_in _ (by omega) | exact IntWalk.i64_in _ (by dsimp only; omega) | rfl)) ?_
    refine go_q0 3 (.assign (.tmp 11)) 3 (qv_assign rfl) ?_
    refine go_nil ?_
    change G _ _ _ _
    refine p_weaken [0, 2, 3] rfl ?_
    refine p_plain0 (0 :: 1 :: 2 :: []) ?_
    refine go_q0 8 (.move (.tmp 0)) 30 (qv_move rfl) ?_
    refine go_q0 9 (.binOp .shr 30 (.tmp 8) (.const (.int .u64 8)) 220) 30 (qv_shr rfl rfl (by omega) (shr8 x)) ?_
    refine go_q0 0 (.assign (.tmp 9)) 30 (qv_assign rfl) ?_
    refine go_nil ?_
    exact ⟨_, ⟨n + 1, x / 256, by omega, ⟨rfl, ⟨[0, 2, 3], rfl⟩, .auto⟩, rfl⟩, by omega⟩
  replace h7 := kn h7
  refine p_exit 0 (by kernel_rfl) ?_
  change G _ _ _ _
  refine p_weaken [2, 3] rfl ?_
  refine p_seq0 ?_
  refine p_plain0 (0 :: 1 :: []) ?_
  refine go_q0 12 (.move (.tmp 3)) 3 (qv_move rfl) ?_
  refine go_q0 2 (.assign (.tmp 12)) 3 (qv_assign rfl) ?_
  refine go_nil ?_
  change G _ _ _ _
  refine p_weaken [2] rfl ?_
  refine p_ret0 ?_
  try dsimp only [thenQ, inBlockQ]
  try rw [if_pos rfl]
  refine ret_now (.inr rfl) (.cons (res_tmp rfl) .nil) (by repeat constructor) ?_
  refine ⟨?_, rfl⟩
  split
  · rw [show n = 1 by omega]; rfl
  · rw [show n = 2 by omega]; rfl
theorem pu_bitsRight2 : Pu Try.prog 209 [.int .i64 2] (.bool true) := by
  refine ct_body (rv := [.tmp 2]) [(0, _)] Try.func209 (by kernel_rfl) Try.ntmps209 Try.results209 rfl rfl (fun w0 => ?_)
  refine p_seq0 ?_
  refine p_plain0 (0 :: []) ?_
  refine go_q0 2 (.assign (.const (.bool false))) 4 (qv_assign rfl) ?_
  refine go_nil ?_
  change G _ _ _ _
  refine p_seq0 ?_
  refine p_plain0 (0 :: 1 :: 2 :: 3 :: 4 :: 5 :: 6 :: []) ?_
  refine go_q0 3 (.move (.tmp 0)) 3 (qv_move rfl) ?_
  refine go_q0 4 (.binOp .geq 3 (.tmp 3) (.const (.int .i64 1)) 3) 4 (qv_geq (b := true) rfl rfl (decide_eq_true (by omega))) ?_
  refine go_q0 5 (.move (.tmp 4)) 4 (qv_move rfl) ?_
  refine go_q (d := 6) (op := .move (.tmp 0)) (ty := 3) (g := some (2, true)) (by kernel_rfl) ⟨5, by kernel_rfl, rfl⟩ rfl (qv_move rfl) ?_
  refine go_q (d := 7) (op := .binOp .leq 3 (.tmp 6) (.const (.int .i64 8)) 3) (ty := 4) (g := some (2, true)) (by kernel_rfl) ⟨5, by kernel_rfl, rfl⟩ rfl (qv_leq (b := true) rfl rfl (decide_eq_true (by omega))) ?_
  refine go_q0 8 (.pick (.tmp 5) (.tmp 7) (.const (.bool false))) 4 (qv_pick_t rfl rfl) ?_
  refine go_q0 2 (.assign (.tmp 8)) 4 (qv_assign rfl) ?_
  refine go_nil ?_
  change G _ _ _ _
  refine p_weaken [2] rfl ?_
  refine p_ret0 ?_
  try dsimp only [thenQ, inBlockQ]
  try rw [if_pos rfl]
  refine ret_now (.inr rfl) (.cons (res_tmp rfl) .nil) (by repeat constructor) ?_
  exact ⟨rfl, rfl⟩
theorem pu_fits2 {v : Int} (h0 : 0 ≤ v) (h1 : v ≤ 65535) : Pu Try.prog 187 [.int .u64 v, .int .i64 2] (.bool true) := by
  refine ct_body (rv := [.tmp 4]) [(0, _), (1, _)] Try.func187 (by kernel_rfl) Try.ntmps187 Try.results187 rfl rfl (fun w0 => ?_)
  refine p_seq0 ?_
  refine p_plain0 (0 :: []) ?_
  refine go_q0 4 (.assign (.const (.bool false))) 4 (qv_assign rfl) ?_
  refine go_nil ?_
  change G _ _ _ _
  refine p_seq0 ?_
  refine p_plain0 (0 :: 1 :: 2 :: 3 :: 4 :: 5 :: 6 :: 7 :: 8 :: []) ?_
  refine go_q0 5 (.move (.tmp 1)) 3 (qv_move rfl) ?_
  refine go_s0 (some 6) (.call { callee := .value (.func 209), args := #[.tmp 5], argTypes := #[3] }) 4 ?_
  refine os_callP rfl en209 rfl (pu_bitsRight2) ?_
  refine go_q0 7 (.move (.tmp 6)) 4 (qv_move rfl) ?_
  refine go_q (d := 8) (op := .move (.tmp 0)) (ty := 30) (g := some (2, true)) (by kernel_rfl) ⟨7, by kernel_rfl, rfl⟩ rfl (qv_move rfl) ?_
  refine go_s (d := some 9) (op := .call { callee := .value (.func 210), args := #[.tmp 8], argTypes := #[30] }) (ty := 3) (g := some (2, true)) (by kernel_rfl) ⟨7, by kernel_rfl, rfl⟩ ?_
  refine os_callP rfl en210 rfl (pu_Least h0 h1) ?_
  refine go_q (d := 10) (op := .move (.tmp 1)) (ty := 3) (g := some (2, true)) (by kernel_rfl) ⟨7, by kernel_rfl, rfl⟩ rfl (qv_move rfl) ?_
  refine go_q (d := 11) (op := .binOp .leq 3 (.tmp 9) (.tmp 10) 3) (ty := 4) (g := some (2, true)) (by kernel_rfl) ⟨7, by kernel_rfl, rfl⟩ rfl (qv_leq (b := true) rfl rfl (decide_eq_true (by split <;> omega))) ?_
  refine go_q0 12 (.pick (.tmp 7) (.tmp 11) (.const (.bool false))) 4 (qv_pick_t rfl rfl) ?_
  refine go_q0 4 (.assign (.tmp 12)) 4 (qv_assign rfl) ?_
  refine go_nil ?_
  change G _ _ _ _
  refine p_weaken [4] rfl ?_
  refine p_ret0 ?_
  try dsimp only [thenQ, inBlockQ]
  try rw [if_pos rfl]
  refine ret_now (.inr rfl) (.cons (res_tmp rfl) .nil) (by repeat constructor) ?_
  exact ⟨rfl, rfl⟩
def tw (v : Int) : Nat → Array Value
  | 0 => #[.int .u8 0, .int .u8 0]
  | 1 => #[.int .u8 0, .int .u8 (v % 256)]
  | _ => #[.int .u8 (v / 256), .int .u8 (v % 256)]
theorem tw_step {v : Int} (h0 : 0 ≤ v) (h1 : v ≤ 65535) {i : Nat} (hi : i < 2) : (tw v i).setIfInBounds (0 + (1 - i) * 1) (.int .u8 (IntKind.u8.wrap (v.fdiv (2 ^ min ((8 : Int) * i).toNat IntKind.u64.bits)))) = tw v (i + 1) := by
  have : i = 0 ∨ i = 1 := by omega
  rcases this with rfl | rfl
  · have e1 : v.fdiv (2 ^ min ((8 : Int) * (0 : Nat)).toNat IntKind.u64.bits) = v := by
      rw [show (2 : Int) ^ min ((8 : Int) * (0 : Nat)).toNat IntKind.u64.bits = 1 by decide]
      exact Int.fdiv_one v
    rw [e1]
    have e2 : IntKind.u8.wrap v = v % 256 := by simp [IntKind.wrap, IntKind.bits, IntKind.signed]
    rw [e2]
    rfl
  · have e1 : v.fdiv (2 ^ min ((8 : Int) * (1 : Nat)).toNat IntKind.u64.bits) = v / 256 := shr8 v
    rw [e1]
    have e2 : IntKind.u8.wrap (v / 256) = v / 256 := IntWalk.u8_in _ (by omega)
    rw [e2]
    rfl
theorem ct_of2 {v : Int} (h0 : 0 ≤ v) (h1 : v ≤ 65535) : Ct Try.prog 188 [.int .u64 v, .int .i64 2].toArray [] (fun u A => OwnB u [v / 256, v % 256] A) := by
  refine ct_body (rv := [.tmp 4]) [(0, _), (1, _)] Try.func188 (by kernel_rfl) Try.ntmps188 Try.results188 rfl rfl (fun w0 => ?_)
  refine p_seq0 ?_
  refine p_plain0 (0 :: []) ?_
  refine go_q0 4 (.assign (.const (.slice none 0 0))) 74 (qv_assign rfl) ?_
  refine go_nil ?_
  change G _ _ _ _
  refine p_seq0 ?_
  refine p_plain0 (0 :: 1 :: 2 :: []) ?_
  refine go_q0 7 (.move (.tmp 1)) 3 (qv_move rfl) ?_
  refine go_s0 (some 8) (.makeSlice 74 (.tmp 7) (.tmp 7)) 74 ?_
  refine os_makeSlice (n := 2) (c := 2) (cs := #[.int .u8 0, .int .u8 0]) (e := 5) (Nat.le_of_ble_eq_true rfl) rfl rfl (fun _ => by kernel_rfl) (fun b8 => ?_)
  refine go_q0 5 (.assign (.tmp 8)) 74 (qv_assign rfl) ?_
  refine go_nil ?_
  change G _ _ _ _
  refine p_weaken [0, 1, 4, 5] rfl ?_
  refine p_seq0 ?_
  refine p_seq0 ?_
  refine p_plain0 (0 :: 1 :: []) ?_
  refine go_q0 9 (.move (.tmp 1)) 3 (qv_move rfl) ?_
  refine go_q0 10 (.move (.const (.int .i64 0))) 3 (qv_move rfl) ?_
  refine go_nil ?_
  change G _ _ _ _
  refine p_block 0 (by kernel_rfl) ?_
  refine p_loopE (by kernel_rfl) (fun s m => ∃ (i : Nat), (i ≤ 2) ∧ Ge s ⟨[], [(0, .int .u64 v), (1, .int .i64 2), (4, .slice none 0 0), (5, .slice (some ⟨b8, 0, none⟩) 2 2), (9, .int .i64 2), (10, .int .i64 i)], [(b8, .cells (tw v i) 5 (0, 0))]⟩ ∧ m = 2 - i) ?_ ?_
  · exact ⟨_, ⟨0, by omega, ⟨rfl, ⟨[0, 1, 4, 5, 9, 10], rfl⟩, .auto⟩, rfl⟩⟩
  rintro s m ⟨i, hi, hs, rfl⟩
  refine ge_ok hs ?_
  refine p_seq0 ?_
  refine p_plain0 (0 :: []) ?_
  refine go_q0 11 (.binOp .lss 3 (.tmp 10) (.tmp 9) 3) 4 (qv_lss rfl rfl rfl) ?_
  refine go_nil ?_
  change G _ _ _ _
  refine p_seq0 ?_
  refine p_cond (.tmp 11) (by kernel_rfl) rfl (fun h11 => ?_) (fun h11 => ?_)
  rotate_left
  · replace h11 := kn h11
    refine p_exit 0 (by kernel_rfl) ?_
    change G _ _ _ _
    refine p_weaken [4, 5] rfl ?_
    refine p_seq0 ?_
    have hi2 : i = 2 := by omega
    subst hi2
    refine p_plain0 (0 :: 1 :: []) ?_
    refine go_q0 25 (.move (.tmp 5)) 74 (qv_move rfl) ?_
    refine go_q0 4 (.assign (.tmp 25)) 74 (qv_assign rfl) ?_
    refine go_nil ?_
    change G _ _ _ _
    refine p_weaken [4] rfl ?_
    refine p_ret0 ?_
    try dsimp only [thenQ, inBlockQ]
    try rw [if_pos rfl]
    refine ret_left ([(b8, .cells (tw v 2) 5 (0, 0))]) (.inr rfl) (.cons (res_tmp rfl) .nil) .auto ?_
    exact ⟨some ⟨b8, 0, none⟩, 2, rfl, OwnL.of_build rfl rfl (by decide)⟩
  replace h11 := kn h11
  refine p_skip0 ?_
  change G _ _ _ _
  refine p_weaken [0, 1, 4, 5, 9, 10] rfl ?_
  refine p_seq0 ?_
  refine p_block 1 (by kernel_rfl) ?_
  refine p_seq0 ?_
  refine p_plain0 (0 :: 1 :: []) ?_
  refine go_q0 12 (.move (.tmp 10)) 3 (qv_move rfl) ?_
  refine go_q0 6 (.assign (.tmp 12)) 3 (qv_assign rfl) ?_
  refine go_nil ?_
  change G _ _ _ _
  refine p_weaken [0, 1, 4, 5, 6, 9, 10] rfl ?_
  refine p_plain0 (0 :: 1 :: 2 :: 3 :: 4 :: 5 :: 6 :: 7 :: 8 :: 9 :: 10 :: 11 :: []) ?_
  refine go_q0 13 (.move (.tmp 5)) 74 (qv_move rfl) ?_
  refine go_q0 14 (.move (.tmp 1)) 3 (qv_move rfl) ?_
  refine go_q0 15 (.binOp .sub 3 (.tmp 14) (.const (.int .i64 1)) 3) 3 (qv_sub rfl rfl (by first | exact IntWalk.i64_in _ (by omega) | exact IntWalk.i64_in _ (by dsimp only; omega) | rfl)) ?_
  refine go_q0 16 (.move (.tmp 6)) 3 (qv_move rfl) ?_
  refine go_q0 17 (.binOp .sub 3 (.tmp 15) (.tmp 16) 3) 3 (qv_sub rfl rfl (by first | exact IntWalk.i64_in _ (by omega) | exact IntWalk.i64_in _ (by dsimp only; omega) | rfl)) ?_
  refine go_q0 18 (.move (.tmp 0)) 30 (qv_move rfl) ?_
  refine go_q0 19 (.move (.tmp 6)) 3 (qv_move rfl) ?_
  refine go_q0 20 (.binOp .mul 3 (.const (.int .i64 8)) (.tmp 19) 3) 3 (qv_mul rfl rfl (by first | exact IntWalk.i64_in _ (by omega) | exact IntWalk.i64_in _ (by dsimp only; omega) | rfl)) ?_
  refine go_q0 21 (.binOp .shr 30 (.tmp 18) (.tmp 20) 3) 30 (qv_shr rfl rfl (by omega) (rfl)) ?_
  refine go_q0 22 (.convert 30 5 (.tmp 21)) 5 (qv_conv un30 un5 rfl (by first | exact IntWalk.u8_in _ (by omega) | rfl)) ?_
  refine go_q0 23 (.indexAddr 74 (.tmp 13) (.tmp 17)) 0 (qv_index un74 sz5 rfl rfl (j := 1 - i) (by omega) (by omega)) ?_
  refine go_s0 none (.store 5 (.tmp 23) (.tmp 22)) 0 ?_
  refine os_store1 rfl rfl sz5 rfl rfl .here (by have : i = 0 ∨ i = 1 := (by omega); rcases this with rfl | rfl <;> exact Nat.le_of_ble_eq_true rfl) (tw_step h0 h1 (by omega)) ?_
  refine go_nil ?_
  change G _ _ _ _
  refine p_weaken [0, 1, 4, 5, 9, 10] rfl ?_
  refine p_plain0 (0 :: 1 :: []) ?_
  refine go_q0 24 (.binOp .add 3 (.tmp 10) (.const (.int .i64 1)) 3) 3 (qv_add rfl rfl (by first | exact IntWalk.i64_in _ (by omega) | exact IntWalk.i64_in _ (by dsimp only; omega) | rfl)) ?_
  refine go_q0 10 (.move (.tmp 24)) 3 (qv_move rfl) ?_
  refine go_nil ?_
  exact ⟨_, ⟨i + 1, by omega, ⟨rfl, ⟨[0, 1, 4, 5, 9, 10], rfl⟩, .auto⟩, rfl⟩, by omega⟩
theorem ct_Put2 {bw : Nat} {l : List Int} {W : Mem} {v : Int} (hW : WriB bw l W) (hm : l.length ≤ 100000) (h0 : 0 ≤ v) (h1 : v ≤ 65535) :
    Ct Try.prog 157 [.pointer (some ⟨bw, 0, none⟩), .int .u64 v, .int .i64 2].toArray W (fun u M' => u = .int .i64 0 ∧ WriB bw (l ++ [v / 256, v % 256]) M') := by
  refine ct_body (rv := [.tmp 6]) [(0, _), (1, _), (2, _)] Try.func157 (by kernel_rfl) Try.ntmps157 Try.results157 rfl rfl (fun w0 => ?_)
  refine p_seq0 ?_
  refine p_plain0 (0 :: []) ?_
  refine go_q0 6 (.assign (.const (.int .i64 0))) 61 (qv_assign rfl) ?_
  refine go_nil ?_
  change G _ _ _ _
  refine p_seq0 ?_
  refine p_seq0 ?_
  refine p_plain0 (0 :: 1 :: []) ?_
  refine go_q0 7 (.move (.tmp 0)) 266 (qv_move rfl) ?_
  refine go_q0 8 (.binOp .eql 266 (.tmp 7) (.const (.pointer none)) 266) 4 (qv_eqlP un266 rfl) ?_
  refine go_nil ?_
  change G _ _ _ _
  refine p_weaken [0, 1, 2, 6, 8] rfl ?_
  refine p_condF (.tmp 8) (by kernel_rfl) rfl ?_
  refine p_skip0 ?_
  change G _ _ _ _
  refine p_weaken [0, 1, 2, 6] rfl ?_
  refine p_seq0 ?_
  refine p_seq0 ?_
  refine p_plain0 (0 :: 1 :: 2 :: 3 :: []) ?_
  refine go_q0 9 (.move (.tmp 1)) 30 (qv_move rfl) ?_
  refine go_q0 10 (.move (.tmp 2)) 3 (qv_move rfl) ?_
  refine go_s0 (some 11) (.call { callee := .value (.func 187), args := #[.tmp 9, .tmp 10], argTypes := #[30, 3] }) 4 ?_
  refine os_callP rfl en187 rfl (pu_fits2 h0 h1) ?_
  refine go_q0 12 (.unOp .not 4 (.tmp 11)) 4 (qv_not rfl) ?_
  refine go_nil ?_
  change G _ _ _ _
  refine p_weaken [0, 1, 2, 6, 12] rfl ?_
  refine p_condF (.tmp 12) (by kernel_rfl) rfl ?_
  refine p_skip0 ?_
  change G _ _ _ _
  refine p_weaken [0, 1, 2, 6] rfl ?_
  refine p_seq0 ?_
  refine p_plain0 (0 :: 1 :: 2 :: 3 :: 4 :: 5 :: []) ?_
  refine go_q0 13 (.move (.tmp 0)) 266 (qv_move rfl) ?_
  refine go_q0 14 (.move (.tmp 1)) 30 (qv_move rfl) ?_
  refine go_q0 15 (.move (.tmp 2)) 3 (qv_move rfl) ?_
  refine go_s0 (some 16) (.call { callee := .value (.func 188), args := #[.tmp 14, .tmp 15], argTypes := #[30, 3] }) 74 ?_
  refine os_call (Nat.le_of_ble_eq_true rfl) en188 rfl .auto (ct_of2 h0 h1) ?_
  rintro v16 A16 hB
  try dsimp only [List.nil_append, List.cons_append]
  obtain ⟨b16, c16, cur16, rfl, rfl, -, H16⟩ := hB.some_ (by simp)
  try dsimp only [List.nil_append, List.cons_append]
  refine go_s0 (some 17) (.call { callee := .value (.func 156), args := #[.tmp 13, .tmp 16], argTypes := #[266, 74] }) 61 ?_
  refine os_call (Nat.le_of_ble_eq_true rfl) en156 rfl .auto (ct_Raw hW H16 hm (by simp)) ?_
  rintro v17 A17 ⟨rfl, W', hW', rfl⟩
  try dsimp only [List.nil_append, List.cons_append]
  refine go_q0 6 (.assign (.tmp 17)) 61 (qv_assign rfl) ?_
  refine go_nil ?_
  change G _ _ _ _
  refine p_weaken [6] rfl ?_
  refine p_ret0 ?_
  try dsimp only [thenQ, inBlockQ]
  try rw [if_pos rfl]
  refine ret_left (W') (.inr rfl) (.cons (res_tmp rfl) .nil) .auto ?_
  exact ⟨rfl, hW'⟩

def keyBytes (k : Key) : List Int := if k.right then [if k.src.six then 6 else 4] ++ adrBytes k.src ++ adrBytes k.dst ++ [k.proto] ++ [k.srcPort / 256, k.srcPort % 256] ++ [k.dstPort / 256, k.dstPort % 256] else []
def InP (x : Int) : Prop := 0 ≤ x ∧ x ≤ 65535
theorem WriB.own {bw : Nat} {l : List Int} {W : Mem} (h : WriB bw l W) (hl : 0 < l.length) : ∃ b cap cur, W = [(bw, .cells (⟨.slice (some ⟨b, 0, none⟩) l.length cap⟩ : Wri).c 236 (0, 0)), (b, .cells cur 5 (0, 0))] ∧ Holds (eI .u8) cur 0 l := by
  obtain ⟨p, cap, A, hA, rfl⟩ := h
  obtain ⟨b, cur, rfl, rfl, _, _, _, h1⟩ := hA.some_ hl
  exact ⟨b, cap, cur, rfl, h1⟩
/-- slices.Clone of bytes. -/
theorem ct_cloneB {b off cap : Nat} {cur : Array Value} {e : TypeId} {fz : Nat × Nat} {l : List Int} (hl : Holds (eI .u8) cur off l) (hm : l.length ≤ 1000000) :
    Ct Try.prog 189 [.slice (some ⟨b, off, none⟩) l.length cap].toArray [(b, .cells cur e fz)] (fun v M' => ∃ A, OwnB v l A ∧ M' = A ++ [(b, .cells cur e fz)]) := by
  refine ct_body (rv := [.tmp 2]) [(0, _)] Try.func189 (by kernel_rfl) Try.ntmps189 Try.results189 rfl rfl (fun w0 => ?_)
  refine p_seq0 ?_
  refine p_plain0 (0 :: []) ?_
  refine go_q0 2 (.assign (.const (.slice none 0 0))) 74 (qv_assign rfl) ?_
  refine go_nil ?_
  change G _ _ _ _
  refine p_seq0 ?_
  refine p_seq0 ?_
  refine p_plain0 (0 :: 1 :: []) ?_
  refine go_q0 3 (.move (.tmp 0)) 74 (qv_move rfl) ?_
  refine go_q0 4 (.binOp .eql 74 (.tmp 3) (.const (.slice none 0 0)) 74) 4 (qv_eqlS un74 rfl) ?_
  refine go_nil ?_
  change G _ _ _ _
  refine p_weaken [0, 2, 4] rfl ?_
  refine p_condF (.tmp 4) (by kernel_rfl) rfl ?_
  refine p_skip0 ?_
  change G _ _ _ _
  refine p_weaken [0, 2] rfl ?_
  refine p_seq0 ?_
  refine p_plain0 (0 :: 1 :: 2 :: 3 :: []) ?_
  refine go_s0 (some 5) (.buildSlice 74 0 #[]) 74 ?_
  refine os_buildSlice (Nat.le_of_ble_eq_true rfl) rfl (bls74_0) (fun b5 => ?_)
  refine go_q0 6 (.move (.tmp 0)) 74 (qv_move rfl) ?_
  refine go_s0 (some 7) (.call { callee := .builtin .append, args := #[.tmp 5, .tmp 6], argTypes := #[74, 74] }) 74 ?_
  refine os_appendL (E := eI .u8) (l := []) (l2 := l) rfl el74 rfl rfl rfl rfl (OwnL.of_build rfl rfl (by decide)) (by repeat constructor) (by repeat constructor) hl (eI_one _) (by simp [maxLen]; omega) (by simp; omega) (fun p7 c7 A7 h7 => ?_)
  refine go_q0 2 (.assign (.tmp 7)) 74 (qv_assign rfl) ?_
  refine go_nil ?_
  change G _ _ _ _
  refine p_weaken [2] rfl ?_
  refine p_ret0 ?_
  try dsimp only [thenQ, inBlockQ]
  try rw [if_pos rfl]
  refine ret_left (A7 ++ [(b, .cells cur e fz)]) (.inr rfl) (.cons (res_tmp rfl) .nil) .auto ?_
  exact ⟨A7, ⟨p7, c7, by simp [E.valOf], by simpa using h7⟩, rfl⟩
theorem ct_WBytes {bw : Nat} {l : List Int} {W : Mem} (hW : WriB bw l W) (hl : 0 < l.length) (hm : l.length ≤ 1000000) : Ct Try.prog 158 [.pointer (some ⟨bw, 0, none⟩)].toArray W (fun v A => OwnB v l A) := by
  obtain ⟨b, cap, cur, rfl, hh⟩ := hW.own hl
  refine ct_body (rv := [.tmp 2]) [(0, _)] Try.func158 (by kernel_rfl) Try.ntmps158 Try.results158 rfl rfl (fun w0 => ?_)
  refine p_seq0 ?_
  refine p_plain0 (0 :: []) ?_
  refine go_q0 2 (.assign (.const (.slice none 0 0))) 74 (qv_assign rfl) ?_
  refine go_nil ?_
  change G _ _ _ _
  refine p_seq0 ?_
  refine p_seq0 ?_
  refine p_plain0 (0 :: 1 :: []) ?_
  refine go_q0 3 (.move (.tmp 0)) 266 (qv_move rfl) ?_
  refine go_q0 4 (.binOp .eql 266 (.tmp 3) (.const (.pointer none)) 266) 4 (qv_eqlP un266 rfl) ?_
  refine go_nil ?_
  change G _ _ _ _
  refine p_weaken [0, 2, 4] rfl ?_
  refine p_condF (.tmp 4) (by kernel_rfl) rfl ?_
  refine p_skip0 ?_
  change G _ _ _ _
  refine p_weaken [0, 2] rfl ?_
  refine p_seq0 ?_
  refine p_plain0 (0 :: 1 :: 2 :: 3 :: 4 :: 5 :: []) ?_
  refine go_q0 5 (.move (.tmp 0)) 266 (qv_move rfl) ?_
  refine go_q0 6 (.nilCheck (.tmp 5)) 0 (qv_nilCheck rfl) ?_
  refine go_q0 7 (.fieldAddr 236 (.tmp 6) 0) 0 (qv_field rfl fd236_0) ?_
  refine go_q0 8 (.load 74 (.tmp 7)) 74 (qv_load rfl .auto (ldv_sca sc74 (get_Wri_0 _))) ?_
  refine go_s0 (some 9) (.call { callee := .value (.func 189), args := #[.tmp 8], argTypes := #[74] }) 74 ?_
  refine os_call (Nat.le_of_ble_eq_true rfl) en189 rfl .auto (ct_cloneB hh hm) ?_
  rintro v9 A9 ⟨A, hB, rfl⟩
  try dsimp only [List.nil_append, List.cons_append]
  rw [List.append_assoc]
  refine go_q0 2 (.assign (.tmp 9)) 74 (qv_assign rfl) ?_
  refine go_nil ?_
  change G _ _ _ _
  refine p_weaken [2] rfl ?_
  refine p_ret0 ?_
  try dsimp only [thenQ, inBlockQ]
  try rw [if_pos rfl]
  refine ret_left (A) (.inr rfl) (.cons (res_tmp rfl) .nil) .auto ?_
  exact hB
theorem ze236 : Zer Try.prog 236 (.agg (⟨.slice none 0 0⟩ : Wri).c) := fun _ => by kernel_rfl
theorem ct_KeyBytes (k : Key) (hk : k.Wf) : Ct Try.prog 115 [.agg k.c].toArray [] (fun v A => OwnB v (keyBytes k) A) := by
  refine ct_body (rv := [.tmp 2]) [(0, _)] Try.func115 (by kernel_rfl) Try.ntmps115 Try.results115 rfl rfl (fun w0 => ?_)
  obtain ⟨hs0, hs1⟩ : InP k.srcPort := hk.srcPort_
  obtain ⟨hd0, hd1⟩ : InP k.dstPort := hk.dstPort_
  have hsrc := adr_le k.src
  have hdst := adr_le k.dst
  refine p_seq0 ?_
  refine p_plain0 (0 :: 1 :: []) ?_
  refine go_s0 (some 1) (.box 27 (.tmp 0)) 0 ?_
  refine os_boxA rfl rfl (fun b1 => ?_)
  refine go_q0 2 (.assign (.const (.slice none 0 0))) 74 (qv_assign rfl) ?_
  refine go_nil ?_
  change G _ _ _ _
  refine p_weaken [1, 2] rfl ?_
  refine p_seq0 ?_
  refine p_seq0 ?_
  refine p_plain0 (0 :: 1 :: 2 :: []) ?_
  refine go_q0 5 (.load 27 (.tmp 1)) 27 (qv_load rfl .auto (ldv_agg agg27 (extw_Key _) (Nat.le_of_ble_eq_true rfl))) ?_
  refine go_s0 (some 6) (.call { callee := .value (.func 43), args := #[.tmp 5], argTypes := #[27] }) 4 ?_
  refine os_callP rfl en43 rfl (pu_KeyRight k) ?_
  refine go_q0 7 (.unOp .not 4 (.tmp 6)) 4 (qv_not rfl) ?_
  refine go_nil ?_
  change G _ _ _ _
  refine p_weaken [1, 2, 7] rfl ?_
  refine p_cond (.tmp 7) (by kernel_rfl) rfl (fun h7 => ?_) (fun h7 => ?_)
  · replace h7 := kn h7
    refine p_seq0 ?_
    refine p_plain0 (0 :: []) ?_
    refine go_q0 2 (.assign (.const (.slice none 0 0))) 74 (qv_assign rfl) ?_
    refine go_nil ?_
    change G _ _ _ _
    refine p_weaken [1, 2] rfl ?_
    refine p_ret0 ?_
    try dsimp only [thenQ, inBlockQ]
    try rw [if_pos rfl]
    refine ret_now (.inr rfl) (.cons (res_tmp rfl) .nil) (by repeat constructor) ?_
    exact ⟨none, 0, by simp [keyBytes, h7, E.valOf], by simp [keyBytes, h7]; exact OwnL.nil⟩
  replace h7 := kn h7
  refine p_skip0 ?_
  change G _ _ _ _
  refine p_weaken [1, 2] rfl ?_
  refine p_seq0 ?_
  refine p_plain0 (0 :: []) ?_
  refine go_s0 (some 3) (.alloc 236) 0 ?_
  refine os_allocA rfl ze236 (fun b3 => ?_)
  refine go_nil ?_
  change G _ _ _ _
  refine p_seq0 ?_
  refine p_plain0 (0 :: []) ?_
  refine go_q0 4 (.assign (.const (.int .u8 4))) 5 (qv_assign rfl) ?_
  refine go_nil ?_
  change G _ _ _ _
  refine p_seqJ (fun s => Ge s ⟨[], [(1, .pointer (some ⟨b1, 0, none⟩)), (2, .slice none 0 0), (3, .pointer (some ⟨b3, 0, none⟩)), (4, .int .u8 (if k.src.six then 6 else 4))], [(b3, .cells (⟨.slice none 0 0⟩ : Wri).c 236 (0, 0)), (b1, .cells k.c 27 (0, 0))]⟩) (by kernel_rfl) ?_ ?_
  · refine p_seq0 ?_
    refine p_plain0 (0 :: 1 :: 2 :: []) ?_
    refine go_q0 8 (.fieldAddr 27 (.tmp 1) 0) 0 (qv_field rfl fd27_0) ?_
    refine go_q0 9 (.fieldAddr 24 (.tmp 8) 0) 0 (qv_field rfl fd24_0) ?_
    refine go_q0 10 (.load 4 (.tmp 9)) 4 (qv_load rfl .auto (ldv_sca sc4 (get_Key_0 _))) ?_
    refine go_nil ?_
    change G _ _ _ _
    refine p_weaken [1, 2, 3, 4, 10] rfl ?_
    refine p_cond (.tmp 10) (by kernel_rfl) rfl (fun h10 => ?_) (fun h10 => ?_)
    rotate_left
    · replace h10 := kn h10
      refine p_skip0 ?_
      rw [h10]
      exact ⟨rfl, ⟨[1, 2, 3, 4], rfl⟩, .auto⟩
    replace h10 := kn h10
    refine p_plain0 (0 :: []) ?_
    refine go_q0 4 (.assign (.const (.int .u8 6))) 5 (qv_assign rfl) ?_
    refine go_nil ?_
    rw [h10]
    exact ⟨rfl, ⟨[1, 2, 3, 4], rfl⟩, .auto⟩
  rintro s hs
  refine ge_ok hs ?_
  refine p_seq0 ?_
  refine p_plain0 (0 :: 1 :: 2 :: []) ?_
  refine go_q0 11 (.move (.tmp 4)) 5 (qv_move rfl) ?_
  refine go_s0 (some 12) (.buildSlice 74 1 #[(0, .tmp 11)]) 74 ?_
  refine os_buildSlice (Nat.le_of_ble_eq_true rfl) rfl (bls74_1 _) (fun b12 => ?_)
  refine go_s0 (some 13) (.call { callee := .value (.func 156), args := #[.tmp 3, .tmp 12], argTypes := #[236, 74] }) 61 ?_
  refine os_call (Nat.le_of_ble_eq_true rfl) en156 rfl .auto (ct_Raw (l := []) (x := [if k.src.six then 6 else 4]) (W := [(b3, .cells (⟨.slice none 0 0⟩ : Wri).c 236 (0, 0))]) ⟨none, 0, [], OwnL.nil, rfl⟩ (Holds.whole rfl) (by simp) (by simp)) ?_
  rintro v13 A13 ⟨rfl, W1, hW1, rfl⟩
  try dsimp only [List.nil_append, List.cons_append]
  try dsimp only [List.nil_append, List.cons_append]
  refine go_nil ?_
  change G _ _ _ _
  refine p_weaken [1, 2, 3] rfl ?_
  refine p_seq0 ?_
  refine p_plain0 (0 :: 1 :: 2 :: 3 :: []) ?_
  refine go_q0 14 (.fieldAddr 27 (.tmp 1) 0) 0 (qv_field rfl fd27_0) ?_
  refine go_q0 15 (.load 24 (.tmp 14)) 24 (qv_load rfl .auto (ldv_agg agg24 (ext_Key_0_17 _) (Nat.le_of_ble_eq_true rfl))) ?_
  refine go_s0 (some 16) (.call { callee := .value (.func 90), args := #[.tmp 15], argTypes := #[24] }) 74 ?_
  refine os_call (Nat.le_of_ble_eq_true rfl) en90 rfl .auto (ct_AddrBytes k.src) ?_
  rintro v16 A16 hB1
  try dsimp only [List.nil_append, List.cons_append]
  obtain ⟨bs, cs, curs, rfl, rfl, -, Hs⟩ := hB1.some_ hsrc.1
  try dsimp only [List.nil_append, List.cons_append]
  refine go_s0 (some 17) (.call { callee := .value (.func 156), args := #[.tmp 3, .tmp 16], argTypes := #[236, 74] }) 61 ?_
  refine os_call (Nat.le_of_ble_eq_true rfl) en156 rfl .auto (ct_Raw hW1 Hs (by simp) (by omega)) ?_
  rintro v17 A17 ⟨rfl, W2, hW2, rfl⟩
  try dsimp only [List.nil_append, List.cons_append]
  try dsimp only [List.nil_append, List.cons_append]
  refine go_nil ?_
  change G _ _ _ _
  refine p_weaken [1, 2, 3] rfl ?_
  refine p_seq0 ?_
  refine p_plain0 (0 :: 1 :: 2 :: 3 :: []) ?_
  refine go_q0 18 (.fieldAddr 27 (.tmp 1) 1) 0 (qv_field rfl fd27_1) ?_
  refine go_q0 19 (.load 24 (.tmp 18)) 24 (qv_load rfl .auto (ldv_agg agg24 (ext_Key_17_17 _) (Nat.le_of_ble_eq_true rfl))) ?_
  refine go_s0 (some 20) (.call { callee := .value (.func 90), args := #[.tmp 19], argTypes := #[24] }) 74 ?_
  refine os_call (Nat.le_of_ble_eq_true rfl) en90 rfl .auto (ct_AddrBytes k.dst) ?_
  rintro v20 A20 hB2
  try dsimp only [List.nil_append, List.cons_append]
  obtain ⟨bd, cd, curd, rfl, rfl, -, Hd⟩ := hB2.some_ hdst.1
  try dsimp only [List.nil_append, List.cons_append]
  refine go_s0 (some 21) (.call { callee := .value (.func 156), args := #[.tmp 3, .tmp 20], argTypes := #[236, 74] }) 61 ?_
  refine os_call (Nat.le_of_ble_eq_true rfl) en156 rfl .auto (ct_Raw hW2 Hd (by simp; omega) (by omega)) ?_
  rintro v21 A21 ⟨rfl, W3, hW3, rfl⟩
  try dsimp only [List.nil_append, List.cons_append]
  try dsimp only [List.nil_append, List.cons_append]
  refine go_nil ?_
  change G _ _ _ _
  refine p_weaken [1, 2, 3] rfl ?_
  refine p_seq0 ?_
  refine p_plain0 (0 :: 1 :: 2 :: 3 :: []) ?_
  refine go_q0 22 (.fieldAddr 27 (.tmp 1) 2) 0 (qv_field rfl fd27_2) ?_
  refine go_q0 23 (.load 5 (.tmp 22)) 5 (qv_load rfl .auto (ldv_sca sc5 (get_Key_34 _))) ?_
  refine go_s0 (some 24) (.buildSlice 74 1 #[(0, .tmp 23)]) 74 ?_
  refine os_buildSlice (Nat.le_of_ble_eq_true rfl) rfl (bls74_1 _) (fun b24 => ?_)
  refine go_s0 (some 25) (.call { callee := .value (.func 156), args := #[.tmp 3, .tmp 24], argTypes := #[236, 74] }) 61 ?_
  refine os_call (Nat.le_of_ble_eq_true rfl) en156 rfl .auto (ct_Raw (x := [k.proto]) hW3 (Holds.whole rfl) (by simp; omega) (by simp)) ?_
  rintro v25 A25 ⟨rfl, W4, hW4, rfl⟩
  try dsimp only [List.nil_append, List.cons_append]
  try dsimp only [List.nil_append, List.cons_append]
  refine go_nil ?_
  change G _ _ _ _
  refine p_weaken [1, 2, 3] rfl ?_
  refine p_seq0 ?_
  refine p_plain0 (0 :: 1 :: 2 :: 3 :: []) ?_
  refine go_q0 26 (.fieldAddr 27 (.tmp 1) 3) 0 (qv_field rfl fd27_3) ?_
  refine go_q0 27 (.load 25 (.tmp 26)) 25 (qv_load rfl .auto (ldv_sca sc25 (get_Key_35 _))) ?_
  refine go_q0 28 (.convert 25 30 (.tmp 27)) 30 (qv_conv un25 un30 rfl (by first | exact IntWalk.u64_in _ (by omega) | rfl)) ?_
  refine go_s0 (some 29) (.call { callee := .value (.func 157), args := #[.tmp 3, .tmp 28, .const (.int .i64 2)], argTypes := #[236, 30, 3] }) 61 ?_
  refine os_call (Nat.le_of_ble_eq_true rfl) en157 rfl .auto (ct_Put2 hW4 (by simp; omega) hs0 hs1) ?_
  rintro v29 A29 ⟨rfl, hW5⟩
  try dsimp only [List.nil_append, List.cons_append]
  refine go_nil ?_
  change G _ _ _ _
  refine p_weaken [1, 2, 3] rfl ?_
  refine p_seq0 ?_
  refine p_plain0 (0 :: 1 :: 2 :: 3 :: []) ?_
  refine go_q0 30 (.fieldAddr 27 (.tmp 1) 4) 0 (qv_field rfl fd27_4) ?_
  refine go_q0 31 (.load 25 (.tmp 30)) 25 (qv_load rfl .auto (ldv_sca sc25 (get_Key_36 _))) ?_
  refine go_q0 32 (.convert 25 30 (.tmp 31)) 30 (qv_conv un25 un30 rfl (by first | exact IntWalk.u64_in _ (by omega) | rfl)) ?_
  refine go_s0 (some 33) (.call { callee := .value (.func 157), args := #[.tmp 3, .tmp 32, .const (.int .i64 2)], argTypes := #[236, 30, 3] }) 61 ?_
  refine os_call (Nat.le_of_ble_eq_true rfl) en157 rfl .auto (ct_Put2 hW5 (by simp; omega) hd0 hd1) ?_
  rintro v33 A33 ⟨rfl, hW6⟩
  try dsimp only [List.nil_append, List.cons_append]
  refine go_nil ?_
  change G _ _ _ _
  refine p_weaken [2, 3] rfl ?_
  refine p_seq0 ?_
  refine p_plain0 (0 :: 1 :: []) ?_
  refine go_s0 (some 34) (.call { callee := .value (.func 158), args := #[.tmp 3], argTypes := #[236] }) 74 ?_
  refine os_call (Nat.le_of_ble_eq_true rfl) en158 rfl .auto (ct_WBytes hW6 (by simp) (by simp; omega)) ?_
  rintro v34 A34 hB6
  try dsimp only [List.nil_append, List.cons_append]
  refine go_q0 2 (.assign (.tmp 34)) 74 (qv_assign rfl) ?_
  refine go_nil ?_
  change G _ _ _ _
  refine p_weaken [2] rfl ?_
  refine p_ret0 ?_
  try dsimp only [thenQ, inBlockQ]
  try rw [if_pos rfl]
  refine ret_left (A34) (.inr rfl) (.cons (res_tmp rfl) .nil) .auto ?_
  simpa [keyBytes, h7, E.valOf] using hB6

def hashS (h c : Int) : Int := IntKind.u64.wrap (bits .xor .u64 h c * 1099511628211)
def hashK (k : Key) : Int := (keyBytes k).foldl hashS 14695981039346656037
end Go.Proofs.Ytobmcpoejhhemaa
