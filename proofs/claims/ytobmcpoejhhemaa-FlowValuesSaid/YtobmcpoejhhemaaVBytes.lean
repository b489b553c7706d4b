import Derived.Test.YtobmcpoejhhemaaVKeys
import Derived.Test.YtobmcpoejhhemaaVRd
namespace Go.Proofs.Ytobmcpoejhhemaa
open Go.E

/-- A slice of bytes of the call's own. -/
def OwnB (v : Value) (l : List Int) (A : Mem) : Prop := ∃ p cap, v = .slice p l.length cap ∧ OwnL (eI .u8) 5 p cap l A
def adrBytes (a : Adr) : List Int := if a.six then [a.b.x0, a.b.x1, a.b.x2, a.b.x3, a.b.x4, a.b.x5, a.b.x6, a.b.x7, a.b.x8, a.b.x9, a.b.x10, a.b.x11, a.b.x12, a.b.x13, a.b.x14, a.b.x15] else [a.b.x0, a.b.x1, a.b.x2, a.b.x3]
theorem len_adrBytes (a : Adr) : (adrBytes a).length = if a.six then 16 else 4 := by unfold adrBytes; split <;> rfl

/-- A copy of bytes. -/
theorem ct_bytesClone {b off cap : Nat} {cur : Array Value} {e : TypeId} {fz : Nat × Nat} {l : List Int} (hl : Holds (eI .u8) cur off l) (hm : l.length ≤ 1000000) :
    Ct Try.prog 146 [.slice (some ⟨b, off, none⟩) l.length cap].toArray [(b, .cells cur e fz)] (fun v M' => ∃ A, OwnB v l A ∧ M' = A ++ [(b, .cells cur e fz)]) := by
  refine ct_body (rv := [.tmp 2]) [(0, _)] Try.func146 (by kernel_rfl) Try.ntmps146 Try.results146 rfl rfl (fun w0 => ?_)
  refine p_seq0 ?_
  refine p_plain0 (0 :: []) ?_
  refine go_q0 2 (.assign (.const (.slice none 0 0))) 74 (qv_assign rfl) ?_
  refine go_nil ?_
  change G _ _ _ _
  refine p_seq0 ?_
  refine p_seq0 ?_
  refine p_plain0 (0 :: 1 :: []) ?_
  refine go_q0 3 (.move (.tmp 0)) 74 (qv_move rfl) ?_
  refine go_q0 4 (.binOp .eql 74 (.tmp 3) (.const (.slice none 0 0)) 74) 4 (qv_eqlS un74 rfl) ?_
  refine go_nil ?_
  change G _ _ _ _
  refine p_weaken [0, 2, 4] rfl ?_
  refine p_condF (.tmp 4) (by kernel_rfl) rfl ?_
  refine p_skip0 ?_
  change G _ _ _ _
  refine p_weaken [0, 2] rfl ?_
  refine p_seq0 ?_
  refine p_plain0 (0 :: 1 :: 2 :: 3 :: []) ?_
  refine go_s0 (some 5) (.buildSlice 74 0 #[]) 74 ?_
  refine os_buildSlice (Nat.le_of_ble_eq_true rfl) rfl (bls74_0) (fun b5 => ?_)
  refine go_q0 6 (.move (.tmp 0)) 74 (qv_move rfl) ?_
  refine go_s0 (some 7) (.call { callee := .builtin .append, args := #[.tmp 5, .tmp 6], argTypes := #[74, 74] }) 74 ?_
  refine os_appendL (E := eI .u8) (l := []) (l2 := l) rfl el74 rfl rfl rfl rfl (OwnL.of_build rfl rfl (by decide)) (by repeat constructor) (by repeat constructor) hl (fun _ u hu => by simp [eI] at hu; subst hu; rfl) (by simp [maxLen]; omega) (by simp; omega) (fun p7 c7 A7 h7 => ?_)
  refine go_q0 2 (.assign (.tmp 7)) 74 (qv_assign rfl) ?_
  refine go_nil ?_
  change G _ _ _ _
  refine p_weaken [2] rfl ?_
  refine p_ret0 ?_
  try dsimp only [thenQ, inBlockQ]
  try rw [if_pos rfl]
  refine ret_left (A7 ++ [(b, .cells cur e fz)]) (.inr rfl) (.cons (res_tmp rfl) .nil) .auto ?_
  exact ⟨A7, ⟨p7, c7, by simp [E.valOf], by simpa using h7⟩, rfl⟩

/-- A slice of bytes that is owned and not empty. -/
theorem OwnB.some_ {v : Value} {l : List Int} {A : Mem} (h : OwnB v l A) (hl : 0 < l.length) : ∃ b cap cur, v = .slice (some ⟨b, 0, none⟩) l.length cap ∧ A = [(b, .cells cur 5 (0, 0))] ∧ OwnL (eI .u8) 5 (some ⟨b, 0, none⟩) cap l A ∧ Holds (eI .u8) cur 0 l := by
  obtain ⟨p, cap, rfl, ho⟩ := h
  obtain ⟨b, cur, rfl, rfl, _, _, _, h1⟩ := ho.some_ hl
  exact ⟨b, cap, cur, rfl, rfl, ho, h1⟩
theorem eI_one (k : IntKind) (a : Int) : ∀ u ∈ ((eI k).c a).toList, u.oneCell' = true := fun u hu => by simp [eI] at hu; subst hu; rfl
theorem holds_adr (a : Adr) : Holds (eI .u8) a.c 1 (adrBytes a) := by
  obtain ⟨six, b⟩ := a
  cases six <;> rfl
theorem pu_size (a : Adr) : Pu Try.prog 147 [.agg a.c] (.int .i64 ((adrBytes a).length : Nat)) := by
  obtain ⟨six, b⟩ := a
  cases six with
  | true => exact pu_size6 b
  | false => exact pu_size4 b
theorem adr_le (a : Adr) : 0 < (adrBytes a).length ∧ (adrBytes a).length ≤ 16 := by rw [len_adrBytes]; split <;> decide
theorem ct_AddrBytes (a : Adr) : Ct Try.prog 90 [.agg a.c].toArray [] (fun v A => OwnB v (adrBytes a) A) := by
  refine ct_body (rv := [.tmp 2]) [(0, _)] Try.func90 (by kernel_rfl) Try.ntmps90 Try.results90 rfl rfl (fun w0 => ?_)
  have ha := adr_le a
  refine p_seq0 ?_
  refine p_plain0 (0 :: 1 :: []) ?_
  refine go_s0 (some 1) (.box 24 (.tmp 0)) 0 ?_
  refine os_boxA rfl rfl (fun b1 => ?_)
  refine go_q0 2 (.assign (.const (.slice none 0 0))) 74 (qv_assign rfl) ?_
  refine go_nil ?_
  change G _ _ _ _
  refine p_weaken [1, 2] rfl ?_
  refine p_seq0 ?_
  refine p_plain0 (0 :: 1 :: 2 :: 3 :: 4 :: 5 :: []) ?_
  refine go_q0 3 (.fieldAddr 24 (.tmp 1) 1) 0 (qv_field rfl fd24_1) ?_
  refine go_q0 4 (.load 24 (.tmp 1)) 24 (qv_load rfl .auto (ldv_agg agg24 (extw_Adr _) (Nat.le_of_ble_eq_true rfl))) ?_
  refine go_s0 (some 5) (.call { callee := .value (.func 147), args := #[.tmp 4], argTypes := #[24] }) 3 ?_
  refine os_callP rfl en147 rfl (pu_size a) ?_
  refine go_q0 6 (.slice 22 (.tmp 3) none (some (.tmp 5)) none) 74 (qv_slA0 un22 sz5 rfl rfl (bd_some rfl rfl) (by omega)) ?_
  refine go_s0 (some 7) (.call { callee := .value (.func 146), args := #[.tmp 6], argTypes := #[74] }) 74 ?_
  refine os_call (Nat.le_of_ble_eq_true rfl) en146 rfl .auto (ct_bytesClone (holds_adr a) (by omega)) ?_
  rintro v7 A7 ⟨A, hB, rfl⟩
  try dsimp only [List.nil_append, List.cons_append]
  rw [List.append_assoc]
  refine go_q0 2 (.assign (.tmp 7)) 74 (qv_assign rfl) ?_
  refine go_nil ?_
  change G _ _ _ _
  refine p_weaken [2] rfl ?_
  refine p_ret0 ?_
  try dsimp only [thenQ, inBlockQ]
  try rw [if_pos rfl]
  refine ret_left (A) (.inr rfl) (.cons (res_tmp rfl) .nil) .auto ?_
  exact hB

/-- A writer at bw holds the bytes l. -/
def WriB (bw : Nat) (l : List Int) (W : Mem) : Prop := ∃ p cap A, OwnL (eI .u8) 5 p cap l A ∧ W = (bw, .cells (⟨.slice p l.length cap⟩ : Wri).c 236 (0, 0)) :: A
def keyBytes (k : Key) : List Int := if k.right then [if k.src.six then 6 else 4] ++ adrBytes k.src ++ adrBytes k.dst ++ [k.proto] ++ [k.srcPort / 256, k.srcPort % 256] ++ [k.dstPort / 256, k.dstPort % 256] else []
theorem WriB.own {bw : Nat} {l : List Int} {W : Mem} (h : WriB bw l W) (hl : 0 < l.length) : ∃ b cap cur, W = [(bw, .cells (⟨.slice (some ⟨b, 0, none⟩) l.length cap⟩ : Wri).c 236 (0, 0)), (b, .cells cur 5 (0, 0))] ∧ Holds (eI .u8) cur 0 l := by
  obtain ⟨p, cap, A, hA, rfl⟩ := h
  obtain ⟨b, cur, rfl, rfl, _, _, _, h1⟩ := hA.some_ hl
  exact ⟨b, cap, cur, rfl, h1⟩
def hashS (h c : Int) : Int := IntKind.u64.wrap (bits .xor .u64 h c * 1099511628211)
def hashK (k : Key) : Int := (keyBytes k).foldl hashS 14695981039346656037
end Go.Proofs.Ytobmcpoejhhemaa
