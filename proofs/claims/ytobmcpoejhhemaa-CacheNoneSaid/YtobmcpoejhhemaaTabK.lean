/- Contracts: the table: Clear, Keys; are both tables the same? -/
import Derived.Test.YtobmcpoejhhemaaRefD
namespace Go.Proofs.Ytobmcpoejhhemaa
open Go.E

theorem ct_Clear {bt bs n : Nat} {many : Int} {L : List Slot} (hl : L.length = n) (h1 : 1 ≤ n) :
    Ct Try.prog 59 [.pointer (some ⟨bt, 0, none⟩)].toArray [tabO bt bs n many, slotO bs L] (fun v M' => v = .tuple #[] ∧ M' = [tabO bt bs n 0, slotO bs (List.replicate n zeroS)]) := by
  refine ct_body (rv := []) [(0, _)] Try.func59 (by kernel_rfl) Try.ntmps59 Try.results59 rfl rfl (fun w0 => ?_)
  refine p_seq0 ?_
  refine p_plain0 (0 :: 1 :: []) ?_
  refine go_q0 2 (.move (.tmp 0)) 83 (qv_move rfl) ?_
  refine go_q0 3 (.binOp .neq 83 (.tmp 2) (.const (.pointer none)) 83) 4 (qv_neqP un83 rfl) ?_
  refine go_nil ?_
  change G _ _ _ _
  refine p_weaken [0, 3] rfl ?_
  refine p_condT (.tmp 3) (by kernel_rfl) rfl ?_
  refine p_seq0 ?_
  refine p_plain0 (0 :: 1 :: 2 :: 3 :: 4 :: []) ?_
  refine go_q0 4 (.move (.tmp 0)) 83 (qv_move rfl) ?_
  refine go_q0 5 (.nilCheck (.tmp 4)) 0 (qv_nilCheck rfl) ?_
  refine go_q0 6 (.fieldAddr 172 (.tmp 5) 0) 0 (qv_field rfl fd172_0) ?_
  refine go_q0 7 (.load 124 (.tmp 6)) 124 (qv_load rfl .auto (ldv_sca sc124 (get_Tab_0 _))) ?_
  refine go_s0 none (.call { callee := .builtin .clear, args := #[.tmp 7], argTypes := #[124] }) 0 ?_
  refine os_clearL (E := eSlot) (a := zeroS) un124 ze175 rfl (by decide) (one_Slot _) rfl hl.symm h1 (by repeat first | exact .here | apply Up.next | apply Up.app) ?_
  refine go_nil ?_
  change G _ _ _ _
  refine p_weaken [0] rfl ?_
  refine p_plain0 (0 :: 1 :: 2 :: 3 :: []) ?_
  refine go_q0 8 (.move (.tmp 0)) 83 (qv_move rfl) ?_
  refine go_q0 9 (.nilCheck (.tmp 8)) 0 (qv_nilCheck rfl) ?_
  refine go_q0 10 (.fieldAddr 172 (.tmp 9) 1) 0 (qv_field rfl fd172_1) ?_
  refine go_s0 none (.store 3 (.tmp 10) (.const (.int .i64 0))) 0 ?_
  refine os_store1 rfl rfl sz3 rfl rfl .auto (Nat.le_of_ble_eq_true rfl) (set_Tab_1 _ _) ?_
  refine go_nil ?_
  try dsimp only [thenQ, inBlockQ]
  try rw [if_pos rfl]
  refine ret_left ([tabO bt bs n 0, slotO bs (List.replicate n zeroS)]) (.inl rfl) .nil .auto ?_
  exact ⟨rfl, rfl⟩
def usedKeys (L : List Slot) : List Key := (L.filter (·.used)).map (·.key)
theorem usedKeys_len (L : List Slot) : (usedKeys L).length = cnt L := by unfold usedKeys cnt; rw [List.length_map, List.countP_eq_length_filter]
theorem usedKeys_succ {L : List Slot} {i : Nat} {x : Slot} (h : L[i]? = some x) : usedKeys (L.take (i + 1)) = usedKeys (L.take i) ++ (if x.used then [x.key] else []) := by
  unfold usedKeys
  rw [List.take_add_one, h, List.filter_append, List.map_append]
  cases hu : x.used <;> simp [hu]
theorem E_flat_own {α : Type} {E : Enc α} {e : TypeId} {b cap : Nat} {cur : Array Value} {l l' : List α} (hlen : l'.length = l.length) (h1 : l.length ≤ cap) (h2 : cap ≤ maxLen) (h3 : cur.size = cap * E.n) (h : Holds E cur 0 l') : OwnL E e (some ⟨b, 0, none⟩) cap l' [(b, .cells cur e (0, 0))] :=
  ⟨E.flat_length _, .inr ⟨b, cap, cur, rfl, rfl, by omega, h2, h3, by unfold Holds at h; rwa [List.drop_zero] at h⟩⟩
theorem pu_SortO {p : Option Addr} {cap : Nat} {l : List Key} {A : Mem} (h : OwnL eKey 27 p cap l A) (hw : ∀ k ∈ l, k.Wf) (hm : l.length ≤ 1000000) :
    Ct Try.prog 120 [.slice p l.length cap, .func (.func 121) #[] #[]].toArray A (fun v M' => v = .tuple #[] ∧ ∃ l', l'.Perm l ∧ l'.Pairwise (fun x y => ¬ ltK y x) ∧ OwnL eKey 27 p cap l' M') := by
  rcases h.cases with ⟨rfl, rfl, rfl, rfl⟩ | ⟨b, cur, rfl, rfl, h1, h2, h3, H⟩
  · exact (pu_Sort0 _ : Ct _ _ _ _ _).mono fun v M' ⟨hv, hM⟩ => ⟨hv, [], List.Perm.refl _, List.Pairwise.nil, by subst hM; exact OwnL.nil⟩
  · refine (ct_SortKeys hw H hm).mono ?_
    rintro v M' ⟨hv, l', cur', hp, hs, hh, hz, rfl⟩
    have hlen := hp.length_eq
    refine ⟨hv, l', hp, hs, E_flat_own hlen h1 h2 (by rw [hz, h3]) hh⟩
theorem ct_Keys {bt bs n : Nat} {many : Int} {L : List Slot} (hl : L.length = n) (h1 : 1 ≤ n) (h2 : n ≤ 65536) (hw : AllWf L) :
    Ct Try.prog 68 [.pointer (some ⟨bt, 0, none⟩)].toArray [tabO bt bs n many, slotO bs L] (fun v M' => ∃ p c l A, v = .slice p l.length c ∧ l.Perm (usedKeys L) ∧ l.Pairwise (fun x y => ¬ ltK y x) ∧ OwnL eKey 27 p c l A ∧ M' = A ++ [tabO bt bs n many, slotO bs L]) := by
  have hS := ct_Slots (bt := bt) (bs := bs) (many := many) (L := L) (by omega) (by omega)
  rw [hl] at hS
  refine ct_body (rv := [.tmp 2]) [(0, _)] Try.func68 (by kernel_rfl) Try.ntmps68 Try.results68 rfl rfl (fun w0 => ?_)
  refine p_seq0 ?_
  refine p_plain0 (0 :: []) ?_
  refine go_q0 2 (.assign (.const (.slice none 0 0))) 86 (qv_assign rfl) ?_
  refine go_nil ?_
  change G _ _ _ _
  refine p_seq0 ?_
  refine p_plain0 (0 :: 1 :: 2 :: []) ?_
  refine go_q0 6 (.move (.tmp 0)) 83 (qv_move rfl) ?_
  refine go_q0 7 (.makeFunc (.func 67) #[.tmp 6] #[]) 125 (qv_makeFunc1 (ps := [.tmp 6]) (cs := []) rfl rfl) ?_
  refine go_q0 3 (.assign (.tmp 7)) 125 (qv_assign rfl) ?_
  refine go_nil ?_
  change G _ _ _ _
  refine p_weaken [2, 3] rfl ?_
  refine p_seq0 ?_
  refine p_seq0 ?_
  refine p_plain0 (0 :: 1 :: 2 :: 3 :: []) ?_
  refine go_q0 8 (.move (.tmp 3)) 125 (qv_move rfl) ?_
  refine go_s0 (some 9) (.call { callee := .value (.tmp 8), args := #[], argTypes := #[] }) 124 ?_
  refine os_callV1 rfl rfl en67 rfl rfl (by repeat constructor) hS (fun v9 A9 h9 => ?_)
  obtain ⟨A, ⟨p, cap, rfl, hO⟩, rfl⟩ := h9
  obtain ⟨b, cur, rfl, rfl, _, _, _, H⟩ := hO.some_ (by omega)
  try dsimp only [List.nil_append, List.cons_append]
  rw [hl]
  refine go_q0 10 (.call { callee := .builtin .len, args := #[.tmp 9], argTypes := #[124] }) 3 (qv_lenS un124 rfl) ?_
  refine go_q0 11 (.move (.const (.int .i64 0))) 3 (qv_move rfl) ?_
  refine go_nil ?_
  change G _ _ _ _
  refine p_weaken [2, 9, 10, 11] rfl ?_
  refine p_block 0 (by kernel_rfl) ?_
  refine p_loopE (by kernel_rfl) (fun s m => ∃ (i : Nat) (l : List Key) (q : Option Addr) (cq : Nat) (B : Mem), (i ≤ n) ∧ (l = usedKeys (L.take i)) ∧ (OwnL eKey 27 q cq l B) ∧ Ge s ⟨[], [(2, .slice q l.length cq), (9, .slice (some ⟨b, 0, none⟩) n cap), (10, .int .i64 n), (11, .int .i64 i)], B ++ [(b, .cells cur 175 (0, 0)), slotO bs L, tabO bt bs n many]⟩ ∧ m = n + 1 - i) ?_ ?_
  · exact ⟨_, ⟨0, [], none, 0, [], by omega, rfl, OwnL.nil, ⟨rfl, ⟨[2, 9, 10, 11], rfl⟩, .auto⟩, rfl⟩⟩
  rintro s m ⟨i, l, q, cq, B, hi, hlk, hB, hs, rfl⟩
  refine ge_ok hs ?_
  refine p_seq0 ?_
  refine p_plain0 (0 :: []) ?_
  refine go_q0 12 (.binOp .lss 3 (.tmp 11) (.tmp 10) 3) 0 (qv_lss rfl rfl rfl) ?_
  refine go_nil ?_
  change G _ _ _ _
  refine p_seq0 ?_
  refine p_cond (.tmp 12) (by kernel_rfl) rfl (fun h12 => ?_) (fun h12 => ?_)
  rotate_left
  · replace h12 := kn h12
    refine p_exit 0 (by kernel_rfl) ?_
    change G _ _ _ _
    refine p_weaken [2] rfl ?_
    refine p_seq0 ?_
    have hin : i = n := by omega
    subst hin
    rw [show L.take i = L by rw [List.take_of_length_le (by omega)]] at hlk
    have hkw : ∀ k ∈ l, k.Wf := by rw [hlk]; intro k hk; obtain ⟨s, hs1, rfl⟩ := List.mem_map.1 hk; exact hw s ((List.mem_filter.1 hs1).1)
    have hkl : l.length ≤ 65536 := by rw [hlk, usedKeys_len]; exact Nat.le_trans List.countP_le_length (by omega)
    refine p_plain0 (0 :: 1 :: []) ?_
    refine go_q0 23 (.move (.tmp 2)) 86 (qv_move rfl) ?_
    refine go_s0 (some 24) (.call { callee := .value (.func 120), args := #[.tmp 23, .func 121], argTypes := #[86, 202] }) 0 ?_
    refine os_call (Nat.le_of_ble_eq_true rfl) en120 rfl (by exact Sel.app) (pu_SortO hB hkw (by omega)) ?_
    rintro v24 A24 ⟨rfl, l', hp, hs', hO'⟩
    try dsimp only [List.nil_append, List.cons_append]
    refine go_nil ?_
    change G _ _ _ _
    refine p_weaken [2] rfl ?_
    refine p_seq0 ?_
    refine p_plain0 (0 :: 1 :: []) ?_
    refine go_q0 25 (.move (.tmp 2)) 86 (qv_move rfl) ?_
    refine go_q0 2 (.assign (.tmp 25)) 86 (qv_assign rfl) ?_
    refine go_nil ?_
    change G _ _ _ _
    refine p_weaken [2] rfl ?_
    refine p_ret0 ?_
    try dsimp only [thenQ, inBlockQ]
    try rw [if_pos rfl]
    refine ret_left (A24 ++ [tabO bt bs i many, slotO bs L]) (.inr rfl) (.cons (res_tmp rfl) .nil) .auto ?_
    exact ⟨q, cq, l', A24, by rw [hp.length_eq]; rfl, by rw [← hlk]; exact hp, hs', hO', rfl⟩
  replace h12 := kn h12
  refine p_skip0 ?_
  change G _ _ _ _
  refine p_weaken [2, 9, 10, 11] rfl ?_
  refine p_seqJ (fun s => ∃ (l2 : List Key) (q2 : Option Addr) (cq2 : Nat) (B2 : Mem), (l2 = usedKeys (L.take (i + 1))) ∧ (OwnL eKey 27 q2 cq2 l2 B2) ∧ Ge s ⟨[], [(2, .slice q2 l2.length cq2), (9, .slice (some ⟨b, 0, none⟩) n cap), (10, .int .i64 n), (11, .int .i64 i)], B2 ++ [(b, .cells cur 175 (0, 0)), slotO bs L, tabO bt bs n many]⟩) (by kernel_rfl) ?_ ?_
  rotate_left
  · rintro s ⟨l2, q2, cq2, B2, hlk2, hB2, hs⟩
    refine ge_ok hs ?_
    refine p_plain0 (0 :: 1 :: []) ?_
    refine go_q0 22 (.binOp .add 3 (.tmp 11) (.const (.int .i64 1)) 3) 3 (qv_add rfl rfl (by first | exact IntWalk.i64_in _ (by omega) | exact IntWalk.i64_in _ (by dsimp only; omega) | rfl)) ?_
    refine go_q0 11 (.move (.tmp 22)) 3 (qv_move rfl) ?_
    refine go_nil ?_
    exact ⟨_, ⟨i + 1, l2, q2, cq2, B2, by omega, hlk2, hB2, ⟨rfl, ⟨[2, 9, 10, 11], rfl⟩, .auto⟩, rfl⟩, by omega⟩
  refine p_block 1 (by kernel_rfl) ?_
  refine p_seq0 ?_
  obtain ⟨x, hx⟩ : ∃ x, L[i]? = some x := ⟨_, List.getElem?_eq_getElem (by omega)⟩
  have hsu := usedKeys_succ hx
  have hll : l.length ≤ n := by rw [hlk, usedKeys_len]; exact Nat.le_trans List.countP_le_length (by simp; omega)
  refine p_plain0 (0 :: 1 :: 2 :: 3 :: []) ?_
  refine go_q0 13 (.indexAddr 124 (.tmp 9) (.tmp 11)) 0 (qv_index un124 sz175 rfl rfl rfl (by omega)) ?_
  refine go_q0 14 (.load 175 (.tmp 13)) 175 (qv_load rfl .auto (ldv_els H hx (by decide) agg175 rfl)) ?_
  refine go_s0 (some 5) (.alloc 175) 0 ?_
  refine os_allocA rfl ze175 (fun b5 => ?_)
  refine go_s0 none (.store 175 (.tmp 5) (.tmp 14)) 0 ?_
  refine os_store rfl rfl sz175 rfl (one_Slot _) .auto (Nat.le_of_ble_eq_true rfl) (splw_Slot _ _ (siz_Slot _)) ?_
  refine go_nil ?_
  change G _ _ _ _
  refine p_weaken [2, 5, 9, 10, 11] rfl ?_
  refine p_seq0 ?_
  refine p_plain0 (0 :: 1 :: []) ?_
  refine go_q0 15 (.fieldAddr 175 (.tmp 5) 0) 0 (qv_field rfl fd175_0) ?_
  refine go_q0 16 (.load 4 (.tmp 15)) 4 (qv_load rfl .auto (ldv_sca sc4 (get_Slot_0 _))) ?_
  refine go_nil ?_
  change G _ _ _ _
  refine p_weaken [2, 5, 9, 10, 11, 16] rfl ?_
  refine p_cond (.tmp 16) (by kernel_rfl) rfl (fun h16 => ?_) (fun h16 => ?_)
  rotate_left
  · replace h16 := kn h16
    rw [h16] at hsu
    have hlk3 : l = usedKeys (L.take (i + 1)) := by rw [hsu, hlk]; simp
    have hB3 := hB
    refine p_skip0 ?_
    exact ⟨_, _, _, _, hlk3, hB3, ⟨rfl, ⟨[2, 9, 10, 11], rfl⟩, .auto⟩⟩
  replace h16 := kn h16
  rw [h16] at hsu
  refine p_plain0 (0 :: 1 :: 2 :: 3 :: 4 :: 5 :: []) ?_
  refine go_q0 17 (.move (.tmp 2)) 86 (qv_move rfl) ?_
  refine go_q0 18 (.fieldAddr 175 (.tmp 5) 1) 0 (qv_field rfl fd175_1) ?_
  refine go_q0 19 (.load 27 (.tmp 18)) 27 (qv_load rfl .auto (ldv_agg agg27 (ext_Slot_1_37 _) (Nat.le_of_ble_eq_true rfl))) ?_
  refine go_s0 (some 20) (.buildSlice 86 1 #[(0, .tmp 19)]) 86 ?_
  refine os_buildSlice (Nat.le_of_ble_eq_true rfl) rfl (bls86_1 _) (fun b20 => ?_)
  refine go_s0 (some 21) (.call { callee := .builtin .append, args := #[.tmp 17, .tmp 20], argTypes := #[86, 86] }) 86 ?_
  refine os_appendK (E := eKey) (l := l) (l2 := [x.key]) rfl el86 rfl rfl rfl rfl (hB) .auto .auto (Go.E.holds_one _) (one_Key) (by simp [maxLen] <;> omega) (by simp <;> omega) (fun p21 c21 A21 h21 => ?_)
  have hB3 := h21
  have hlk3 : l ++ [x.key] = usedKeys (L.take (i + 1)) := by rw [hsu, hlk]; simp
  refine go_q0 2 (.assign (.tmp 21)) 86 (qv_assign rfl) ?_
  refine go_nil ?_
  exact ⟨_, _, _, _, hlk3, hB3, ⟨rfl, ⟨[2, 9, 10, 11], rfl⟩, .auto⟩⟩
end Go.Proofs.Ytobmcpoejhhemaa
