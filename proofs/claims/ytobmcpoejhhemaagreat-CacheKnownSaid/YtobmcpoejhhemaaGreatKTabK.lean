import Derived.Test.YtobmcpoejhhemaaGreatKRefD
namespace Go.Proofs.YtobmcpoejhhemaaGreat
open Go.E

theorem ct_Clear {bt bs n : Nat} {many : Int} {L : List Slot} (hl : L.length = n) (h1 : 1 ≤ n) :
    Ct Tryz.prog 63 [.pointer (some ⟨bt, 0, none⟩)].toArray [tabO bt bs n many, slotO bs L] (fun v M' => v = .tuple #[] ∧ M' = [tabO bt bs n 0, slotO bs (List.replicate n zeroS)]) := by
  refine ct_body (rv := []) [(0, _)] Tryz.func63 (by kernel_rfl) Tryz.ntmps63 Tryz.results63 rfl rfl (fun w0 => ?_)
  refine p_seq0 ?_
  refine p_plain0 (0 :: 1 :: []) ?_
  refine go_q0 2 (.move (.tmp 0)) 78 (qv_move rfl) ?_
  refine go_q0 3 (.binOp .neq 78 (.tmp 2) (.const (.pointer none)) 78) 4 (qv_neqP un78 rfl) ?_
  refine go_nil ?_
  change G _ _ _ _
  refine p_weaken [0, 3] rfl ?_
  refine p_condT (.tmp 3) (by kernel_rfl) rfl ?_
  refine p_seq0 ?_
  refine p_plain0 (0 :: 1 :: 2 :: 3 :: 4 :: []) ?_
  refine go_q0 4 (.move (.tmp 0)) 78 (qv_move rfl) ?_
  refine go_q0 5 (.nilCheck (.tmp 4)) 0 (qv_nilCheck rfl) ?_
  refine go_q0 6 (.fieldAddr 126 (.tmp 5) 0) 0 (qv_field rfl fd126_0) ?_
  refine go_q0 7 (.load 124 (.tmp 6)) 124 (qv_load rfl .auto (ldv_sca sc124 (get_Tab_0 _))) ?_
  refine go_s0 none (.call { callee := .builtin .clear, args := #[.tmp 7], argTypes := #[124] }) 0 ?_
  refine os_clearL (E := eSlot) (a := zeroS) un124 ze146 rfl (by decide) (one_Slot _) rfl hl.symm h1 (by repeat first | exact .here | apply Up.next | apply Up.app) ?_
  refine go_nil ?_
  change G _ _ _ _
  refine p_weaken [0] rfl ?_
  refine p_plain0 (0 :: 1 :: 2 :: 3 :: []) ?_
  refine go_q0 8 (.move (.tmp 0)) 78 (qv_move rfl) ?_
  refine go_q0 9 (.nilCheck (.tmp 8)) 0 (qv_nilCheck rfl) ?_
  refine go_q0 10 (.fieldAddr 126 (.tmp 9) 1) 0 (qv_field rfl fd126_1) ?_
  refine go_s0 none (.store 3 (.tmp 10) (.const (.int .i64 0))) 0 ?_
  refine os_store1 rfl rfl sz3 rfl rfl .auto (Nat.le_of_ble_eq_true rfl) (set_Tab_1 _ _) ?_
  refine go_nil ?_
  try dsimp only [thenQ, inBlockQ]
  try rw [if_pos rfl]
  refine ret_left ([tabO bt bs n 0, slotO bs (List.replicate n zeroS)]) (.inl rfl) .nil .auto ?_
  exact ⟨rfl, rfl⟩
theorem E_flat_own {α : Type} {E : Enc α} {e : TypeId} {b cap : Nat} {cur : Array Value} {l l' : List α} (hlen : l'.length = l.length) (h1 : l.length ≤ cap) (h2 : cap ≤ maxLen) (h3 : cur.size = cap * E.n) (h : Holds E cur 0 l') : OwnL E e (some ⟨b, 0, none⟩) cap l' [(b, .cells cur e (0, 0))] :=
  ⟨E.flat_length _, .inr ⟨b, cap, cur, rfl, rfl, by omega, h2, h3, by unfold Holds at h; rwa [List.drop_zero] at h⟩⟩
end Go.Proofs.YtobmcpoejhhemaaGreat
