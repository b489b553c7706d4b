import Derived.Test.YtobmcpoejhhemaaGreatKCacP
import Derived.Test.YtobmcpoejhhemaaGreatKKeeps
namespace Go.Proofs.YtobmcpoejhhemaaGreat
open Go.E

def zeroR : Rec := startR zeroS.key 0 0
def idx (m : Nat) : List Int := (List.range m).map fun i : Nat => (i : Int)
theorem idx_len (m : Nat) : (idx m).length = m := by simp [idx]
theorem idx_at {m i : Nat} (h : i < m) : (idx m)[i]? = some (i : Int) := by simp [idx, h]
theorem idx_ext {m : Nat} {l : List Int} (hl : l.length = m) (h : ∀ i, i < m → l[i]? = some (i : Int)) : l = idx m := by
  apply List.ext_getElem?
  intro i
  by_cases hi : i < m
  · rw [h i hi, idx_at hi]
  · rw [List.getElem?_eq_none (by omega), List.getElem?_eq_none (by rw [idx_len]; omega)]
def keysOf (fl : List Rec) : List Key := fl.map (·.key)
theorem keysOf_at {fl : List Rec} {i : Nat} {r : Rec} (h : fl[i]? = some r) : (keysOf fl)[i]? = some r.key := by unfold keysOf; rw [List.getElem?_map, h]; rfl
theorem keysOf_len (fl : List Rec) : (keysOf fl).length = fl.length := by simp [keysOf]
/-- What holds of a cache's flows and their places. -/
structure CacI (bd : Bnd) (n : Nat) (L : List Slot) (fl : List Rec) : Prop where
  pow : Pow n
  big : bd.flows < (n : Int)
  kp : Kp n L (keysOf fl) (idx fl.length)
  wf : ∀ r ∈ fl, r.Wf
  rt : ∀ r ∈ fl, r.key.right = true
  le : (fl.length : Int) ≤ bd.flows
  bw : bd.Wf
  most : bd.flows ≤ 4096
  least : 1 ≤ bd.flows
def CacM (bc : Nat) (tick : Int) (bd : Bnd) (fl : List Rec) (M : Mem) : Prop := ∃ bt bs n L pf cf Af, CacI bd n L fl ∧ OwnL eRec 69 pf cf fl Af ∧ M = cacO bc tick bd bt pf fl.length cf :: tabO bt bs n fl.length :: slotO bs L :: Af
theorem swapOut_map {α β : Type} (f : α → β) (l : List α) (i : Nat) : (swapOut l i).map f = swapOut (l.map f) i := by
  unfold swapOut
  rw [List.getElem?_map, List.length_map]
  cases l[l.length - 1]? with
  | none => rfl
  | some x => simp [List.map_take, List.map_set]
theorem swapOut_idx {m i : Nat} (hi : i < m) (h : i ≠ m - 1) : (swapOut (idx m) i).set i (i : Int) = idx (m - 1) := by
  have hl : i < (idx m).length := by rw [idx_len]; exact hi
  refine idx_ext (by rw [List.length_set, swapOut_len hl, idx_len]) fun j hj => ?_
  by_cases e : j = i
  · subst e
    rw [List.getElem?_set_self (by rw [swapOut_len hl, idx_len]; omega)]
  · rw [List.getElem?_set_ne (Ne.symm e), swapOut_at hl j (by rw [idx_len]; exact hj), if_neg e, idx_at (by omega)]
theorem swapOut_idx_last {m : Nat} (hm : 0 < m) : swapOut (idx m) (m - 1) = idx (m - 1) := by
  have hl : m - 1 < (idx m).length := by rw [idx_len]; omega
  refine idx_ext (by rw [swapOut_len hl, idx_len]) fun j hj => ?_
  rw [swapOut_at hl j (by rw [idx_len]; exact hj), if_neg (by omega), idx_at (by omega)]
theorem set_last {α : Type} {l : List α} {x : α} (h : l[l.length - 1]? = some x) : l.set (l.length - 1) x = l := by
  obtain ⟨hl, rfl⟩ := List.getElem?_eq_some_iff.1 h
  exact List.set_getElem_self hl
theorem CacI.out {bd : Bnd} {n : Nat} {L L2 : List Slot} {fl : List Rec} (h : CacI bd n L fl) {i : Nat} (hi : i < fl.length) (hk : Kp n L2 (keysOf (swapOut fl i)) (idx (fl.length - 1))) : CacI bd n L2 (swapOut fl i) := by
  have hl := swapOut_len hi
  have hm : ∀ r ∈ swapOut fl i, r ∈ fl := fun r hr => by
    obtain ⟨q, hq, rfl⟩ := List.getElem_of_mem hr
    obtain ⟨_, _, _, h1, _⟩ := swapOut_of hi q _ (List.getElem?_eq_getElem hq)
    exact List.mem_of_getElem? h1
  exact ⟨h.pow, h.big, by rw [hl]; exact hk, fun r hr => h.wf r (hm r hr), fun r hr => h.rt r (hm r hr), by have := h.le; omega, h.bw, h.most, h.least⟩

theorem perm_end {α : Type} (a b c d e f : α) : [a, b, c, d, e, f].Perm [e, a, b, f, c, d] :=
  ((List.perm_append_comm (l₁ := [a, b, c, d]) (l₂ := [e, f])).trans ((List.Perm.refl [e]).append (List.perm_middle (a := f) (l₁ := []) (l₂ := [a, b, c, d])))).trans ((((List.perm_append_comm (l₁ := [f]) (l₂ := [a, b])).append_right [c, d])).cons e)
theorem ct_end {bc : Nat} {tick : Int} {bd : Bnd} {fl : List Rec} {M : Mem} {i : Nat} {r : Rec} (reason : Int) (hM : CacM bc tick bd fl M) (hi : fl[i]? = some r) :
    Ct Tryz.prog 59 [.pointer (some ⟨bc, 0, none⟩), .agg r.key.c, .int .u8 reason].toArray M (fun v M' => v = .agg ({ r with reason := reason } : Rec).c ∧ CacM bc tick bd (swapOut fl i) M') := by
  obtain ⟨bt, bs, n, L, pf, cf, Af, hI, hO, rfl⟩ := hM
  have hil := (List.getElem?_eq_some_iff.1 hi).1
  have hn := hI.pow
  have hn1 := hn.pos
  have hn2 := hn.le
  have hLl := hI.kp.L_len
  have hle := hI.kp.le
  rw [keysOf_len] at hle
  have hki := keysOf_at hi
  have hkw := hI.kp.kwf _ (List.mem_of_getElem? hki)
  obtain ⟨bf, cur, rfl, rfl, hc1, hc2, hc3, H⟩ := hO.some_ (by omega)
  obtain ⟨lr, hlr⟩ : ∃ lr, fl[fl.length - 1]? = some lr := ⟨_, List.getElem?_eq_getElem (by omega)⟩
  obtain ⟨j, L', hh, hd, hK', _⟩ := hI.kp.del hn hki
  have hDel := ct_Delete (bt := bt) (bs := bs) (many := fl.length) hkw hI.kp.wf (by omega) (by omega) (by omega) (by omega) hh hd
  rw [hLl, show (fl.length : Int) - 1 = ((swapOut fl i).length : Int) by rw [swapOut_len hil]; omega] at hDel
  have hsl := swapOut_len hil
  replace hK' : Kp n L' (keysOf (swapOut fl i)) (swapOut (idx fl.length) i) := by unfold keysOf; rw [swapOut_map]; exact hK'
  refine ct_body (rv := [.cell 6 69]) [(0, _), (1, _), (2, _)] Tryz.func59 (by kernel_rfl) Tryz.ntmps59 Tryz.results59 rfl rfl (fun w0 => ?_)
  refine p_seq0 ?_
  refine p_plain0 (0 :: 1 :: []) ?_
  refine go_s0 (some 4) (.box 29 (.tmp 1)) 0 ?_
  refine os_boxA rfl rfl (fun b4 => ?_)
  refine go_s0 (some 6) (.alloc 69) 0 ?_
  refine os_allocA rfl ze69 (fun b6 => ?_)
  refine go_nil ?_
  change G _ _ _ _
  refine p_weaken [0, 2, 4, 6] rfl ?_
  refine p_seq0 ?_
  refine p_draw (by kernel_rfl) mixed 10 11 _ (fun _ h => h) (by kernel_rfl) ?_
  refine gd_all (0 :: 1 :: 2 :: 3 :: 4 :: 5 :: 6 :: 7 :: 8 :: 9 :: []) _ rfl (by kernel_rfl) (by decide) (fun _ h => h) rfl ?_
  refine sq_q0 13 (.move (.tmp 0)) 43 (qv_move rfl) ?_
  refine sq_q0 14 (.nilCheck (.tmp 13)) 0 (qv_nilCheck rfl) ?_
  refine sq_q0 15 (.fieldAddr 84 (.tmp 14) 2) 0 (qv_field rfl fd84_2) ?_
  refine sq_q0 16 (.load 78 (.tmp 15)) 78 (qv_load rfl .auto (ldv_sca sc78 (get_Cac_6 _))) ?_
  refine sq_q0 17 (.load 29 (.tmp 4)) 29 (qv_load rfl .auto (ldv_agg agg29 (extw_Key _) (Nat.le_of_ble_eq_true rfl))) ?_
  refine sq_p (d := 18) (op := .call { callee := .value (.func 55), args := #[.tmp 16, .tmp 17], argTypes := #[78, 29] }) (ty := 72) (g := none) (by kernel_rfl) trivial (pv_callR en55 rfl .auto (ct_GetK (many := fl.length) (bs := bs) hn hI.kp hki (idx_at hil))) ?_
  refine sq_q0 12 (.move (.tmp 18)) 72 (qv_move rfl) ?_
  refine sq_q0 19 (.extract (.tmp 12) 0) 23 (qv_extract rfl rfl) ?_
  refine sq_q0 20 (.extract (.tmp 12) 1) 4 (qv_extract rfl rfl) ?_
  refine sq_q0 7 (.assign (.tmp 19)) 23 (qv_assign rfl) ?_
  refine SeqK.nil (fun β => ?_)
  refine gd_tail [10] rfl (by kernel_rfl) (by kernel_rfl) ?_
  refine go_q0 8 (.assign (.tmp 20)) 4 (qv_assign rfl) ?_
  refine go_nil ?_
  change G _ _ _ _
  refine p_weaken [0, 2, 4, 6, 7] rfl ?_
  refine p_seq0 ?_
  refine p_plain0 (0 :: 1 :: 2 :: 3 :: 4 :: 5 :: 6 :: 7 :: 8 :: []) ?_
  refine go_q0 21 (.move (.tmp 0)) 43 (qv_move rfl) ?_
  refine go_q0 22 (.nilCheck (.tmp 21)) 0 (qv_nilCheck rfl) ?_
  refine go_q0 23 (.fieldAddr 84 (.tmp 22) 3) 0 (qv_field rfl fd84_3) ?_
  refine go_q0 24 (.load 55 (.tmp 23)) 55 (qv_load rfl .auto (ldv_sca sc55 (get_Cac_7 _))) ?_
  refine go_q0 25 (.move (.tmp 7)) 23 (qv_move rfl) ?_
  refine go_q0 26 (.indexAddr 55 (.tmp 24) (.tmp 25)) 0 (qv_index un55 sz69 rfl rfl rfl hil) ?_
  refine go_q0 27 (.load 69 (.tmp 26)) 69 (qv_load rfl .auto (ldv_els H hi (by decide) agg69 rfl)) ?_
  refine go_s0 (some 9) (.alloc 69) 0 ?_
  refine os_allocA rfl ze69 (fun b9 => ?_)
  refine go_s0 none (.store 69 (.tmp 9) (.tmp 27)) 0 ?_
  refine os_store rfl rfl sz69 rfl (one_Rec _) .auto (Nat.le_of_ble_eq_true rfl) (splw_Rec _ _ (siz_Rec _)) ?_
  refine go_nil ?_
  change G _ _ _ _
  refine p_weaken [0, 2, 4, 6, 7, 9] rfl ?_
  refine p_seq0 ?_
  refine p_plain0 (0 :: 1 :: 2 :: 3 :: 4 :: 5 :: 6 :: []) ?_
  refine go_q0 28 (.move (.tmp 0)) 43 (qv_move rfl) ?_
  refine go_q0 29 (.nilCheck (.tmp 28)) 0 (qv_nilCheck rfl) ?_
  refine go_q0 30 (.fieldAddr 84 (.tmp 29) 3) 0 (qv_field rfl fd84_3) ?_
  refine go_q0 31 (.load 55 (.tmp 30)) 55 (qv_load rfl .auto (ldv_sca sc55 (get_Cac_7 _))) ?_
  refine go_q0 32 (.call { callee := .builtin .len, args := #[.tmp 31], argTypes := #[55] }) 3 (qv_lenS un55 rfl) ?_
  refine go_q0 33 (.binOp .sub 3 (.tmp 32) (.const (.int .i64 1)) 3) 3 (qv_sub rfl rfl (by first | exact IntWalk.i64_in _ (by omega) | exact IntWalk.i64_in _ (by dsimp only; omega) | rfl)) ?_
  refine go_q0 10 (.assign (.tmp 33)) 3 (qv_assign rfl) ?_
  refine go_nil ?_
  change G _ _ _ _
  refine p_weaken [0, 2, 4, 6, 7, 9, 10] rfl ?_
  refine p_seq0 ?_
  refine p_draw (by kernel_rfl) mixed 5 6 _ (fun _ h => h) (by kernel_rfl) ?_
  refine gd_all (0 :: 1 :: 2 :: 3 :: 4 :: []) _ rfl (by kernel_rfl) (by decide) (fun _ h => h) rfl ?_
  refine sq_q0 34 (.move (.tmp 0)) 43 (qv_move rfl) ?_
  refine sq_q0 35 (.nilCheck (.tmp 34)) 0 (qv_nilCheck rfl) ?_
  refine sq_q0 36 (.fieldAddr 84 (.tmp 35) 2) 0 (qv_field rfl fd84_2) ?_
  refine sq_q0 37 (.load 78 (.tmp 36)) 78 (qv_load rfl .auto (ldv_sca sc78 (get_Cac_6 _))) ?_
  refine sq_q0 38 (.load 29 (.tmp 4)) 29 (qv_load rfl .auto (ldv_agg agg29 (extw_Key _) (Nat.le_of_ble_eq_true rfl))) ?_
  refine SeqK.nil (fun β => ?_)
  refine gd_tail [5] rfl (by kernel_rfl) (by kernel_rfl) ?_
  refine go_s0 (some 39) (.call { callee := .value (.func 85), args := #[.tmp 37, .tmp 38], argTypes := #[78, 29] }) 4 ?_
  refine os_call (Nat.le_of_ble_eq_true rfl) en85 rfl .auto (hDel) ?_
  rintro v39 A39 ⟨rfl, rfl⟩
  try dsimp only [List.nil_append, List.cons_append]
  refine go_nil ?_
  change G _ _ _ _
  refine p_weaken [0, 2, 6, 7, 9, 10] rfl ?_
  refine p_seqK [0, 2, 6, 9, 10] rfl (fun frk Mk s => ∃ (L2 : List Slot) (cur2 : Array Value), (Kp n L2 (keysOf (swapOut fl i)) (idx (fl.length - 1))) ∧ (Holds eRec cur2 0 (fl.set i lr)) ∧ (cur2.size = cf * 44) ∧ Ge s ⟨[], frk, tabO bt bs n (swapOut fl i).length :: slotO bs L2 :: (b9, .cells r.c 69 (0, 0)) :: (b6, .cells zeroR.c 69 (0, 0)) :: cacO bc tick bd bt (some ⟨bf, 0, none⟩) fl.length cf :: [(bf, .cells cur2 69 (0, 0))]⟩) (by kernel_rfl) ?_ ?_
  rotate_left
  · rintro s ⟨L2, cur2, hK2, hH2, hz2, hs⟩
    refine ge_ok hs ?_
    refine p_seq0 ?_
    have hOs : OwnL eRec 69 (some ⟨bf, 0, none⟩) cf (fl.set i lr) [(bf, .cells cur2 69 (0, 0))] := E_flat_own (by simp) hc1 hc2 hz2 hH2
    have hOn := (swapOut_eq hlr i).symm ▸ hOs.cut (fl.length - 1)
    refine p_plain0 (0 :: 1 :: 2 :: 3 :: 4 :: 5 :: 6 :: 7 :: 8 :: 9 :: []) ?_
    refine go_q0 66 (.move (.tmp 0)) 43 (qv_move rfl) ?_
    refine go_q0 67 (.move (.tmp 0)) 43 (qv_move rfl) ?_
    refine go_q0 68 (.nilCheck (.tmp 67)) 0 (qv_nilCheck rfl) ?_
    refine go_q0 69 (.fieldAddr 84 (.tmp 68) 3) 0 (qv_field rfl fd84_3) ?_
    refine go_q0 70 (.load 55 (.tmp 69)) 55 (qv_load rfl .auto (ldv_sca sc55 (get_Cac_7 _))) ?_
    refine go_q0 71 (.move (.tmp 10)) 3 (qv_move rfl) ?_
    refine go_q0 72 (.slice 55 (.tmp 70) none (some (.tmp 71)) none) 55 (qv_cutO (h := (swapOut fl i).length) hOs un55 sz69 rfl rfl (by omega) (by omega)) ?_
    refine go_q0 73 (.nilCheck (.tmp 66)) 0 (qv_nilCheck rfl) ?_
    refine go_q0 74 (.fieldAddr 84 (.tmp 73) 3) 0 (qv_field rfl fd84_3) ?_
    refine go_s0 none (.store 55 (.tmp 74) (.tmp 72)) 0 ?_
    refine os_store1 rfl rfl sz55 rfl rfl .auto (Nat.le_of_ble_eq_true rfl) (set_Cac_7 _ _) ?_
    refine go_nil ?_
    change G _ _ _ _
    refine p_weaken [2, 6, 9] rfl ?_
    refine p_seq0 ?_
    refine p_plain0 (0 :: 1 :: 2 :: []) ?_
    refine go_q0 75 (.move (.tmp 2)) 5 (qv_move rfl) ?_
    refine go_q0 76 (.fieldAddr 69 (.tmp 9) 6) 0 (qv_field rfl fd69_6) ?_
    refine go_s0 none (.store 5 (.tmp 76) (.tmp 75)) 0 ?_
    refine os_store1 rfl rfl sz5 rfl rfl .auto (Nat.le_of_ble_eq_true rfl) (set_Rec_42 _ _) ?_
    refine go_nil ?_
    change G _ _ _ _
    refine p_weaken [6, 9] rfl ?_
    refine p_seq0 ?_
    refine p_plain0 (0 :: 1 :: []) ?_
    refine go_q0 77 (.load 69 (.tmp 9)) 69 (qv_load rfl .auto (ldv_agg agg69 (extw_Rec _) (Nat.le_of_ble_eq_true rfl))) ?_
    refine go_s0 none (.store 69 (.tmp 6) (.tmp 77)) 0 ?_
    refine os_store rfl rfl sz69 rfl (one_Rec _) .auto (Nat.le_of_ble_eq_true rfl) (splw_Rec _ _ (siz_Rec _)) ?_
    refine go_nil ?_
    change G _ _ _ _
    refine p_weaken [6] rfl ?_
    refine p_ret0 ?_
    try dsimp only [thenQ, inBlockQ]
    try rw [if_pos rfl]
    refine ret_leftP (cacO bc tick bd bt (some ⟨bf, 0, none⟩) (swapOut fl i).length cf :: tabO bt bs n (swapOut fl i).length :: slotO bs L2 :: [(bf, .cells cur2 69 (0, 0))]) (.inr rfl) (.cons (res_cell rfl (At.mem .auto) (ldv_agg agg69 (extw_Rec _) (Nat.le_of_ble_eq_true rfl))) .nil) (⟨[_, _], perm_end _ _ _ _ _ _⟩) ?_
    exact ⟨rfl, bt, bs, n, L2, _, cf, _, hI.out hil hK2, hOn, rfl⟩
  refine p_seq0 ?_
  refine p_plain0 (0 :: 1 :: 2 :: 3 :: 4 :: 5 :: 6 :: 7 :: 8 :: []) ?_
  refine go_q0 40 (.move (.tmp 0)) 43 (qv_move rfl) ?_
  refine go_q0 41 (.nilCheck (.tmp 40)) 0 (qv_nilCheck rfl) ?_
  refine go_q0 42 (.fieldAddr 84 (.tmp 41) 3) 0 (qv_field rfl fd84_3) ?_
  refine go_q0 43 (.load 55 (.tmp 42)) 55 (qv_load rfl .auto (ldv_sca sc55 (get_Cac_7 _))) ?_
  refine go_q0 44 (.move (.tmp 10)) 3 (qv_move rfl) ?_
  refine go_q0 45 (.indexAddr 55 (.tmp 43) (.tmp 44)) 0 (qv_index un55 sz69 rfl rfl (show (fl.length : Int) - 1 = ((fl.length - 1 : Nat) : Int) by omega) (by omega)) ?_
  refine go_q0 46 (.load 69 (.tmp 45)) 69 (qv_load rfl .auto (ldv_els H hlr (by decide) agg69 rfl)) ?_
  refine go_s0 (some 11) (.alloc 69) 0 ?_
  refine os_allocA rfl ze69 (fun b11 => ?_)
  refine go_s0 none (.store 69 (.tmp 11) (.tmp 46)) 0 ?_
  refine os_store rfl rfl sz69 rfl (one_Rec _) .auto (Nat.le_of_ble_eq_true rfl) (splw_Rec _ _ (siz_Rec _)) ?_
  refine go_nil ?_
  change G _ _ _ _
  refine p_weaken [0, 2, 6, 7, 9, 10, 11] rfl ?_
  refine p_seq0 ?_
  refine p_plain0 (0 :: 1 :: 2 :: 3 :: []) ?_
  refine go_q0 47 (.move (.tmp 10)) 3 (qv_move rfl) ?_
  refine go_q0 48 (.convert 3 23 (.tmp 47)) 23 (qv_conv un3 un23 rfl (by first | exact IntWalk.u64_in _ (by omega) | rfl)) ?_
  refine go_q0 49 (.move (.tmp 7)) 23 (qv_move rfl) ?_
  refine go_q0 50 (.binOp .neq 23 (.tmp 48) (.tmp 49) 23) 4 (qv_neq rfl rfl rfl) ?_
  refine go_nil ?_
  change G _ _ _ _
  refine p_weaken [0, 2, 6, 7, 9, 10, 11, 50] rfl ?_
  refine p_cond (.tmp 50) (by kernel_rfl) rfl (fun h50 => ?_) (fun h50 => ?_)
  rotate_left
  · replace h50 := kn h50
    have hie : i = fl.length - 1 := by omega
    have hK2 : Kp n L' (keysOf (swapOut fl i)) (idx (fl.length - 1)) := by have := hK'; rw [hie, swapOut_idx_last (by omega)] at this; rw [hie]; exact this
    have hH2 : Holds eRec cur 0 (fl.set i lr) := by rw [hie, set_last hlr]; exact H
    have hz2 : cur.size = cf * 44 := hc3
    refine p_skip0 ?_
    exact ⟨_, _, hK2, hH2, hz2, ⟨rfl, ⟨[0, 2, 6, 9, 10], rfl⟩, .auto⟩⟩
  replace h50 := kn h50
  have hne : i ≠ fl.length - 1 := by omega
  refine p_seq0 ?_
  refine p_draw (by kernel_rfl) mixed 7 8 _ (fun _ h => h) (by kernel_rfl) ?_
  refine gd_all (0 :: 1 :: 2 :: 3 :: 4 :: 5 :: 6 :: []) _ rfl (by kernel_rfl) (by decide) (fun _ h => h) rfl ?_
  refine sq_q0 51 (.move (.tmp 0)) 43 (qv_move rfl) ?_
  refine sq_q0 52 (.nilCheck (.tmp 51)) 0 (qv_nilCheck rfl) ?_
  refine sq_q0 53 (.fieldAddr 84 (.tmp 52) 3) 0 (qv_field rfl fd84_3) ?_
  refine sq_q0 54 (.load 55 (.tmp 53)) 55 (qv_load rfl .auto (ldv_sca sc55 (get_Cac_7 _))) ?_
  refine sq_q0 55 (.move (.tmp 7)) 23 (qv_move rfl) ?_
  refine sq_q0 56 (.load 69 (.tmp 11)) 69 (qv_load rfl .auto (ldv_agg agg69 (extw_Rec _) (Nat.le_of_ble_eq_true rfl))) ?_
  refine sq_q0 57 (.indexAddr 55 (.tmp 54) (.tmp 55)) 0 (qv_index un55 sz69 rfl rfl rfl hil) ?_
  refine SeqK.nil (fun β => ?_)
  refine gd_tail [7] rfl (by kernel_rfl) (by kernel_rfl) ?_
  refine go_s0 none (.store 69 (.tmp 57) (.tmp 56)) 0 ?_
  refine os_store rfl rfl sz69 rfl (one_Rec _) .auto (own_fit hc1 hc3 hil) rfl ?_
  have hS := splice_holds (E := eRec) lr H hil
  have hH2 := hS.1
  have hz2 := hS.2.trans hc3
  refine go_nil ?_
  change G _ _ _ _
  refine p_weaken [0, 2, 6, 7, 9, 10, 11] rfl ?_
  have hkl : (keysOf (swapOut fl i))[i]? = some lr.key := by rw [keysOf_at]; rw [swapOut_at hil i (by omega), if_pos rfl, hlr]
  have hlw := hI.kp.kwf _ (List.mem_of_getElem? (keysOf_at hlr))
  obtain ⟨L3, hp3, hK3⟩ := hK'.putOld hn hkl (hI.rt lr (List.mem_of_getElem? hlr)) (i : Int) (swapOut fl i).length
  have hPut := ct_Put (bt := bt) (bs := bs) (many := (swapOut fl i).length) (n := (i : Int)) (L := L') (k := lr.key) hlw (by have := hK'.L_len; omega) (by have := hK'.L_len; omega) (by omega) (by omega)
  rw [hK'.L_len, hp3] at hPut
  rw [swapOut_idx hil hne] at hK3
  refine p_draw (by kernel_rfl) mixed 7 8 _ (fun _ h => h) (by kernel_rfl) ?_
  refine gd_all (0 :: 1 :: 2 :: 3 :: 4 :: 5 :: 6 :: []) _ rfl (by kernel_rfl) (by decide) (fun _ h => h) rfl ?_
  refine sq_q0 58 (.move (.tmp 0)) 43 (qv_move rfl) ?_
  refine sq_q0 59 (.nilCheck (.tmp 58)) 0 (qv_nilCheck rfl) ?_
  refine sq_q0 60 (.fieldAddr 84 (.tmp 59) 2) 0 (qv_field rfl fd84_2) ?_
  refine sq_q0 61 (.load 78 (.tmp 60)) 78 (qv_load rfl .auto (ldv_sca sc78 (get_Cac_6 _))) ?_
  refine sq_q0 62 (.fieldAddr 69 (.tmp 11) 0) 0 (qv_field rfl fd69_0) ?_
  refine sq_q0 63 (.load 29 (.tmp 62)) 29 (qv_load rfl .auto (ldv_agg agg29 (ext_Rec_0_37 _) (Nat.le_of_ble_eq_true rfl))) ?_
  refine sq_q0 64 (.move (.tmp 7)) 23 (qv_move rfl) ?_
  refine SeqK.nil (fun β => ?_)
  refine gd_tail [7] rfl (by kernel_rfl) (by kernel_rfl) ?_
  refine go_s0 (some 65) (.call { callee := .value (.func 82), args := #[.tmp 61, .tmp 63, .tmp 64], argTypes := #[78, 29, 23] }) 44 ?_
  refine os_call (Nat.le_of_ble_eq_true rfl) en82 rfl .auto (hPut) ?_
  rintro v65 A65 ⟨rfl, rfl⟩
  try dsimp only [List.nil_append, List.cons_append]
  have hK2 := hK3
  refine go_nil ?_
  exact ⟨_, _, hK2, hH2, hz2, ⟨rfl, ⟨[0, 2, 6, 9, 10], rfl⟩, .auto⟩⟩
end Go.Proofs.YtobmcpoejhhemaaGreat
