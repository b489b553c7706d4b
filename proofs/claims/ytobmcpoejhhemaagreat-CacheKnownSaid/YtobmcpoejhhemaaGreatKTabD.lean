import Derived.Test.YtobmcpoejhhemaaGreatKTab0
namespace Go.Proofs.YtobmcpoejhhemaaGreat
open Go.E

theorem ct_findS2 {bt bs n : Nat} {many : Int} {L : List Slot} {k : Key} (hn : L.length = n) (hk : k.Wf) (h1 : 1 ≤ n) (h2 : n ≤ 65536) {i : Nat} (hf : findI L k = some i) :
    Ct Tryz.prog 105 [.pointer (some ⟨bt, 0, none⟩), .agg k.c].toArray [tabO bt bs n many, slotO bs L] (fun v M' => v = .tuple #[.int .i64 (place n k i), .int .i64 ((i + 1 : Nat) : Int)] ∧ M' = [tabO bt bs n many, slotO bs L]) := by
  subst hn
  exact ct_findS hk h1 h2 hf

/-- What the places become behind the hole. -/
def delGo (n hole : Nat) : Nat → Nat → List Slot → Option (List Slot)
  | 0, _, L => some L
  | r + 1, step, L => match L[(hole + 1 + step) % n]? with
    | some x => if x.used then match findI (L.set ((hole + 1 + step) % n) zeroS) x.key with
        | some q => delGo n hole r (step + 1) ((L.set ((hole + 1 + step) % n) zeroS).set (place n x.key q) x)
        | none => none
      else some L
    | none => none
theorem delGo_used {n hole r step : Nat} {L L' : List Slot} {x : Slot} (hx : L[(hole + 1 + step) % n]? = some x) (hu : x.used = true) (h : delGo n hole (r + 1) step L = some L') :
    ∃ q, findI (L.set ((hole + 1 + step) % n) zeroS) x.key = some q ∧ delGo n hole r (step + 1) ((L.set ((hole + 1 + step) % n) zeroS).set (place n x.key q) x) = some L' := by
  rw [delGo, hx] at h
  simp only [hu, if_true] at h
  split at h
  · rename_i q hq; exact ⟨q, hq, h⟩
  · cases h
theorem delGo_free {n hole r step : Nat} {L L' : List Slot} {x : Slot} (hx : L[(hole + 1 + step) % n]? = some x) (hu : x.used = false) (h : delGo n hole (r + 1) step L = some L') : L = L' := by
  rw [delGo, hx] at h
  simpa [hu] using h
def AllWf (L : List Slot) : Prop := ∀ s ∈ L, s.key.Wf
theorem z8 : InK .u8 0 := ⟨by decide, by decide⟩
theorem z16 : InK .u16 0 := ⟨by decide, by decide⟩
theorem zeroS_wf : zeroS.key.Wf := ⟨⟨⟨z8, z8, z8, z8, z8, z8, z8, z8, z8, z8, z8, z8, z8, z8, z8, z8⟩⟩, ⟨⟨z8, z8, z8, z8, z8, z8, z8, z8, z8, z8, z8, z8, z8, z8, z8, z8⟩⟩, z8, z16, z16⟩
theorem AllWf.set {L : List Slot} (h : AllWf L) {s : Slot} (hs : s.key.Wf) (i : Nat) : AllWf (L.set i s) := fun x hx => by
  rcases List.mem_or_eq_of_mem_set hx with h1 | h1
  · exact h x h1
  · subst h1; exact hs

theorem ct_Delete {bt bs : Nat} {many : Int} {L L' : List Slot} {k : Key} {j : Nat} (hk : k.Wf) (hwf : AllWf L) (h1 : 1 ≤ L.length) (h2 : L.length ≤ 65536) (hm0 : -1000000 ≤ many) (hm1 : many ≤ 1000000) (hj : hasI L k = some j)
    (hd : delGo L.length j (L.length - 1) 0 (L.set j zeroS) = some L') :
    Ct Tryz.prog 85 [.pointer (some ⟨bt, 0, none⟩), .agg k.c].toArray [tabO bt bs L.length many, slotO bs L] (fun v M' => v = .bool true ∧ M' = [tabO bt bs L.length (many - 1), slotO bs L']) := by
  have hh := ct_has (bt := bt) (bs := bs) (many := many) hk h1 h2
  rw [hj] at hh
  have hjl := hasI_lt hj
  obtain ⟨n, hn⟩ : ∃ n, L.length = n := ⟨_, rfl⟩
  rw [hn] at h1 h2 hh hjl hd ⊢
  refine ct_body (rv := [.tmp 4]) [(0, _), (1, _)] Tryz.func85 (by kernel_rfl) Tryz.ntmps85 Tryz.results85 rfl rfl (fun w0 => ?_)
  refine p_seq0 ?_
  refine p_plain0 (0 :: 1 :: []) ?_
  refine go_s0 (some 3) (.box 29 (.tmp 1)) 0 ?_
  refine os_boxA rfl rfl (fun b3 => ?_)
  refine go_q0 4 (.assign (.const (.bool false))) 4 (qv_assign rfl) ?_
  refine go_nil ?_
  change G _ _ _ _
  refine p_weaken [0, 3, 4] rfl ?_
  refine p_seq0 ?_
  refine p_plain0 (0 :: 1 :: 2 :: 3 :: []) ?_
  refine go_q0 12 (.move (.tmp 0)) 78 (qv_move rfl) ?_
  refine go_q0 13 (.load 29 (.tmp 3)) 29 (qv_load rfl .auto (ldv_agg agg29 (extw_Key _) (Nat.le_of_ble_eq_true rfl))) ?_
  refine go_s0 (some 14) (.call { callee := .value (.func 79), args := #[.tmp 12, .tmp 13], argTypes := #[78, 29] }) 3 ?_
  refine os_pv rfl (pv_callR en79 rfl .auto (hh)) ?_
  refine go_q0 5 (.assign (.tmp 14)) 3 (qv_assign rfl) ?_
  refine go_nil ?_
  change G _ _ _ _
  refine p_weaken [0, 4, 5] rfl ?_
  refine p_seq0 ?_
  refine p_seq0 ?_
  refine p_plain0 (0 :: 1 :: []) ?_
  refine go_q0 15 (.move (.tmp 5)) 3 (qv_move rfl) ?_
  refine go_q0 16 (.binOp .lss 3 (.tmp 15) (.const (.int .i64 0)) 3) 4 (qv_lss (b := false) rfl rfl (decide_eq_false (by unfold hasV; dsimp only; omega))) ?_
  refine go_nil ?_
  change G _ _ _ _
  refine p_weaken [0, 4, 5, 16] rfl ?_
  refine p_condF (.tmp 16) (by kernel_rfl) rfl ?_
  refine p_skip0 ?_
  change G _ _ _ _
  refine p_weaken [0, 4, 5] rfl ?_
  refine p_seq0 ?_
  refine p_plain0 (0 :: 1 :: 2 :: 3 :: 4 :: 5 :: []) ?_
  refine go_q0 17 (.move (.tmp 0)) 78 (qv_move rfl) ?_
  refine go_q0 18 (.nilCheck (.tmp 17)) 0 (qv_nilCheck rfl) ?_
  refine go_q0 19 (.fieldAddr 126 (.tmp 18) 0) 0 (qv_field rfl fd126_0) ?_
  refine go_q0 20 (.load 124 (.tmp 19)) 124 (qv_load rfl .auto (ldv_sca sc124 (get_Tab_0 _))) ?_
  refine go_q0 21 (.call { callee := .builtin .len, args := #[.tmp 20], argTypes := #[124] }) 3 (qv_lenS un124 rfl) ?_
  refine go_q0 6 (.assign (.tmp 21)) 3 (qv_assign rfl) ?_
  refine go_nil ?_
  change G _ _ _ _
  refine p_weaken [0, 4, 5, 6] rfl ?_
  refine p_seq0 ?_
  refine p_draw (by kernel_rfl) mixed 17 17 [] (by first | (simp; done) | (intro q hq; simp [hq]; done)) (by kernel_rfl) ?_
  refine gd_q (i := 0) (d := 22) (op := .move (.tmp 0)) (ty := 78) (g := none) (by kernel_rfl) trivial rfl (by kernel_rfl) (by kernel_rfl) (by kernel_rfl) (by kernel_rfl) (qv_move rfl) ?_
  refine gd_q (i := 1) (d := 23) (op := .nilCheck (.tmp 22)) (ty := 0) (g := none) (by kernel_rfl) trivial rfl (by kernel_rfl) (by kernel_rfl) (by kernel_rfl) (by kernel_rfl) (qv_nilCheck rfl) ?_
  refine gd_q (i := 2) (d := 24) (op := .fieldAddr 126 (.tmp 23) 0) (ty := 0) (g := none) (by kernel_rfl) trivial rfl (by kernel_rfl) (by kernel_rfl) (by kernel_rfl) (by kernel_rfl) (qv_field rfl fd126_0) ?_
  refine gd_q (i := 4) (d := 26) (op := .move (.tmp 5)) (ty := 3) (g := none) (by kernel_rfl) trivial rfl (by kernel_rfl) (by kernel_rfl) (by kernel_rfl) (by kernel_rfl) (qv_move rfl) ?_
  refine gd_q (i := 5) (d := 27) (op := .move (.tmp 0)) (ty := 78) (g := none) (by kernel_rfl) trivial rfl (by kernel_rfl) (by kernel_rfl) (by kernel_rfl) (by kernel_rfl) (qv_move rfl) ?_
  refine gd_q (i := 6) (d := 28) (op := .build 146 #[]) (ty := 146) (g := none) (by kernel_rfl) trivial rfl (by kernel_rfl) (by kernel_rfl) (by kernel_rfl) (by kernel_rfl) (qv_build rfl (bld146_)) ?_
  refine gd_q (i := 7) (d := 29) (op := .move (.tmp 0)) (ty := 78) (g := none) (by kernel_rfl) trivial rfl (by kernel_rfl) (by kernel_rfl) (by kernel_rfl) (by kernel_rfl) (qv_move rfl) ?_
  refine gd_q (i := 8) (d := 30) (op := .nilCheck (.tmp 29)) (ty := 0) (g := none) (by kernel_rfl) trivial rfl (by kernel_rfl) (by kernel_rfl) (by kernel_rfl) (by kernel_rfl) (qv_nilCheck rfl) ?_
  refine gd_q (i := 9) (d := 31) (op := .fieldAddr 126 (.tmp 30) 1) (ty := 0) (g := none) (by kernel_rfl) trivial rfl (by kernel_rfl) (by kernel_rfl) (by kernel_rfl) (by kernel_rfl) (qv_field rfl fd126_1) ?_
  refine gd_two (i := 3) (j := 10) (d := some 25) (op := .load 124 (.tmp 24)) (ty := 124) (g := none) (d' := some 32) (op' := .load 3 (.tmp 31)) (ty' := 3) (g' := none) (by kernel_rfl) (by kernel_rfl) trivial rfl (by kernel_rfl) trivial rfl ?_ ?_
  · refine os_of_qv (Nat.le_of_ble_eq_true rfl) (qv_load rfl .auto (ldv_sca sc124 (get_Tab_0 _))) ?_
    refine ⟨fun _ h => by first | exact h | (cases h; done) | exact .tail _ h | exact .tail _ (.tail _ h) | exact List.mem_append_right _ (List.mem_append_right _ h) | exact List.mem_append_right _ h | (simp only [List.mem_cons, List.not_mem_nil, or_false] at h ⊢; first | exact .inl h | exact .inr (.inl h) | exact .inr (.inr (.inl h)) | exact .inr (.inr (.inr (.inl h))) | (subst h; simp; done) | grind), ?_⟩
    refine gd_one (i := 10) (d := some 32) (op := .load 3 (.tmp 31)) (ty := 3) (g := none) (by kernel_rfl) trivial rfl (by kernel_rfl) ?_
    refine os_of_qv (Nat.le_of_ble_eq_true rfl) (qv_load rfl .auto (ldv_sca sc3 (get_Tab_1 _))) ?_
    refine ⟨fun _ h => by first | exact h | (cases h; done) | exact .tail _ h | exact .tail _ (.tail _ h) | exact List.mem_append_right _ (List.mem_append_right _ h) | exact List.mem_append_right _ h | (simp only [List.mem_cons, List.not_mem_nil, or_false] at h ⊢; first | exact .inl h | exact .inr (.inl h) | exact .inr (.inr (.inl h)) | exact .inr (.inr (.inr (.inl h))) | (subst h; simp; done) | grind), ?_⟩
    refine gd_q (i := 11) (d := 33) (op := .binOp .sub 3 (.tmp 32) (.const (.int .i64 1)) 3) (ty := 3) (g := none) (by kernel_rfl) trivial rfl (by kernel_rfl) (by kernel_rfl) (by kernel_rfl) (by kernel_rfl) (qv_sub rfl rfl (by first | exact IntWalk.i64_in _ (by omega) | exact IntWalk.i64_in _ (by dsimp only; omega) | rfl)) ?_
    refine gd_q (i := 12) (d := 34) (op := .indexAddr 124 (.tmp 25) (.tmp 26)) (ty := 0) (g := none) (by kernel_rfl) trivial rfl (by kernel_rfl) (by kernel_rfl) (by kernel_rfl) (by kernel_rfl) (qv_index un124 sz146 rfl rfl (by unfold hasV; rfl) hjl) ?_
    refine gd_one (i := 13) (d := none) (op := .store 146 (.tmp 34) (.tmp 28)) (ty := 0) (g := none) (by kernel_rfl) trivial rfl (by kernel_rfl) ?_
    refine os_store rfl rfl sz146 rfl (one_Slot _) (by repeat first | exact .here | apply Up.next | apply Up.app) (flat_fit eSlot (hn ▸ hjl)) (splice_flat eSlot zeroS (hn ▸ hjl)) ?_
    refine ⟨fun _ h => by first | exact h | (cases h; done) | exact .tail _ h | exact .tail _ (.tail _ h) | exact List.mem_append_right _ (List.mem_append_right _ h) | exact List.mem_append_right _ h | (simp only [List.mem_cons, List.not_mem_nil, or_false] at h ⊢; first | exact .inl h | exact .inr (.inl h) | exact .inr (.inr (.inl h)) | exact .inr (.inr (.inr (.inl h))) | (subst h; simp; done) | grind), ?_⟩
    refine gd_q (i := 14) (d := 35) (op := .nilCheck (.tmp 27)) (ty := 0) (g := none) (by kernel_rfl) trivial rfl (by kernel_rfl) (by kernel_rfl) (by kernel_rfl) (by kernel_rfl) (qv_nilCheck rfl) ?_
    refine gd_q (i := 15) (d := 36) (op := .fieldAddr 126 (.tmp 35) 1) (ty := 0) (g := none) (by kernel_rfl) trivial rfl (by kernel_rfl) (by kernel_rfl) (by kernel_rfl) (by kernel_rfl) (qv_field rfl fd126_1) ?_
    refine gd_one (i := 16) (d := none) (op := .store 3 (.tmp 36) (.tmp 33)) (ty := 0) (g := none) (by kernel_rfl) trivial rfl (by kernel_rfl) ?_
    refine os_store1 rfl rfl sz3 rfl rfl .auto (Nat.le_of_ble_eq_true rfl) (set_Tab_1 _ _) ?_
    refine ⟨fun _ h => by first | exact h | (cases h; done) | exact .tail _ h | exact .tail _ (.tail _ h) | exact List.mem_append_right _ (List.mem_append_right _ h) | exact List.mem_append_right _ h | (simp only [List.mem_cons, List.not_mem_nil, or_false] at h ⊢; first | exact .inl h | exact .inr (.inl h) | exact .inr (.inr (.inl h)) | exact .inr (.inr (.inr (.inl h))) | (subst h; simp; done) | grind), ?_⟩
    refine gd_tail [] rfl (by kernel_rfl) (by kernel_rfl) ?_
    refine go_nil ?_
    change G _ _ _ _
    refine p_weaken [0, 4, 5, 6] rfl ?_
    refine p_seq0 ?_
    refine p_seq0 ?_
    refine p_plain0 (0 :: 1 :: 2 :: []) ?_
    refine go_q0 37 (.move (.tmp 6)) 3 (qv_move rfl) ?_
    refine go_q0 38 (.binOp .sub 3 (.tmp 37) (.const (.int .i64 1)) 3) 3 (qv_sub rfl rfl (by first | exact IntWalk.i64_in _ (by omega) | exact IntWalk.i64_in _ (by dsimp only; omega) | rfl)) ?_
    refine go_q0 39 (.move (.const (.int .i64 0))) 3 (qv_move rfl) ?_
    refine go_nil ?_
    change G _ _ _ _
    refine p_weaken [0, 4, 5, 6, 38, 39] rfl ?_
    refine p_block 0 (by kernel_rfl) ?_
    refine p_loopE (by kernel_rfl) (fun s m => ∃ (step : Nat) (Lc : List Slot), (step ≤ n - 1) ∧ (Lc.length = n) ∧ (AllWf Lc) ∧ (delGo n j (n - 1 - step) step Lc = some L') ∧ Ge s ⟨[], [(0, .pointer (some ⟨bt, 0, none⟩)), (5, .int .i64 j), (6, .int .i64 n), (38, .int .i64 ((n : Int) - 1)), (39, .int .i64 step)], [tabO bt bs n (many - 1), slotO bs Lc]⟩ ∧ m = n - step) ?_ ?_
    · exact ⟨_, ⟨0, L.set j zeroS, by omega, by simp [hn], hwf.set zeroS_wf j, hd, ⟨rfl, ⟨[0, 5, 6, 38, 39], rfl⟩, .auto⟩, rfl⟩⟩
    rintro s m ⟨step, Lc, hs, hlc, hwc, hdc, hs, rfl⟩
    refine ge_ok hs ?_
    refine p_seq0 ?_
    refine p_plain0 (0 :: []) ?_
    refine go_q0 40 (.binOp .lss 3 (.tmp 39) (.tmp 38) 3) 4 (qv_lss rfl rfl rfl) ?_
    refine go_nil ?_
    change G _ _ _ _
    refine p_seq0 ?_
    refine p_cond (.tmp 40) (by kernel_rfl) rfl (fun h40 => ?_) (fun h40 => ?_)
    rotate_left
    · replace h40 := kn h40
      refine p_exit 0 (by kernel_rfl) ?_
      change G _ _ _ _
      refine p_weaken [] rfl ?_
      refine p_seq0 ?_
      refine p_plain0 (0 :: []) ?_
      refine go_q0 4 (.assign (.const (.bool true))) 4 (qv_assign rfl) ?_
      refine go_nil ?_
      change G _ _ _ _
      refine p_ret0 ?_
      try dsimp only [thenQ, inBlockQ]
      try rw [if_pos rfl]
      refine ret_left ([tabO bt bs n (many - 1), slotO bs Lc]) (.inr rfl) (.cons (res_tmp rfl) .nil) .auto ?_
      have hle' : Lc = L' := by first | exact hle | (rw [show n - 1 - step = 0 by omega] at hdc; exact Option.some.inj hdc)
      exact ⟨rfl, by rw [hle']⟩
    replace h40 := kn h40
    refine p_skip0 ?_
    change G _ _ _ _
    refine p_weaken [0, 5, 6, 38, 39] rfl ?_
    refine p_seq0 ?_
    refine p_block 1 (by kernel_rfl) ?_
    refine p_seq0 ?_
    refine p_plain0 (0 :: 1 :: []) ?_
    refine go_q0 41 (.move (.tmp 39)) 3 (qv_move rfl) ?_
    refine go_q0 7 (.assign (.tmp 41)) 3 (qv_assign rfl) ?_
    refine go_nil ?_
    change G _ _ _ _
    refine p_weaken [0, 5, 6, 7, 38, 39] rfl ?_
    refine p_seq0 ?_
    refine p_plain0 (0 :: 1 :: 2 :: 3 :: 4 :: 5 :: 6 :: []) ?_
    refine go_q0 42 (.move (.tmp 5)) 3 (qv_move rfl) ?_
    refine go_q0 43 (.binOp .add 3 (.tmp 42) (.const (.int .i64 1)) 3) 3 (qv_add rfl rfl (IntWalk.i64_in _ (by omega))) ?_
    refine go_q0 44 (.move (.tmp 7)) 3 (qv_move rfl) ?_
    refine go_q0 45 (.binOp .add 3 (.tmp 43) (.tmp 44) 3) 3 (qv_add rfl rfl (by first | exact IntWalk.i64_in _ (by omega) | exact IntWalk.i64_in _ (by dsimp only; omega) | rfl)) ?_
    refine go_q0 46 (.move (.tmp 6)) 3 (qv_move rfl) ?_
    refine go_q0 47 (.binOp .rem 3 (.tmp 45) (.tmp 46) 3) 3 (qv_rem rfl rfl (by omega) ((by rw [Int.tmod_eq_emod_of_nonneg (by omega)]; rfl : ((j : Int) + 1 + (step : Int)).tmod (n : Int) = (((j + 1 + step) % n : Nat) : Int)))) ?_
    refine go_q0 8 (.assign (.tmp 47)) 3 (qv_assign rfl) ?_
    refine go_nil ?_
    change G _ _ _ _
    refine p_weaken [0, 5, 6, 8, 38, 39] rfl ?_
    refine p_seq0 ?_
    have hil : (j + 1 + step) % n < n := Nat.mod_lt _ (by omega)
    obtain ⟨x, hx⟩ : ∃ x, Lc[(j + 1 + step) % n]? = some x := ⟨_, List.getElem?_eq_getElem (by omega)⟩
    obtain ⟨r, hr⟩ : ∃ r, n - 1 - step = r + 1 := ⟨n - 1 - step - 1, by omega⟩
    rw [hr] at hdc
    refine p_plain0 (0 :: 1 :: 2 :: 3 :: 4 :: 5 :: 6 :: 7 :: 8 :: []) ?_
    refine go_q0 48 (.move (.tmp 0)) 78 (qv_move rfl) ?_
    refine go_q0 49 (.nilCheck (.tmp 48)) 0 (qv_nilCheck rfl) ?_
    refine go_q0 50 (.fieldAddr 126 (.tmp 49) 0) 0 (qv_field rfl fd126_0) ?_
    refine go_q0 51 (.load 124 (.tmp 50)) 124 (qv_load rfl .auto (ldv_sca sc124 (get_Tab_0 _))) ?_
    refine go_q0 52 (.move (.tmp 8)) 3 (qv_move rfl) ?_
    refine go_q0 53 (.indexAddr 124 (.tmp 51) (.tmp 52)) 0 (qv_index un124 sz146 rfl rfl rfl hil) ?_
    refine go_q0 54 (.load 146 (.tmp 53)) 146 (qv_load rfl .auto (ldv_els (slot_holds Lc) hx (by decide) agg146 rfl)) ?_
    refine go_s0 (some 9) (.alloc 146) 0 ?_
    refine os_allocA rfl ze146 (fun b9 => ?_)
    refine go_s0 none (.store 146 (.tmp 9) (.tmp 54)) 0 ?_
    refine os_store rfl rfl sz146 rfl (one_Slot _) .auto (Nat.le_of_ble_eq_true rfl) (splw_Slot _ _ (siz_Slot _)) ?_
    refine go_nil ?_
    change G _ _ _ _
    refine p_weaken [0, 5, 6, 8, 9, 38, 39] rfl ?_
    refine p_seq0 ?_
    refine p_seq0 ?_
    refine p_plain0 (0 :: 1 :: 2 :: []) ?_
    refine go_q0 55 (.fieldAddr 146 (.tmp 9) 0) 0 (qv_field rfl fd146_0) ?_
    refine go_q0 56 (.load 4 (.tmp 55)) 4 (qv_load rfl .auto (ldv_sca sc4 (get_Slot_0 _))) ?_
    refine go_q0 57 (.unOp .not 4 (.tmp 56)) 4 (qv_not rfl) ?_
    refine go_nil ?_
    change G _ _ _ _
    refine p_weaken [0, 5, 6, 8, 9, 38, 39, 57] rfl ?_
    refine p_cond (.tmp 57) (by kernel_rfl) rfl (fun h57 => ?_) (fun h57 => ?_)
    · replace h57 := kn h57
      have hle := delGo_free hx h57 hdc
      refine p_exit 0 (by kernel_rfl) ?_
      change G _ _ _ _
      refine p_weaken [] rfl ?_
      refine p_seq0 ?_
      refine p_plain0 (0 :: []) ?_
      refine go_q0 4 (.assign (.const (.bool true))) 4 (qv_assign rfl) ?_
      refine go_nil ?_
      change G _ _ _ _
      refine p_ret0 ?_
      try dsimp only [thenQ, inBlockQ]
      try rw [if_pos rfl]
      refine ret_left ([tabO bt bs n (many - 1), slotO bs Lc]) (.inr rfl) (.cons (res_tmp rfl) .nil) .auto ?_
      have hle' : Lc = L' := by first | exact hle | (rw [show n - 1 - step = 0 by omega] at hdc; exact Option.some.inj hdc)
      exact ⟨rfl, by rw [hle']⟩
    replace h57 := kn h57
    obtain ⟨q, hq, hrest⟩ := delGo_used hx h57 hdc
    rw [show r = n - 1 - step - 1 by omega] at hrest
    refine p_skip0 ?_
    change G _ _ _ _
    refine p_weaken [0, 5, 6, 8, 9, 38, 39] rfl ?_
    refine p_seq0 ?_
    refine p_plain0 (0 :: 1 :: 2 :: 3 :: 4 :: 5 :: 6 :: 7 :: []) ?_
    refine go_q0 58 (.move (.tmp 0)) 78 (qv_move rfl) ?_
    refine go_q0 59 (.nilCheck (.tmp 58)) 0 (qv_nilCheck rfl) ?_
    refine go_q0 60 (.fieldAddr 126 (.tmp 59) 0) 0 (qv_field rfl fd126_0) ?_
    refine go_q0 61 (.load 124 (.tmp 60)) 124 (qv_load rfl .auto (ldv_sca sc124 (get_Tab_0 _))) ?_
    refine go_q0 62 (.move (.tmp 8)) 3 (qv_move rfl) ?_
    refine go_q0 63 (.build 146 #[]) 146 (qv_build rfl (bld146_)) ?_
    refine go_q0 64 (.indexAddr 124 (.tmp 61) (.tmp 62)) 0 (qv_index un124 sz146 rfl rfl rfl hil) ?_
    refine go_s0 none (.store 146 (.tmp 64) (.tmp 63)) 0 ?_
    refine os_store rfl rfl sz146 rfl (one_Slot _) (by repeat first | exact .here | apply Up.next | apply Up.app) (flat_fit eSlot (by omega)) (splice_flat eSlot zeroS (by omega)) ?_
    refine go_nil ?_
    change G _ _ _ _
    refine p_weaken [0, 5, 6, 9, 38, 39] rfl ?_
    refine p_seq0 ?_
    refine p_plain0 (0 :: 1 :: 2 :: 3 :: 4 :: 5 :: 6 :: 7 :: 8 :: []) ?_
    refine go_q0 66 (.move (.tmp 0)) 78 (qv_move rfl) ?_
    refine go_q0 67 (.fieldAddr 146 (.tmp 9) 1) 0 (qv_field rfl fd146_1) ?_
    refine go_q0 68 (.load 29 (.tmp 67)) 29 (qv_load rfl .auto (ldv_agg agg29 (ext_Slot_1_37 _) (Nat.le_of_ble_eq_true rfl))) ?_
    refine go_s0 (some 69) (.call { callee := .value (.func 105), args := #[.tmp 66, .tmp 68], argTypes := #[78, 29] }) 168 ?_
    refine os_pv rfl (pv_callR en105 rfl .auto (ct_findS2 (L := Lc.set ((j + 1 + step) % n) zeroS) (by simp [hlc]) (hwc x (List.mem_of_getElem? hx)) (by omega) h2 hq)) ?_
    refine go_q0 65 (.move (.tmp 69)) 168 (qv_move rfl) ?_
    refine go_q0 70 (.extract (.tmp 65) 0) 3 (qv_extract rfl rfl) ?_
    refine go_q0 71 (.extract (.tmp 65) 1) 3 (qv_extract rfl rfl) ?_
    refine go_q0 10 (.assign (.tmp 70)) 3 (qv_assign rfl) ?_
    refine go_q0 11 (.assign (.tmp 71)) 3 (qv_assign rfl) ?_
    refine go_nil ?_
    change G _ _ _ _
    refine p_weaken [0, 5, 6, 9, 10, 38, 39] rfl ?_
    have hpl := place_lt (n := n) (by omega) x.key q
    refine p_draw (by kernel_rfl) mixed 7 8 _ (fun _ h => h) (by kernel_rfl) ?_
    refine gd_all (0 :: 1 :: 2 :: 3 :: 4 :: 5 :: 6 :: []) _ rfl (by kernel_rfl) (by decide) (fun _ h => h) rfl ?_
    refine sq_q0 72 (.move (.tmp 0)) 78 (qv_move rfl) ?_
    refine sq_q0 73 (.nilCheck (.tmp 72)) 0 (qv_nilCheck rfl) ?_
    refine sq_q0 74 (.fieldAddr 126 (.tmp 73) 0) 0 (qv_field rfl fd126_0) ?_
    refine sq_q0 75 (.load 124 (.tmp 74)) 124 (qv_load rfl .auto (ldv_sca sc124 (get_Tab_0 _))) ?_
    refine sq_q0 76 (.move (.tmp 10)) 3 (qv_move rfl) ?_
    refine sq_q0 77 (.load 146 (.tmp 9)) 146 (qv_load rfl .auto (ldv_agg agg146 (extw_Slot _) (Nat.le_of_ble_eq_true rfl))) ?_
    refine sq_q0 78 (.indexAddr 124 (.tmp 75) (.tmp 76)) 0 (qv_index un124 sz146 rfl rfl rfl hpl) ?_
    refine SeqK.nil (fun β => ?_)
    refine gd_tail [7] rfl (by kernel_rfl) (by kernel_rfl) ?_
    refine go_s0 none (.store 146 (.tmp 78) (.tmp 77)) 0 ?_
    refine os_store rfl rfl sz146 rfl (one_Slot _) (by repeat first | exact .here | apply Up.next | apply Up.app) (flat_fit eSlot (by simp; omega)) (splice_flat eSlot x (by simp; omega)) ?_
    refine go_nil ?_
    change G _ _ _ _
    refine p_weaken [0, 5, 6, 38, 39] rfl ?_
    refine p_plain0 (0 :: 1 :: []) ?_
    refine go_q0 79 (.binOp .add 3 (.tmp 39) (.const (.int .i64 1)) 3) 3 (qv_add rfl rfl (by first | exact IntWalk.i64_in _ (by omega) | exact IntWalk.i64_in _ (by dsimp only; omega) | rfl)) ?_
    refine go_q0 39 (.move (.tmp 79)) 3 (qv_move rfl) ?_
    refine go_nil ?_
    exact ⟨_, ⟨step + 1, _, by omega, by simp [hlc], (hwc.set zeroS_wf _).set (hwc x (List.mem_of_getElem? hx)) _, (by rw [show n - 1 - (step + 1) = n - 1 - step - 1 by omega]; exact hrest), ⟨rfl, ⟨[0, 5, 6, 38, 39], rfl⟩, .auto⟩, rfl⟩, by omega⟩
  refine os_of_qv (Nat.le_of_ble_eq_true rfl) (qv_load rfl .auto (ldv_sca sc3 (get_Tab_1 _))) ?_
  refine ⟨fun _ h => by first | exact h | (cases h; done) | exact .tail _ h | exact .tail _ (.tail _ h) | exact List.mem_append_right _ (List.mem_append_right _ h) | exact List.mem_append_right _ h | (simp only [List.mem_cons, List.not_mem_nil, or_false] at h ⊢; first | exact .inl h | exact .inr (.inl h) | exact .inr (.inr (.inl h)) | exact .inr (.inr (.inr (.inl h))) | (subst h; simp; done) | grind), ?_⟩
  refine gd_q (i := 11) (d := 33) (op := .binOp .sub 3 (.tmp 32) (.const (.int .i64 1)) 3) (ty := 3) (g := none) (by kernel_rfl) trivial rfl (by kernel_rfl) (by kernel_rfl) (by kernel_rfl) (by kernel_rfl) (qv_sub rfl rfl (by first | exact IntWalk.i64_in _ (by omega) | exact IntWalk.i64_in _ (by dsimp only; omega) | rfl)) ?_
  refine gd_one (i := 3) (d := some 25) (op := .load 124 (.tmp 24)) (ty := 124) (g := none) (by kernel_rfl) trivial rfl (by kernel_rfl) ?_
  refine os_of_qv (Nat.le_of_ble_eq_true rfl) (qv_load rfl .auto (ldv_sca sc124 (get_Tab_0 _))) ?_
  refine ⟨fun _ h => by first | exact h | (cases h; done) | exact .tail _ h | exact .tail _ (.tail _ h) | exact List.mem_append_right _ (List.mem_append_right _ h) | exact List.mem_append_right _ h | (simp only [List.mem_cons, List.not_mem_nil, or_false] at h ⊢; first | exact .inl h | exact .inr (.inl h) | exact .inr (.inr (.inl h)) | exact .inr (.inr (.inr (.inl h))) | (subst h; simp; done) | grind), ?_⟩
  refine gd_q (i := 12) (d := 34) (op := .indexAddr 124 (.tmp 25) (.tmp 26)) (ty := 0) (g := none) (by kernel_rfl) trivial rfl (by kernel_rfl) (by kernel_rfl) (by kernel_rfl) (by kernel_rfl) (qv_index un124 sz146 rfl rfl (by unfold hasV; rfl) hjl) ?_
  refine gd_one (i := 13) (d := none) (op := .store 146 (.tmp 34) (.tmp 28)) (ty := 0) (g := none) (by kernel_rfl) trivial rfl (by kernel_rfl) ?_
  refine os_store rfl rfl sz146 rfl (one_Slot _) (by repeat first | exact .here | apply Up.next | apply Up.app) (flat_fit eSlot (hn ▸ hjl)) (splice_flat eSlot zeroS (hn ▸ hjl)) ?_
  refine ⟨fun _ h => by first | exact h | (cases h; done) | exact .tail _ h | exact .tail _ (.tail _ h) | exact List.mem_append_right _ (List.mem_append_right _ h) | exact List.mem_append_right _ h | (simp only [List.mem_cons, List.not_mem_nil, or_false] at h ⊢; first | exact .inl h | exact .inr (.inl h) | exact .inr (.inr (.inl h)) | exact .inr (.inr (.inr (.inl h))) | (subst h; simp; done) | grind), ?_⟩
  refine gd_q (i := 14) (d := 35) (op := .nilCheck (.tmp 27)) (ty := 0) (g := none) (by kernel_rfl) trivial rfl (by kernel_rfl) (by kernel_rfl) (by kernel_rfl) (by kernel_rfl) (qv_nilCheck rfl) ?_
  refine gd_q (i := 15) (d := 36) (op := .fieldAddr 126 (.tmp 35) 1) (ty := 0) (g := none) (by kernel_rfl) trivial rfl (by kernel_rfl) (by kernel_rfl) (by kernel_rfl) (by kernel_rfl) (qv_field rfl fd126_1) ?_
  refine gd_one (i := 16) (d := none) (op := .store 3 (.tmp 36) (.tmp 33)) (ty := 0) (g := none) (by kernel_rfl) trivial rfl (by kernel_rfl) ?_
  refine os_store1 rfl rfl sz3 rfl rfl .auto (Nat.le_of_ble_eq_true rfl) (set_Tab_1 _ _) ?_
  refine ⟨fun _ h => by first | exact h | (cases h; done) | exact .tail _ h | exact .tail _ (.tail _ h) | exact List.mem_append_right _ (List.mem_append_right _ h) | exact List.mem_append_right _ h | (simp only [List.mem_cons, List.not_mem_nil, or_false] at h ⊢; first | exact .inl h | exact .inr (.inl h) | exact .inr (.inr (.inl h)) | exact .inr (.inr (.inr (.inl h))) | (subst h; simp; done) | grind), ?_⟩
  refine gd_tail [] rfl (by kernel_rfl) (by kernel_rfl) ?_
  refine go_nil ?_
  change G _ _ _ _
  refine p_weaken [0, 4, 5, 6] rfl ?_
  refine p_seq0 ?_
  refine p_seq0 ?_
  refine p_plain0 (0 :: 1 :: 2 :: []) ?_
  refine go_q0 37 (.move (.tmp 6)) 3 (qv_move rfl) ?_
  refine go_q0 38 (.binOp .sub 3 (.tmp 37) (.const (.int .i64 1)) 3) 3 (qv_sub rfl rfl (by first | exact IntWalk.i64_in _ (by omega) | exact IntWalk.i64_in _ (by dsimp only; omega) | rfl)) ?_
  refine go_q0 39 (.move (.const (.int .i64 0))) 3 (qv_move rfl) ?_
  refine go_nil ?_
  change G _ _ _ _
  refine p_weaken [0, 4, 5, 6, 38, 39] rfl ?_
  refine p_block 0 (by kernel_rfl) ?_
  refine p_loopE (by kernel_rfl) (fun s m => ∃ (step : Nat) (Lc : List Slot), (step ≤ n - 1) ∧ (Lc.length = n) ∧ (AllWf Lc) ∧ (delGo n j (n - 1 - step) step Lc = some L') ∧ Ge s ⟨[], [(0, .pointer (some ⟨bt, 0, none⟩)), (5, .int .i64 j), (6, .int .i64 n), (38, .int .i64 ((n : Int) - 1)), (39, .int .i64 step)], [tabO bt bs n (many - 1), slotO bs Lc]⟩ ∧ m = n - step) ?_ ?_
  · exact ⟨_, ⟨0, L.set j zeroS, by omega, by simp [hn], hwf.set zeroS_wf j, hd, ⟨rfl, ⟨[0, 5, 6, 38, 39], rfl⟩, .auto⟩, rfl⟩⟩
  rintro s m ⟨step, Lc, hs, hlc, hwc, hdc, hs, rfl⟩
  refine ge_ok hs ?_
  refine p_seq0 ?_
  refine p_plain0 (0 :: []) ?_
  refine go_q0 40 (.binOp .lss 3 (.tmp 39) (.tmp 38) 3) 4 (qv_lss rfl rfl rfl) ?_
  refine go_nil ?_
  change G _ _ _ _
  refine p_seq0 ?_
  refine p_cond (.tmp 40) (by kernel_rfl) rfl (fun h40 => ?_) (fun h40 => ?_)
  rotate_left
  · replace h40 := kn h40
    refine p_exit 0 (by kernel_rfl) ?_
    change G _ _ _ _
    refine p_weaken [] rfl ?_
    refine p_seq0 ?_
    refine p_plain0 (0 :: []) ?_
    refine go_q0 4 (.assign (.const (.bool true))) 4 (qv_assign rfl) ?_
    refine go_nil ?_
    change G _ _ _ _
    refine p_ret0 ?_
    try dsimp only [thenQ, inBlockQ]
    try rw [if_pos rfl]
    refine ret_left ([tabO bt bs n (many - 1), slotO bs Lc]) (.inr rfl) (.cons (res_tmp rfl) .nil) .auto ?_
    have hle' : Lc = L' := by first | exact hle | (rw [show n - 1 - step = 0 by omega] at hdc; exact Option.some.inj hdc)
    exact ⟨rfl, by rw [hle']⟩
  replace h40 := kn h40
  refine p_skip0 ?_
  change G _ _ _ _
  refine p_weaken [0, 5, 6, 38, 39] rfl ?_
  refine p_seq0 ?_
  refine p_block 1 (by kernel_rfl) ?_
  refine p_seq0 ?_
  refine p_plain0 (0 :: 1 :: []) ?_
  refine go_q0 41 (.move (.tmp 39)) 3 (qv_move rfl) ?_
  refine go_q0 7 (.assign (.tmp 41)) 3 (qv_assign rfl) ?_
  refine go_nil ?_
  change G _ _ _ _
  refine p_weaken [0, 5, 6, 7, 38, 39] rfl ?_
  refine p_seq0 ?_
  refine p_plain0 (0 :: 1 :: 2 :: 3 :: 4 :: 5 :: 6 :: []) ?_
  refine go_q0 42 (.move (.tmp 5)) 3 (qv_move rfl) ?_
  refine go_q0 43 (.binOp .add 3 (.tmp 42) (.const (.int .i64 1)) 3) 3 (qv_add rfl rfl (IntWalk.i64_in _ (by omega))) ?_
  refine go_q0 44 (.move (.tmp 7)) 3 (qv_move rfl) ?_
  refine go_q0 45 (.binOp .add 3 (.tmp 43) (.tmp 44) 3) 3 (qv_add rfl rfl (by first | exact IntWalk.i64_in _ (by omega) | exact IntWalk.i64_in _ (by dsimp only; omega) | rfl)) ?_
  refine go_q0 46 (.move (.tmp 6)) 3 (qv_move rfl) ?_
  refine go_q0 47 (.binOp .rem 3 (.tmp 45) (.tmp 46) 3) 3 (qv_rem rfl rfl (by omega) ((by rw [Int.tmod_eq_emod_of_nonneg (by omega)]; rfl : ((j : Int) + 1 + (step : Int)).tmod (n : Int) = (((j + 1 + step) % n : Nat) : Int)))) ?_
  refine go_q0 8 (.assign (.tmp 47)) 3 (qv_assign rfl) ?_
  refine go_nil ?_
  change G _ _ _ _
  refine p_weaken [0, 5, 6, 8, 38, 39] rfl ?_
  refine p_seq0 ?_
  have hil : (j + 1 + step) % n < n := Nat.mod_lt _ (by omega)
  obtain ⟨x, hx⟩ : ∃ x, Lc[(j + 1 + step) % n]? = some x := ⟨_, List.getElem?_eq_getElem (by omega)⟩
  obtain ⟨r, hr⟩ : ∃ r, n - 1 - step = r + 1 := ⟨n - 1 - step - 1, by omega⟩
  rw [hr] at hdc
  refine p_plain0 (0 :: 1 :: 2 :: 3 :: 4 :: 5 :: 6 :: 7 :: 8 :: []) ?_
  refine go_q0 48 (.move (.tmp 0)) 78 (qv_move rfl) ?_
  refine go_q0 49 (.nilCheck (.tmp 48)) 0 (qv_nilCheck rfl) ?_
  refine go_q0 50 (.fieldAddr 126 (.tmp 49) 0) 0 (qv_field rfl fd126_0) ?_
  refine go_q0 51 (.load 124 (.tmp 50)) 124 (qv_load rfl .auto (ldv_sca sc124 (get_Tab_0 _))) ?_
  refine go_q0 52 (.move (.tmp 8)) 3 (qv_move rfl) ?_
  refine go_q0 53 (.indexAddr 124 (.tmp 51) (.tmp 52)) 0 (qv_index un124 sz146 rfl rfl rfl hil) ?_
  refine go_q0 54 (.load 146 (.tmp 53)) 146 (qv_load rfl .auto (ldv_els (slot_holds Lc) hx (by decide) agg146 rfl)) ?_
  refine go_s0 (some 9) (.alloc 146) 0 ?_
  refine os_allocA rfl ze146 (fun b9 => ?_)
  refine go_s0 none (.store 146 (.tmp 9) (.tmp 54)) 0 ?_
  refine os_store rfl rfl sz146 rfl (one_Slot _) .auto (Nat.le_of_ble_eq_true rfl) (splw_Slot _ _ (siz_Slot _)) ?_
  refine go_nil ?_
  change G _ _ _ _
  refine p_weaken [0, 5, 6, 8, 9, 38, 39] rfl ?_
  refine p_seq0 ?_
  refine p_seq0 ?_
  refine p_plain0 (0 :: 1 :: 2 :: []) ?_
  refine go_q0 55 (.fieldAddr 146 (.tmp 9) 0) 0 (qv_field rfl fd146_0) ?_
  refine go_q0 56 (.load 4 (.tmp 55)) 4 (qv_load rfl .auto (ldv_sca sc4 (get_Slot_0 _))) ?_
  refine go_q0 57 (.unOp .not 4 (.tmp 56)) 4 (qv_not rfl) ?_
  refine go_nil ?_
  change G _ _ _ _
  refine p_weaken [0, 5, 6, 8, 9, 38, 39, 57] rfl ?_
  refine p_cond (.tmp 57) (by kernel_rfl) rfl (fun h57 => ?_) (fun h57 => ?_)
  · replace h57 := kn h57
    have hle := delGo_free hx h57 hdc
    refine p_exit 0 (by kernel_rfl) ?_
    change G _ _ _ _
    refine p_weaken [] rfl ?_
    refine p_seq0 ?_
    refine p_plain0 (0 :: []) ?_
    refine go_q0 4 (.assign (.const (.bool true))) 4 (qv_assign rfl) ?_
    refine go_nil ?_
    change G _ _ _ _
    refine p_ret0 ?_
    try dsimp only [thenQ, inBlockQ]
    try rw [if_pos rfl]
    refine ret_left ([tabO bt bs n (many - 1), slotO bs Lc]) (.inr rfl) (.cons (res_tmp rfl) .nil) .auto ?_
    have hle' : Lc = L' := by first | exact hle | (rw [show n - 1 - step = 0 by omega] at hdc; exact Option.some.inj hdc)
    exact ⟨rfl, by rw [hle']⟩
  replace h57 := kn h57
  obtain ⟨q, hq, hrest⟩ := delGo_used hx h57 hdc
  rw [show r = n - 1 - step - 1 by omega] at hrest
  refine p_skip0 ?_
  change G _ _ _ _
  refine p_weaken [0, 5, 6, 8, 9, 38, 39] rfl ?_
  refine p_seq0 ?_
  refine p_plain0 (0 :: 1 :: 2 :: 3 :: 4 :: 5 :: 6 :: 7 :: []) ?_
  refine go_q0 58 (.move (.tmp 0)) 78 (qv_move rfl) ?_
  refine go_q0 59 (.nilCheck (.tmp 58)) 0 (qv_nilCheck rfl) ?_
  refine go_q0 60 (.fieldAddr 126 (.tmp 59) 0) 0 (qv_field rfl fd126_0) ?_
  refine go_q0 61 (.load 124 (.tmp 60)) 124 (qv_load rfl .auto (ldv_sca sc124 (get_Tab_0 _))) ?_
  refine go_q0 62 (.move (.tmp 8)) 3 (qv_move rfl) ?_
  refine go_q0 63 (.build 146 #[]) 146 (qv_build rfl (bld146_)) ?_
  refine go_q0 64 (.indexAddr 124 (.tmp 61) (.tmp 62)) 0 (qv_index un124 sz146 rfl rfl rfl hil) ?_
  refine go_s0 none (.store 146 (.tmp 64) (.tmp 63)) 0 ?_
  refine os_store rfl rfl sz146 rfl (one_Slot _) (by repeat first | exact .here | apply Up.next | apply Up.app) (flat_fit eSlot (by omega)) (splice_flat eSlot zeroS (by omega)) ?_
  refine go_nil ?_
  change G _ _ _ _
  refine p_weaken [0, 5, 6, 9, 38, 39] rfl ?_
  refine p_seq0 ?_
  refine p_plain0 (0 :: 1 :: 2 :: 3 :: 4 :: 5 :: 6 :: 7 :: 8 :: []) ?_
  refine go_q0 66 (.move (.tmp 0)) 78 (qv_move rfl) ?_
  refine go_q0 67 (.fieldAddr 146 (.tmp 9) 1) 0 (qv_field rfl fd146_1) ?_
  refine go_q0 68 (.load 29 (.tmp 67)) 29 (qv_load rfl .auto (ldv_agg agg29 (ext_Slot_1_37 _) (Nat.le_of_ble_eq_true rfl))) ?_
  refine go_s0 (some 69) (.call { callee := .value (.func 105), args := #[.tmp 66, .tmp 68], argTypes := #[78, 29] }) 168 ?_
  refine os_pv rfl (pv_callR en105 rfl .auto (ct_findS2 (L := Lc.set ((j + 1 + step) % n) zeroS) (by simp [hlc]) (hwc x (List.mem_of_getElem? hx)) (by omega) h2 hq)) ?_
  refine go_q0 65 (.move (.tmp 69)) 168 (qv_move rfl) ?_
  refine go_q0 70 (.extract (.tmp 65) 0) 3 (qv_extract rfl rfl) ?_
  refine go_q0 71 (.extract (.tmp 65) 1) 3 (qv_extract rfl rfl) ?_
  refine go_q0 10 (.assign (.tmp 70)) 3 (qv_assign rfl) ?_
  refine go_q0 11 (.assign (.tmp 71)) 3 (qv_assign rfl) ?_
  refine go_nil ?_
  change G _ _ _ _
  refine p_weaken [0, 5, 6, 9, 10, 38, 39] rfl ?_
  have hpl := place_lt (n := n) (by omega) x.key q
  refine p_draw (by kernel_rfl) mixed 7 8 _ (fun _ h => h) (by kernel_rfl) ?_
  refine gd_all (0 :: 1 :: 2 :: 3 :: 4 :: 5 :: 6 :: []) _ rfl (by kernel_rfl) (by decide) (fun _ h => h) rfl ?_
  refine sq_q0 72 (.move (.tmp 0)) 78 (qv_move rfl) ?_
  refine sq_q0 73 (.nilCheck (.tmp 72)) 0 (qv_nilCheck rfl) ?_
  refine sq_q0 74 (.fieldAddr 126 (.tmp 73) 0) 0 (qv_field rfl fd126_0) ?_
  refine sq_q0 75 (.load 124 (.tmp 74)) 124 (qv_load rfl .auto (ldv_sca sc124 (get_Tab_0 _))) ?_
  refine sq_q0 76 (.move (.tmp 10)) 3 (qv_move rfl) ?_
  refine sq_q0 77 (.load 146 (.tmp 9)) 146 (qv_load rfl .auto (ldv_agg agg146 (extw_Slot _) (Nat.le_of_ble_eq_true rfl))) ?_
  refine sq_q0 78 (.indexAddr 124 (.tmp 75) (.tmp 76)) 0 (qv_index un124 sz146 rfl rfl rfl hpl) ?_
  refine SeqK.nil (fun β => ?_)
  refine gd_tail [7] rfl (by kernel_rfl) (by kernel_rfl) ?_
  refine go_s0 none (.store 146 (.tmp 78) (.tmp 77)) 0 ?_
  refine os_store rfl rfl sz146 rfl (one_Slot _) (by repeat first | exact .here | apply Up.next | apply Up.app) (flat_fit eSlot (by simp; omega)) (splice_flat eSlot x (by simp; omega)) ?_
  refine go_nil ?_
  change G _ _ _ _
  refine p_weaken [0, 5, 6, 38, 39] rfl ?_
  refine p_plain0 (0 :: 1 :: []) ?_
  refine go_q0 79 (.binOp .add 3 (.tmp 39) (.const (.int .i64 1)) 3) 3 (qv_add rfl rfl (by first | exact IntWalk.i64_in _ (by omega) | exact IntWalk.i64_in _ (by dsimp only; omega) | rfl)) ?_
  refine go_q0 39 (.move (.tmp 79)) 3 (qv_move rfl) ?_
  refine go_nil ?_
  exact ⟨_, ⟨step + 1, _, by omega, by simp [hlc], (hwc.set zeroS_wf _).set (hwc x (List.mem_of_getElem? hx)) _, (by rw [show n - 1 - (step + 1) = n - 1 - step - 1 by omega]; exact hrest), ⟨rfl, ⟨[0, 5, 6, 38, 39], rfl⟩, .auto⟩, rfl⟩, by omega⟩
end Go.Proofs.YtobmcpoejhhemaaGreat
