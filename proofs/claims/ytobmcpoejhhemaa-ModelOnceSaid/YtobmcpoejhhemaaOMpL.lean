import Derived.Test.YtobmcpoejhhemaaOMpJ
namespace Go.Proofs.Ytobmcpoejhhemaa
open Go.E

def ix (e : EntR) : Nat := if e.credited = true then 5 else if e.there = true then (if e.synced = true then 3 else 2) else 4
def Parts.part (P : Parts) : Nat → Tot
  | 2 => P.volatile
  | 3 => P.durable
  | 4 => P.lost
  | _ => P.credited
def Parts.setPart (P : Parts) (t : Tot) : Nat → Parts
  | 2 => { P with volatile := t }
  | 3 => { P with durable := t }
  | 4 => { P with lost := t }
  | _ => { P with credited := t }
theorem ix_cases (e : EntR) : ix e = 2 ∨ ix e = 3 ∨ ix e = 4 ∨ ix e = 5 := by
  unfold ix
  split
  · simp
  · split
    · split <;> simp
    · simp
theorem ldv_part (P : Parts) (e : EntR) : Ldv Try.prog 32 P.c (2 * ix e) (.agg (P.part (ix e)).c) := by
  rcases ix_cases e with h | h | h | h <;> rw [h]
  · exact ldv_agg agg32 (ext_Parts_4_2 _) (Nat.le_of_ble_eq_true rfl)
  · exact ldv_agg agg32 (ext_Parts_6_2 _) (Nat.le_of_ble_eq_true rfl)
  · exact ldv_agg agg32 (ext_Parts_8_2 _) (Nat.le_of_ble_eq_true rfl)
  · exact ldv_agg agg32 (ext_Parts_10_2 _) (Nat.le_of_ble_eq_true rfl)
theorem spl_part (P : Parts) (e : EntR) (t : Tot) : splice P.c (2 * ix e) t.c = (P.setPart t (ix e)).c := by
  rcases ix_cases e with h | h | h | h <;> rw [h]
  · exact spl_Parts_4_2 P t
  · exact spl_Parts_6_2 P t
  · exact spl_Parts_8_2 P t
  · exact spl_Parts_10_2 P t
theorem ix_le (e : EntR) : 2 * ix e + 2 ≤ 12 := by rcases ix_cases e with h | h | h | h <;> rw [h] <;> decide
theorem part_wf {P : Parts} (h : P.Wf) (e : EntR) : (P.part (ix e)).Wf := by
  rcases ix_cases e with h1 | h1 | h1 | h1 <;> rw [h1]
  · exact h.volatile_
  · exact h.durable_
  · exact h.lost_
  · exact h.credited_
theorem setPart_wf {P : Parts} (h : P.Wf) {t : Tot} (ht : t.Wf) (e : EntR) : (P.setPart t (ix e)).Wf := by
  rcases ix_cases e with h1 | h1 | h1 | h1 <;> rw [h1]
  · exact { h with volatile_ := ht }
  · exact { h with durable_ := ht }
  · exact { h with lost_ := ht }
  · exact { h with credited_ := ht }
def ofRec (k : Key) (e : EntR) (P : Parts) (r : Rec) : Parts := if r.key = k then P.setPart ((P.part (ix e)).plus ⟨r.packets, r.bytes⟩) (ix e) else P
def ofEnt (k : Key) (P : Parts) (e : EntR) : Parts := e.recs.foldl (ofRec k e) P
def ofAll (k : Key) (P : Parts) (es : List EntR) : Parts := es.foldl (ofEnt k) P
def parts0 (S : MS) (k : Key) : Parts := ⟨getM S.fw k, getM S.ca k, ⟨0, 0⟩, ⟨0, 0⟩, getM S.lo k, ⟨0, 0⟩⟩
theorem parts0_wf {S : MS} (h : MI S) (k : Key) : (parts0 S k).Wf := ⟨h.f.get k, h.c.get k, tot0_wf, tot0_wf, h.l.get k, tot0_wf⟩
theorem ct_Of1 {b4 : Nat} (e : EntR) : Ct Try.prog 135 [.agg e.x.c, .pointer (some ⟨b4, 0, none⟩)].toArray [] (fun v M' => v = .pointer (some ⟨b4, 2 * ix e, none⟩) ∧ M' = []) := by
  have h1 : e.x.credited = e.credited := rfl
  have h2 : e.x.there = e.there := rfl
  have h3 : e.x.synced = e.synced := rfl
  refine ct_body (rv := [.tmp 3]) [(0, _), (1, _)] Try.func135 (by kernel_rfl) Try.ntmps135 Try.results135 rfl rfl (fun w0 => ?_)
  refine p_seq0 ?_
  refine p_plain0 (0 :: 1 :: []) ?_
  refine go_s0 (some 2) (.box 139 (.tmp 0)) 0 ?_
  refine os_boxA rfl rfl (fun b2 => ?_)
  refine go_q0 3 (.assign (.const (.pointer none))) 215 (qv_assign rfl) ?_
  refine go_nil ?_
  change G _ _ _ _
  refine p_weaken [1, 2, 3] rfl ?_
  refine p_seq0 ?_
  refine p_block 0 (by kernel_rfl) ?_
  refine p_seq0 ?_
  refine p_plain0 (0 :: 1 :: 2 :: []) ?_
  refine go_q0 5 (.fieldAddr 139 (.tmp 2) 5) 0 (qv_field rfl fd139_5) ?_
  refine go_q0 6 (.load 4 (.tmp 5)) 4 (qv_load rfl .auto (ldv_sca sc4 (get_Entr_5 _))) ?_
  refine go_q0 4 (.assign (.tmp 6)) 4 (qv_assign rfl) ?_
  refine go_nil ?_
  change G _ _ _ _
  refine p_weaken [1, 2, 3, 4] rfl ?_
  refine p_cond (.tmp 4) (by kernel_rfl) rfl (fun h4 => ?_) (fun h4 => ?_)
  · replace h4 := kn h4
    refine p_seq0 ?_
    refine p_plain0 (0 :: 1 :: []) ?_
    refine go_q0 7 (.fieldAddr 142 (.tmp 1) 5) 0 (qv_field rfl fd142_5) ?_
    refine go_q0 3 (.assign (.tmp 7)) 215 (qv_assign rfl) ?_
    refine go_nil ?_
    change G _ _ _ _
    refine p_weaken [1, 3] rfl ?_
    refine p_ret0 ?_
    try dsimp only [thenQ, inBlockQ]
    try rw [if_pos rfl]
    refine ret_left ([]) (.inr rfl) (.cons (res_tmp rfl) .nil) .auto ?_
    exact ⟨by rw [h1, h2, h3] at *; simp [*, ix, E.valOf], rfl⟩
  replace h4 := kn h4
  refine p_seq0 ?_
  refine p_plain0 (0 :: 1 :: 2 :: 3 :: []) ?_
  refine go_q0 9 (.fieldAddr 139 (.tmp 2) 3) 0 (qv_field rfl fd139_3) ?_
  refine go_q0 10 (.load 4 (.tmp 9)) 4 (qv_load rfl .auto (ldv_sca sc4 (get_Entr_3 _))) ?_
  refine go_q0 11 (.unOp .not 4 (.tmp 10)) 4 (qv_not rfl) ?_
  refine go_q0 8 (.assign (.tmp 11)) 4 (qv_assign rfl) ?_
  refine go_nil ?_
  change G _ _ _ _
  refine p_weaken [1, 2, 3, 8] rfl ?_
  refine p_cond (.tmp 8) (by kernel_rfl) rfl (fun h8 => ?_) (fun h8 => ?_)
  · replace h8 := kn h8
    refine p_seq0 ?_
    refine p_plain0 (0 :: 1 :: []) ?_
    refine go_q0 12 (.fieldAddr 142 (.tmp 1) 4) 0 (qv_field rfl fd142_4) ?_
    refine go_q0 3 (.assign (.tmp 12)) 215 (qv_assign rfl) ?_
    refine go_nil ?_
    change G _ _ _ _
    refine p_weaken [1, 3] rfl ?_
    refine p_ret0 ?_
    try dsimp only [thenQ, inBlockQ]
    try rw [if_pos rfl]
    refine ret_left ([]) (.inr rfl) (.cons (res_tmp rfl) .nil) .auto ?_
    exact ⟨by rw [h1, h2, h3] at *; simp [*, ix, E.valOf], rfl⟩
  replace h8 := kn h8
  refine p_seq0 ?_
  refine p_plain0 (0 :: 1 :: 2 :: []) ?_
  refine go_q0 14 (.fieldAddr 139 (.tmp 2) 4) 0 (qv_field rfl fd139_4) ?_
  refine go_q0 15 (.load 4 (.tmp 14)) 4 (qv_load rfl .auto (ldv_sca sc4 (get_Entr_4 _))) ?_
  refine go_q0 13 (.assign (.tmp 15)) 4 (qv_assign rfl) ?_
  refine go_nil ?_
  change G _ _ _ _
  refine p_weaken [1, 3, 13] rfl ?_
  refine p_cond (.tmp 13) (by kernel_rfl) rfl (fun h13 => ?_) (fun h13 => ?_)
  · replace h13 := kn h13
    refine p_seq0 ?_
    refine p_plain0 (0 :: 1 :: []) ?_
    refine go_q0 16 (.fieldAddr 142 (.tmp 1) 3) 0 (qv_field rfl fd142_3) ?_
    refine go_q0 3 (.assign (.tmp 16)) 215 (qv_assign rfl) ?_
    refine go_nil ?_
    change G _ _ _ _
    refine p_weaken [1, 3] rfl ?_
    refine p_ret0 ?_
    try dsimp only [thenQ, inBlockQ]
    try rw [if_pos rfl]
    refine ret_left ([]) (.inr rfl) (.cons (res_tmp rfl) .nil) .auto ?_
    exact ⟨by rw [h1, h2, h3] at *; simp [*, ix, E.valOf], rfl⟩
  replace h13 := kn h13
  refine p_skip0 ?_
  change G _ _ _ _
  refine p_weaken [1, 3] rfl ?_
  refine p_seq0 ?_
  refine p_plain0 (0 :: 1 :: []) ?_
  refine go_q0 17 (.fieldAddr 142 (.tmp 1) 2) 0 (qv_field rfl fd142_2) ?_
  refine go_q0 3 (.assign (.tmp 17)) 215 (qv_assign rfl) ?_
  refine go_nil ?_
  change G _ _ _ _
  refine p_weaken [3] rfl ?_
  refine p_ret0 ?_
  try dsimp only [thenQ, inBlockQ]
  try rw [if_pos rfl]
  refine ret_left ([]) (.inr rfl) (.cons (res_tmp rfl) .nil) .auto ?_
  exact ⟨by rw [h1, h2, h3] at *; simp [*, ix, E.valOf], rfl⟩
theorem ofEnt_succ {k : Key} {P : Parts} {es : List EntR} {i : Nat} {e : EntR} (h : es[i]? = some e) : ofAll k P (es.take (i + 1)) = ofEnt k (ofAll k P (es.take i)) e := by
  unfold ofAll
  rw [List.take_add_one, h, List.foldl_append]
  rfl
theorem ofRec_succ {k : Key} {P : Parts} {e : EntR} {rs : List Rec} {j : Nat} {r : Rec} (h : rs[j]? = some r) : (rs.take (j + 1)).foldl (ofRec k e) P = ofRec k e ((rs.take j).foldl (ofRec k e) P) r := by
  rw [List.take_add_one, h, List.foldl_append]
  rfl
theorem ct_MOf {bm : Nat} {S : MS} {M : Mem} {k : Key} (hM : ModM bm S M) :
    Ct Try.prog 77 [.pointer (some ⟨bm, 0, none⟩), .agg k.c].toArray M (fun v M' => v = .agg (ofAll k (parts0 S k) S.es).c ∧ M' = M) := by
  have hM0 := hM
  obtain ⟨bf, bc, bl, pe, ce, pl, cl, Ae, Al, Ar, hI, hE, hL, hA, rfl⟩ := hM
  have hen := hI.en
  refine ct_body (rv := [.cell 4 142]) [(0, _), (1, _)] Try.func77 (by kernel_rfl) Try.ntmps77 Try.results77 rfl rfl (fun w0 => ?_)
  refine p_seq0 ?_
  refine p_plain0 (0 :: 1 :: []) ?_
  refine go_s0 (some 3) (.box 27 (.tmp 1)) 0 ?_
  refine os_boxA rfl rfl (fun b3 => ?_)
  refine go_s0 (some 4) (.alloc 142) 0 ?_
  refine os_allocA rfl ze142 (fun b4 => ?_)
  refine go_nil ?_
  change G _ _ _ _
  refine p_weaken [0, 3, 4] rfl ?_
  refine p_seq0 ?_
  refine p_seq0 ?_
  refine p_plain0 (0 :: 1 :: []) ?_
  refine go_q0 11 (.move (.tmp 0)) 131 (qv_move rfl) ?_
  refine go_q0 12 (.binOp .eql 131 (.tmp 11) (.const (.pointer none)) 131) 4 (qv_eqlP un131 rfl) ?_
  refine go_nil ?_
  change G _ _ _ _
  refine p_weaken [0, 3, 4, 12] rfl ?_
  refine p_condF (.tmp 12) (by kernel_rfl) rfl ?_
  refine p_skip0 ?_
  change G _ _ _ _
  refine p_weaken [0, 3, 4] rfl ?_
  refine p_seq0 ?_
  refine p_draw (by kernel_rfl) mixed 19 20 _ (fun _ h => h) (by kernel_rfl) ?_
  refine gd_all (0 :: 1 :: 2 :: 3 :: 4 :: 5 :: 6 :: 7 :: 8 :: 9 :: 10 :: 11 :: 12 :: 13 :: 14 :: 15 :: 16 :: 17 :: 18 :: []) _ rfl (by kernel_rfl) (by decide) (fun _ h => h) rfl ?_
  refine sq_q0 14 (.move (.tmp 0)) 131 (qv_move rfl) ?_
  refine sq_q0 15 (.nilCheck (.tmp 14)) 0 (qv_nilCheck rfl) ?_
  refine sq_q0 16 (.fieldAddr 207 (.tmp 15) 0) 0 (qv_field rfl fd207_0) ?_
  refine sq_q0 17 (.load 205 (.tmp 16)) 205 (qv_load rfl .auto (ldv_sca sc205 (get_Mod_0 _))) ?_
  refine sq_q0 18 (.load 27 (.tmp 3)) 27 (qv_load rfl .auto (ldv_agg agg27 (extw_Key _) (Nat.le_of_ble_eq_true rfl))) ?_
  refine sq_q0 19 (.lookup 205 (.tmp 17) (.tmp 18) false) 32 (qv_lookup rfl rfl .auto) ?_
  refine sq_q0 20 (.move (.tmp 0)) 131 (qv_move rfl) ?_
  refine sq_q0 21 (.nilCheck (.tmp 20)) 0 (qv_nilCheck rfl) ?_
  refine sq_q0 22 (.fieldAddr 207 (.tmp 21) 1) 0 (qv_field rfl fd207_1) ?_
  refine sq_q0 23 (.load 205 (.tmp 22)) 205 (qv_load rfl .auto (ldv_sca sc205 (get_Mod_1 _))) ?_
  refine sq_q0 24 (.load 27 (.tmp 3)) 27 (qv_load rfl .auto (ldv_agg agg27 (extw_Key _) (Nat.le_of_ble_eq_true rfl))) ?_
  refine sq_q0 25 (.lookup 205 (.tmp 23) (.tmp 24) false) 32 (qv_lookup rfl rfl .auto) ?_
  refine sq_q0 26 (.move (.tmp 0)) 131 (qv_move rfl) ?_
  refine sq_q0 27 (.nilCheck (.tmp 26)) 0 (qv_nilCheck rfl) ?_
  refine sq_q0 28 (.fieldAddr 207 (.tmp 27) 2) 0 (qv_field rfl fd207_2) ?_
  refine sq_q0 29 (.load 205 (.tmp 28)) 205 (qv_load rfl .auto (ldv_sca sc205 (get_Mod_2 _))) ?_
  refine sq_q0 30 (.load 27 (.tmp 3)) 27 (qv_load rfl .auto (ldv_agg agg27 (extw_Key _) (Nat.le_of_ble_eq_true rfl))) ?_
  refine sq_q0 31 (.lookup 205 (.tmp 29) (.tmp 30) false) 32 (qv_lookup rfl rfl .auto) ?_
  refine sq_q0 32 (.build 142 #[(0, .tmp 19), (1, .tmp 25), (4, .tmp 31)]) 142 (qv_build rfl (bld142_0_1_4 _ _ _)) ?_
  refine SeqK.nil (fun β => ?_)
  refine gd_tail [19] rfl (by kernel_rfl) (by kernel_rfl) ?_
  refine go_s0 none (.store 142 (.tmp 4) (.tmp 32)) 0 ?_
  refine os_store rfl rfl sz142 rfl (one_Parts _) .auto (Nat.le_of_ble_eq_true rfl) (splw_Parts _ _ (siz_Parts _)) ?_
  refine go_nil ?_
  change G _ _ _ _
  refine p_weaken [0, 3, 4] rfl ?_
  refine p_seq0 ?_
  refine p_plain0 (0 :: 1 :: []) ?_
  refine go_q0 33 (.makeFunc (.func 135) #[] #[.tmp 4]) 216 (qv_makeFunc rfl) ?_
  refine go_q0 5 (.assign (.tmp 33)) 216 (qv_assign rfl) ?_
  refine go_nil ?_
  change G _ _ _ _
  refine p_weaken [0, 3, 4, 5] rfl ?_
  refine p_seq0 ?_
  refine p_seq0 ?_
  refine p_plain0 (0 :: 1 :: 2 :: 3 :: 4 :: 5 :: []) ?_
  refine go_q0 34 (.move (.tmp 0)) 131 (qv_move rfl) ?_
  refine go_q0 35 (.nilCheck (.tmp 34)) 0 (qv_nilCheck rfl) ?_
  refine go_q0 36 (.fieldAddr 207 (.tmp 35) 3) 0 (qv_field rfl fd207_3) ?_
  refine go_q0 37 (.load 136 (.tmp 36)) 136 (qv_load rfl .auto (ldv_sca sc136 (get_Mod_3 _))) ?_
  refine go_q0 38 (.call { callee := .builtin .len, args := #[.tmp 37], argTypes := #[136] }) 3 (qv_lenS un136 rfl) ?_
  refine go_q0 39 (.move (.const (.int .i64 0))) 3 (qv_move rfl) ?_
  refine go_nil ?_
  change G _ _ _ _
  refine p_weaken [3, 4, 5, 37, 38, 39] rfl ?_
  refine p_block 0 (by kernel_rfl) ?_
  refine p_loopE (by kernel_rfl) (fun s m => ∃ (i : Nat) (P1 : Parts), (i ≤ S.es.length) ∧ (P1 = ofAll k (parts0 S k) (S.es.take i)) ∧ (P1.Wf) ∧ Ge s ⟨[], [(3, .pointer (some ⟨b3, 0, none⟩)), (4, .pointer (some ⟨b4, 0, none⟩)), (5, .func (.func 135) #[] #[.pointer (some ⟨b4, 0, none⟩)]), (37, .slice pe S.es.length ce), (38, .int .i64 S.es.length), (39, .int .i64 i)], (b4, .cells P1.c 142 (0, 0)) :: (b3, .cells k.c 27 (0, 0)) :: modO bm bf bc bl pe S.es.length ce pl S.line.length cl S.first S.boot :: mapO bf S.fw S.fc :: mapO bc S.ca S.cc :: mapO bl S.lo S.lc :: (Ae ++ (Al ++ Ar))⟩ ∧ m = S.es.length + 1 - i) ?_ ?_
  · exact ⟨_, ⟨0, parts0 S k, by omega, rfl, parts0_wf hI k, ⟨rfl, ⟨[3, 4, 5, 37, 38, 39], rfl⟩, .auto⟩, rfl⟩⟩
  rintro s m ⟨i, P1, hi, hP1, hW1, hs, rfl⟩
  refine ge_ok hs ?_
  refine p_seq0 ?_
  refine p_plain0 (0 :: []) ?_
  refine go_q0 40 (.binOp .lss 3 (.tmp 39) (.tmp 38) 3) 0 (qv_lss rfl rfl rfl) ?_
  refine go_nil ?_
  change G _ _ _ _
  refine p_seq0 ?_
  refine p_cond (.tmp 40) (by kernel_rfl) rfl (fun h40 => ?_) (fun h40 => ?_)
  rotate_left
  · replace h40 := kn h40
    refine p_exit 0 (by kernel_rfl) ?_
    change G _ _ _ _
    refine p_weaken [4] rfl ?_
    refine p_seq0 ?_
    refine p_plain0 (0 :: 1 :: []) ?_
    refine go_q0 67 (.load 142 (.tmp 4)) 142 (qv_load rfl .auto (ldv_agg agg142 (extw_Parts _) (Nat.le_of_ble_eq_true rfl))) ?_
    refine go_s0 none (.store 142 (.tmp 4) (.tmp 67)) 0 ?_
    refine os_store rfl rfl sz142 rfl (one_Parts _) .auto (Nat.le_of_ble_eq_true rfl) (splw_Parts _ _ (siz_Parts _)) ?_
    refine go_nil ?_
    change G _ _ _ _
    refine p_weaken [4] rfl ?_
    refine p_ret0 ?_
    try dsimp only [thenQ, inBlockQ]
    try rw [if_pos rfl]
    refine ret_left (modO bm bf bc bl pe S.es.length ce pl S.line.length cl S.first S.boot :: mapO bf S.fw S.fc :: mapO bc S.ca S.cc :: mapO bl S.lo S.lc :: (Ae ++ (Al ++ Ar))) (.inr rfl) (.cons (res_cell rfl (At.mem .auto) (ldv_agg agg142 (extw_Parts _) (Nat.le_of_ble_eq_true rfl))) .nil) .auto ?_
    have hie : i = S.es.length := by omega
    subst hie
    rw [List.take_length] at hP1
    exact ⟨by rw [hP1]; rfl, rfl⟩
  replace h40 := kn h40
  refine p_skip0 ?_
  change G _ _ _ _
  refine p_weaken [3, 4, 5, 37, 38, 39] rfl ?_
  refine p_seq0 ?_
  refine p_block 1 (by kernel_rfl) ?_
  refine p_seq0 ?_
  obtain ⟨bb, oo, cu, ee, ff, hpe, mm, H⟩ := hE.lst.at_ (i := i) (by omega)
  obtain ⟨x, hx⟩ : ∃ x, S.es[i]? = some x := ⟨_, List.getElem?_eq_getElem (by omega)⟩
  have hxm := List.mem_of_getElem? hx
  have hxe := hI.ew x hxm
  have hxl := hxe.rl
  have hRl := hA x hxm
  subst hpe
  refine p_plain0 (0 :: 1 :: 2 :: 3 :: []) ?_
  refine go_q0 41 (.indexAddr 136 (.tmp 37) (.tmp 39)) 0 (qv_index un136 sz139 rfl rfl rfl (by omega)) ?_
  refine go_q0 42 (.load 139 (.tmp 41)) 139 (qv_load rfl (by repeat first | exact At.of_mem (.tail _ (.tail _ (.tail _ (.tail _ (.tail _ (.tail _ (List.mem_append_left _ mm))))))) | apply At.next) (ldv_els (E := eEntR) H hx (by decide) agg139 rfl)) ?_
  refine go_s0 (some 7) (.alloc 139) 0 ?_
  refine os_allocA rfl ze139 (fun b7 => ?_)
  refine go_s0 none (.store 139 (.tmp 7) (.tmp 42)) 0 ?_
  refine os_store rfl rfl sz139 rfl (one_EntR x) .auto (Nat.le_of_ble_eq_true rfl) (splw_Entr x.x _ (siz_Entr _)) ?_
  refine go_nil ?_
  change G _ _ _ _
  refine p_weaken [3, 4, 5, 7, 37, 38, 39] rfl ?_
  refine p_seq0 ?_
  refine p_plain0 (0 :: 1 :: 2 :: 3 :: []) ?_
  refine go_q0 43 (.fieldAddr 139 (.tmp 7) 2) 0 (qv_field rfl fd139_2) ?_
  refine go_q0 44 (.load 102 (.tmp 43)) 102 (qv_load rfl .auto (ldv_sca sc102 (get_Entr_2 _))) ?_
  refine go_q0 45 (.call { callee := .builtin .len, args := #[.tmp 44], argTypes := #[102] }) 3 (qv_lenS un102 rfl) ?_
  refine go_q0 46 (.move (.const (.int .i64 0))) 3 (qv_move rfl) ?_
  refine go_nil ?_
  change G _ _ _ _
  refine p_weaken [3, 4, 5, 7, 37, 38, 39, 44, 45, 46] rfl ?_
  refine p_block 2 (by kernel_rfl) ?_
  refine p_loopE (by kernel_rfl) (fun s m => ∃ (j : Nat) (P2 : Parts), (j ≤ x.recs.length) ∧ (P2 = (x.recs.take j).foldl (ofRec k x) P1) ∧ (P2.Wf) ∧ Ge s ⟨[], [(3, .pointer (some ⟨b3, 0, none⟩)), (4, .pointer (some ⟨b4, 0, none⟩)), (5, .func (.func 135) #[] #[.pointer (some ⟨b4, 0, none⟩)]), (7, .pointer (some ⟨b7, 0, none⟩)), (37, .slice (some ⟨bb, oo, none⟩) S.es.length ce), (38, .int .i64 S.es.length), (39, .int .i64 i), (44, .slice x.p x.recs.length x.cap), (45, .int .i64 x.recs.length), (46, .int .i64 j)], (b7, .cells x.x.c 139 (0, 0)) :: (b4, .cells P2.c 142 (0, 0)) :: (b3, .cells k.c 27 (0, 0)) :: modO bm bf bc bl (some ⟨bb, oo, none⟩) S.es.length ce pl S.line.length cl S.first S.boot :: mapO bf S.fw S.fc :: mapO bc S.ca S.cc :: mapO bl S.lo S.lc :: (Ae ++ (Al ++ Ar))⟩ ∧ m = x.recs.length + 1 - j) ?_ ?_
  · exact ⟨_, ⟨0, P1, by omega, rfl, hW1, ⟨rfl, ⟨[3, 4, 5, 7, 37, 38, 39, 44, 45, 46], rfl⟩, .auto⟩, rfl⟩⟩
  rintro s m ⟨j, P2, hj, hP2, hW2, hs, rfl⟩
  refine ge_ok hs ?_
  refine p_seq0 ?_
  refine p_plain0 (0 :: []) ?_
  refine go_q0 47 (.binOp .lss 3 (.tmp 46) (.tmp 45) 3) 0 (qv_lss rfl rfl rfl) ?_
  refine go_nil ?_
  change G _ _ _ _
  refine p_seq0 ?_
  refine p_cond (.tmp 47) (by kernel_rfl) rfl (fun h47 => ?_) (fun h47 => ?_)
  rotate_left
  · replace h47 := kn h47
    refine p_exit 2 (by kernel_rfl) ?_
    change G _ _ _ _
    refine p_weaken [3, 4, 5, 37, 38, 39] rfl ?_
    have hje : j = x.recs.length := by omega
    have hPn : P2 = ofAll k (parts0 S k) (S.es.take (i + 1)) := by
      rw [ofEnt_succ hx, ← hP1, hP2, hje, List.take_length]; rfl
    refine p_plain0 (0 :: 1 :: []) ?_
    refine go_q0 66 (.binOp .add 3 (.tmp 39) (.const (.int .i64 1)) 3) 3 (qv_add rfl rfl (by first | exact IntWalk.i64_in _ (by omega) | exact IntWalk.i64_in _ (by dsimp only; omega) | rfl)) ?_
    refine go_q0 39 (.move (.tmp 66)) 3 (qv_move rfl) ?_
    refine go_nil ?_
    exact ⟨_, ⟨i + 1, P2, by omega, hPn, hW2, ⟨rfl, ⟨[3, 4, 5, 37, 38, 39], rfl⟩, .auto⟩, rfl⟩, by omega⟩
  replace h47 := kn h47
  refine p_skip0 ?_
  change G _ _ _ _
  refine p_weaken [3, 4, 5, 7, 37, 38, 39, 44, 45, 46] rfl ?_
  refine p_seq0 ?_
  refine p_block 3 (by kernel_rfl) ?_
  refine p_seq0 ?_
  obtain ⟨rb, ro, rcu, ree, rff, hpr, rm, RH⟩ := hRl.at_ (i := j) (by omega)
  obtain ⟨r, hr⟩ : ∃ r, x.recs[j]? = some r := ⟨_, List.getElem?_eq_getElem (by omega)⟩
  have hrw := hxe.rw r (List.mem_of_getElem? hr)
  have htw : (⟨r.packets, r.bytes⟩ : Tot).Wf := ⟨hrw.packets_, hrw.bytes_⟩
  rw [hpr]
  refine p_plain0 (0 :: 1 :: 2 :: 3 :: []) ?_
  refine go_q0 48 (.indexAddr 102 (.tmp 44) (.tmp 46)) 0 (qv_index un102 sz35 rfl rfl rfl (by omega)) ?_
  refine go_q0 49 (.load 35 (.tmp 48)) 35 (qv_load rfl (by repeat first | exact At.of_mem (.tail _ (.tail _ (.tail _ (.tail _ (.tail _ (.tail _ (.tail _ (List.mem_append_right _ (List.mem_append_right _ rm))))))))) | apply At.next) (ldv_els RH hr (by decide) agg35 rfl)) ?_
  refine go_s0 (some 9) (.alloc 35) 0 ?_
  refine os_allocA rfl ze35 (fun b9 => ?_)
  refine go_s0 none (.store 35 (.tmp 9) (.tmp 49)) 0 ?_
  refine os_store rfl rfl sz35 rfl (one_Rec _) .auto (Nat.le_of_ble_eq_true rfl) (splw_Rec _ _ (siz_Rec _)) ?_
  refine go_nil ?_
  change G _ _ _ _
  refine p_weaken [3, 4, 5, 7, 9, 37, 38, 39, 44, 45, 46] rfl ?_
  refine p_seq0 ?_
  refine p_plain0 (0 :: 1 :: 2 :: 3 :: []) ?_
  refine go_q0 50 (.fieldAddr 35 (.tmp 9) 0) 0 (qv_field rfl fd35_0) ?_
  refine go_q0 51 (.load 27 (.tmp 50)) 27 (qv_load rfl .auto (ldv_agg agg27 (ext_Rec_0_37 _) (Nat.le_of_ble_eq_true rfl))) ?_
  refine go_q0 52 (.load 27 (.tmp 3)) 27 (qv_load rfl .auto (ldv_agg agg27 (extw_Key _) (Nat.le_of_ble_eq_true rfl))) ?_
  refine go_q0 53 (.binOp .eql 27 (.tmp 51) (.tmp 52) 27) 4 (qv_eql_27 rfl rfl rfl) ?_
  refine go_nil ?_
  change G _ _ _ _
  refine p_weaken [3, 4, 5, 7, 9, 37, 38, 39, 44, 45, 46, 53] rfl ?_
  refine p_cond (.tmp 53) (by kernel_rfl) rfl (fun h53 => ?_) (fun h53 => ?_)
  rotate_left
  · replace h53 := kn h53
    have hP3n : P2 = (x.recs.take (j + 1)).foldl (ofRec k x) P1 := by rw [ofRec_succ hr, ← hP2]; unfold ofRec; rw [if_neg h53]
    have hW3n := hW2
    refine p_skip0 ?_
    change G _ _ _ _
    refine p_weaken [3, 4, 5, 7, 37, 38, 39, 44, 45, 46] rfl ?_
    refine p_plain0 (0 :: 1 :: []) ?_
    refine go_q0 65 (.binOp .add 3 (.tmp 46) (.const (.int .i64 1)) 3) 3 (qv_add rfl rfl (by first | exact IntWalk.i64_in _ (by omega) | exact IntWalk.i64_in _ (by dsimp only; omega) | rfl)) ?_
    refine go_q0 46 (.move (.tmp 65)) 3 (qv_move rfl) ?_
    refine go_nil ?_
    exact ⟨_, ⟨j + 1, _, by omega, hP3n, hW3n, ⟨rfl, ⟨[3, 4, 5, 7, 37, 38, 39, 44, 45, 46], rfl⟩, .auto⟩, rfl⟩, by omega⟩
  replace h53 := kn h53
  have hP3n : P2.setPart ((P2.part (ix x)).plus ⟨r.packets, r.bytes⟩) (ix x) = (x.recs.take (j + 1)).foldl (ofRec k x) P1 := by rw [ofRec_succ hr, ← hP2]; unfold ofRec; rw [if_pos h53]
  have hW3n := setPart_wf hW2 (tot_wf (Tot.plus_ok (tot_ok (part_wf hW2 x)) (tot_ok htw))) x
  refine p_seq0 ?_
  refine p_plain0 (0 :: 1 :: 2 :: 3 :: []) ?_
  refine go_q0 54 (.move (.tmp 5)) 216 (qv_move rfl) ?_
  refine go_q0 55 (.load 139 (.tmp 7)) 139 (qv_load rfl .auto (ldv_agg agg139 (extw_Entr x.x) (Nat.le_of_ble_eq_true rfl))) ?_
  refine go_s0 (some 56) (.call { callee := .value (.tmp 54), args := #[.tmp 55], argTypes := #[139] }) 215 ?_
  refine os_callV (Nat.le_of_ble_eq_true rfl) rfl en135 rfl rfl .nil (ct_Of1 x) (fun v A' hv => ?_)
  obtain ⟨rfl, rfl⟩ := hv
  refine go_q0 10 (.assign (.tmp 56)) 215 (qv_assign rfl) ?_
  refine go_nil ?_
  change G _ _ _ _
  refine p_weaken [3, 4, 5, 7, 9, 10, 37, 38, 39, 44, 45, 46] rfl ?_
  refine p_draw (by kernel_rfl) mixed 8 9 _ (fun _ h => h) (by kernel_rfl) ?_
  refine gd_all (0 :: 1 :: 2 :: 3 :: 4 :: 5 :: 6 :: 7 :: []) _ rfl (by kernel_rfl) (by decide) (fun _ h => h) rfl ?_
  refine sq_q0 57 (.move (.tmp 10)) 215 (qv_move rfl) ?_
  refine sq_q0 58 (.move (.tmp 10)) 215 (qv_move rfl) ?_
  refine sq_q0 59 (.nilCheck (.tmp 58)) 0 (qv_nilCheck rfl) ?_
  refine sq_q0 60 (.load 32 (.tmp 59)) 32 (qv_load rfl .auto (ldv_part P2 x)) ?_
  refine sq_q0 61 (.load 35 (.tmp 9)) 35 (qv_load rfl .auto (ldv_agg agg35 (extw_Rec _) (Nat.le_of_ble_eq_true rfl))) ?_
  refine sq_p (d := 62) (op := .call { callee := .value (.func 18), args := #[.tmp 61], argTypes := #[35] }) (ty := 32) (g := none) (by kernel_rfl) trivial (pv_call en18 rfl (pu_Total r)) ?_
  refine sq_p (d := 63) (op := .call { callee := .value (.func 19), args := #[.tmp 60, .tmp 62], argTypes := #[215, 32] }) (ty := 32) (g := none) (by kernel_rfl) trivial (pv_call en19 rfl (pu_Plus (tot_ok (part_wf hW2 x)) (tot_ok htw))) ?_
  refine sq_q0 64 (.nilCheck (.tmp 57)) 0 (qv_nilCheck rfl) ?_
  refine SeqK.nil (fun β => ?_)
  refine gd_tail [8] rfl (by kernel_rfl) (by kernel_rfl) ?_
  refine go_s0 none (.store 32 (.tmp 64) (.tmp 63)) 0 ?_
  refine os_store rfl rfl sz32 rfl (one_Tot _) .auto (Nat.le_trans (ix_le x) (Nat.le_of_eq (siz_Parts P2).symm)) (spl_part P2 x _) ?_
  refine go_nil ?_
  change G _ _ _ _
  refine p_weaken [3, 4, 5, 7, 37, 38, 39, 44, 45, 46] rfl ?_
  refine p_plain0 (0 :: 1 :: []) ?_
  refine go_q0 65 (.binOp .add 3 (.tmp 46) (.const (.int .i64 1)) 3) 3 (qv_add rfl rfl (by first | exact IntWalk.i64_in _ (by omega) | exact IntWalk.i64_in _ (by dsimp only; omega) | rfl)) ?_
  refine go_q0 46 (.move (.tmp 65)) 3 (qv_move rfl) ?_
  refine go_nil ?_
  exact ⟨_, ⟨j + 1, _, by omega, hP3n, hW3n, ⟨rfl, ⟨[3, 4, 5, 7, 37, 38, 39, 44, 45, 46], rfl⟩, .auto⟩, rfl⟩, by omega⟩
end Go.Proofs.Ytobmcpoejhhemaa
