import Derived.Test.YtobmcpoejhhemaaOMpC
namespace Go.Proofs.Ytobmcpoejhhemaa
open Go.E

theorem own_setc {α : Type} {E : Enc α} {e : TypeId} {b cap i k o : Nat} {cur : Array Value} {l : List α} {a a' : α} {v : Value} (hn : 0 < E.n) (h1 : l.length ≤ cap) (h2 : cap ≤ maxLen) (h3 : cur.size = cap * E.n) (H : Holds E cur 0 l) (hi : l[i]? = some a) (hk : k < E.n) (ha : (E.c a).setIfInBounds k v = E.c a') (ho : o = 0 + i * E.n + k) :
    OwnL E e (some ⟨b, 0, none⟩) cap (l.set i a') [(b, .cells (cur.setIfInBounds o v) e (0, 0))] := by
  obtain ⟨hh, hz⟩ := holds_setc hn H hi hk ha ho
  exact E_flat_own (l := l) (by simp) h1 h2 (by rw [hz, h3]) hh
theorem own_fitc {α : Type} {E : Enc α} {i k o : Nat} {cur : Array Value} {l : List α} {a : α} (hn : 0 < E.n) (H : Holds E cur 0 l) (hi : l[i]? = some a) (hk : k < E.n) (ho : o = 0 + i * E.n + k) : o < cur.size := by
  have := H.fits hi hn
  omega
/-- Entries whose marks alone may have turned. -/
def Flg (es es' : List EntR) : Prop := es'.length = es.length ∧ ∀ (j : Nat) (e' : EntR), es'[j]? = some e' → ∃ e, es[j]? = some e ∧ e' = { e with there := e'.there, synced := e'.synced, credited := e'.credited }
theorem Flg.refl (es : List EntR) : Flg es es := ⟨rfl, fun j e' h => ⟨e', h, rfl⟩⟩
theorem Flg.set {es es' : List EntR} (h : Flg es es') {i : Nat} {x : EntR} (hi : es'[i]? = some x) (th sy cr : Bool) : Flg es (es'.set i { x with there := th, synced := sy, credited := cr }) := by
  refine ⟨by rw [List.length_set]; exact h.1, fun j e' hj => ?_⟩
  by_cases e : j = i
  · subst e
    rw [List.getElem?_set_self (List.getElem?_eq_some_iff.1 hi).1] at hj
    cases hj
    obtain ⟨a, ha, hx⟩ := h.2 j x hi
    exact ⟨a, ha, by rw [hx]⟩
  · rw [List.getElem?_set_ne (Ne.symm e)] at hj
    exact h.2 j e' hj
theorem Flg.mem {es es' : List EntR} (h : Flg es es') {e' : EntR} (he : e' ∈ es') : ∃ e ∈ es, e' = { e with there := e'.there, synced := e'.synced, credited := e'.credited } := by
  obtain ⟨j, hj, rfl⟩ := List.getElem_of_mem he
  obtain ⟨e, h1, h2⟩ := h.2 j _ (List.getElem?_eq_getElem hj)
  exact ⟨e, List.mem_of_getElem? h1, h2⟩
theorem Flg.ok {es es' : List EntR} (h : Flg es es') (hw : ∀ e ∈ es, EOk e) : ∀ e ∈ es', EOk e := fun e' he => by
  obtain ⟨e, h1, h2⟩ := h.mem he
  rw [h2]
  exact ⟨(hw e h1).ep, (hw e h1).nn, (hw e h1).rw, (hw e h1).rl⟩
theorem Flg.lst {es es' : List EntR} {Ar : Mem} (h : Flg es es') (hw : ∀ e ∈ es, Lst eRec e.p e.recs Ar) : ∀ e ∈ es', Lst eRec e.p e.recs Ar := fun e' he => by
  obtain ⟨e, h1, h2⟩ := h.mem he
  rw [h2]
  exact hw e h1
theorem MI.setEs {S : MS} (h : MI S) {es' : List EntR} (hf : Flg S.es es') : MI { S with es := es' } :=
  { h with
    ew := hf.ok h.ew
    en := by show es'.length ≤ 1000; rw [hf.1]; exact h.en
    ln := by show S.line.length ≤ es'.length; rw [hf.1]; exact h.ln
    li := fun i hi => by show i < es'.length; rw [hf.1]; exact h.li i hi }
/-- All but the maps of what is cached and lost is as it was. -/
def SameE (S S' : MS) : Prop := S'.es = S.es ∧ S'.line = S.line ∧ S'.first = S.first ∧ S'.boot = S.boot ∧ S'.fw = S.fw ∧ S'.fc = S.fc
theorem ct_Mrefuse {bm : Nat} {S : MS} {M R : Mem} {nt : NoteR} (hM : ModM bm S M) (hl : Lst eRec nt.p nt.recs R) (hw : nt.Wf) :
    Ct Try.prog 127 [.pointer (some ⟨bm, 0, none⟩), .agg nt.x.c].toArray (M ++ R) (fun v M' => ∃ ok S' N, v = .bool ok ∧ M' = N ++ R ∧ SameE S S' ∧ ModM bm S' N) := by
  have hM0 := hM
  obtain ⟨bf, bc, bl, pe, ce, pl, cl, Ae, Al, Ar, hI, hE, hL, hA, rfl⟩ := hM
  have hfew := hw.few_
  show Ct _ _ _ (modO bm bf bc bl pe S.es.length ce pl S.line.length cl S.first S.boot :: mapO bf S.fw S.fc :: mapO bc S.ca S.cc :: mapO bl S.lo S.lc :: (Ae ++ (Al ++ Ar) ++ R)) _
  refine ct_body (rv := [.tmp 4]) [(0, _), (1, _)] Try.func127 (by kernel_rfl) Try.ntmps127 Try.results127 rfl rfl (fun w0 => ?_)
  refine p_seq0 ?_
  refine p_plain0 (0 :: 1 :: []) ?_
  refine go_s0 (some 3) (.box 135 (.tmp 1)) 0 ?_
  refine os_boxA rfl rfl (fun b3 => ?_)
  refine go_q0 4 (.assign (.const (.bool false))) 4 (qv_assign rfl) ?_
  refine go_nil ?_
  change G _ _ _ _
  refine p_weaken [0, 3, 4] rfl ?_
  refine p_seq0 ?_
  refine p_draw (by kernel_rfl) mixed 11 12 [(b3, .cells nt.x.c 135 (0, 0)), modO bm bf bc bl pe S.es.length ce pl S.line.length cl S.first S.boot] (by first | (simp; done) | (intro q hq; simp [hq]; done)) (by kernel_rfl) ?_
  refine gd_q (i := 0) (d := 10) (op := .move (.tmp 0)) (ty := 131) (g := none) (by kernel_rfl) trivial rfl (by kernel_rfl) (by kernel_rfl) (by kernel_rfl) (by kernel_rfl) (qv_move rfl) ?_
  refine gd_q (i := 1) (d := 11) (op := .nilCheck (.tmp 10)) (ty := 0) (g := none) (by kernel_rfl) trivial rfl (by kernel_rfl) (by kernel_rfl) (by kernel_rfl) (by kernel_rfl) (qv_nilCheck rfl) ?_
  refine gd_q (i := 2) (d := 12) (op := .fieldAddr 207 (.tmp 11) 1) (ty := 0) (g := none) (by kernel_rfl) trivial rfl (by kernel_rfl) (by kernel_rfl) (by kernel_rfl) (by kernel_rfl) (qv_field rfl fd207_1) ?_
  refine gd_q (i := 3) (d := 13) (op := .load 205 (.tmp 12)) (ty := 205) (g := none) (by kernel_rfl) trivial rfl (by kernel_rfl) (by kernel_rfl) (by kernel_rfl) (by kernel_rfl) (qv_load rfl .auto (ldv_sca sc205 (get_Mod_1 _))) ?_
  refine gd_q (i := 4) (d := 14) (op := .fieldAddr 135 (.tmp 3) 3) (ty := 0) (g := none) (by kernel_rfl) trivial rfl (by kernel_rfl) (by kernel_rfl) (by kernel_rfl) (by kernel_rfl) (qv_field rfl fd135_3) ?_
  refine gd_q (i := 5) (d := 15) (op := .load 102 (.tmp 14)) (ty := 102) (g := none) (by kernel_rfl) trivial rfl (by kernel_rfl) (by kernel_rfl) (by kernel_rfl) (by kernel_rfl) (qv_load rfl .auto (ldv_sca sc102 (get_Note_40 _))) ?_
  refine gd_one (i := 6) (d := some 16) (op := .call { callee := .value (.func 163), args := #[.tmp 13, .tmp 15], argTypes := #[205, 102] }) (ty := 243) (g := none) (by kernel_rfl) trivial rfl (by kernel_rfl) ?_
  refine os_call (Nat.le_of_ble_eq_true rfl) en163 rfl (Sel.cons (.next (.next (.next .here))) (Sel.skip (Sel.skip (Sel.skip (Sel.skip (Sel.skipA Sel.all)))))) (ct_takeB hI.c hl hw.recs_ (by omega)) ?_
  rintro v16 A16 ⟨o, ok, B, rfl, rfl, hokB, hokT⟩
  try dsimp only [List.nil_append, List.cons_append]
  refine ⟨fun _ h => by first | exact h | (cases h; done) | exact .tail _ h | exact .tail _ (.tail _ h) | exact List.mem_append_right _ (List.mem_append_right _ h) | exact List.mem_append_right _ h | (simp only [List.mem_cons, List.not_mem_nil, or_false] at h ⊢; first | exact .inl h | exact .inr (.inl h) | exact .inr (.inr (.inl h)) | exact .inr (.inr (.inr (.inl h))) | (subst h; simp; done) | grind), ?_⟩
  refine gd_q (i := 7) (d := 9) (op := .move (.tmp 16)) (ty := 243) (g := none) (by kernel_rfl) trivial rfl (by kernel_rfl) (by kernel_rfl) (by kernel_rfl) (by kernel_rfl) (qv_move rfl) ?_
  refine gd_q (i := 8) (d := 17) (op := .extract (.tmp 9) 0) (ty := 205) (g := none) (by kernel_rfl) trivial rfl (by kernel_rfl) (by kernel_rfl) (by kernel_rfl) (by kernel_rfl) (qv_extract (v := .map o) rfl rfl) ?_
  refine gd_q (i := 9) (d := 18) (op := .extract (.tmp 9) 1) (ty := 4) (g := none) (by kernel_rfl) trivial rfl (by kernel_rfl) (by kernel_rfl) (by kernel_rfl) (by kernel_rfl) (qv_extract (v := .bool ok) rfl rfl) ?_
  refine gd_q (i := 10) (d := 5) (op := .assign (.tmp 17)) (ty := 205) (g := none) (by kernel_rfl) trivial rfl (by kernel_rfl) (by kernel_rfl) (by kernel_rfl) (by kernel_rfl) (qv_assign rfl) ?_
  refine gd_tail [11] rfl (by kernel_rfl) (by kernel_rfl) ?_
  refine go_q0 6 (.assign (.tmp 18)) 4 (qv_assign rfl) ?_
  refine go_nil ?_
  change G _ _ _ _
  refine p_weaken [0, 3, 4, 5, 6] rfl ?_
  refine p_seq0 ?_
  refine p_seq0 ?_
  refine p_drop ((b3, .cells nt.x.c 135 (0, 0)) :: modO bm bf bc bl pe S.es.length ce pl S.line.length cl S.first S.boot :: mapO bf S.fw S.fc :: mapO bc S.ca S.cc :: mapO bl S.lo S.lc :: (B ++ (Ae ++ (Al ++ (Ar ++ R))))) .auto ?_
  refine p_plain0 (0 :: 1 :: []) ?_
  refine go_q0 19 (.move (.tmp 6)) 4 (qv_move rfl) ?_
  refine go_q0 20 (.unOp .not 4 (.tmp 19)) 4 (qv_not rfl) ?_
  refine go_nil ?_
  change G _ _ _ _
  refine p_weaken [0, 3, 4, 5, 20] rfl ?_
  refine p_cond (.tmp 20) (by kernel_rfl) rfl (fun h20 => ?_) (fun h20 => ?_)
  · replace h20 := kn h20
    refine p_seq0 ?_
    refine p_plain0 (0 :: []) ?_
    refine go_q0 4 (.assign (.const (.bool false))) 4 (qv_assign rfl) ?_
    refine go_nil ?_
    change G _ _ _ _
    refine p_weaken [0, 3, 4, 5] rfl ?_
    refine p_ret0 ?_
    try dsimp only [thenQ, inBlockQ]
    try rw [if_pos rfl]
    refine ret_left (modO bm bf bc bl pe S.es.length ce pl S.line.length cl S.first S.boot :: mapO bf S.fw S.fc :: mapO bc S.ca S.cc :: mapO bl S.lo S.lc :: (Ae ++ (Al ++ Ar) ++ R)) (.inr rfl) (.cons (res_tmp rfl) .nil) .auto ?_
    exact ⟨_, S, _, rfl, rfl, ⟨rfl, rfl, rfl, rfl, rfl, rfl⟩, hM0⟩
  replace h20 := kn h20
  obtain ⟨b1, l1, c1, rfl, htk, hmo, rfl⟩ := hokT h20
  refine p_skip0 ?_
  change G _ _ _ _
  refine p_weaken [0, 3, 4, 5] rfl ?_
  refine p_seq0 ?_
  refine p_plain0 (0 :: 1 :: 2 :: 3 :: 4 :: []) ?_
  refine go_q0 21 (.move (.tmp 0)) 131 (qv_move rfl) ?_
  refine go_q0 22 (.move (.tmp 5)) 205 (qv_move rfl) ?_
  refine go_q0 23 (.nilCheck (.tmp 21)) 0 (qv_nilCheck rfl) ?_
  refine go_q0 24 (.fieldAddr 207 (.tmp 23) 1) 0 (qv_field rfl fd207_1) ?_
  refine go_s0 none (.store 205 (.tmp 24) (.tmp 22)) 0 ?_
  refine os_store1 rfl rfl sz205 rfl rfl .auto (Nat.le_of_ble_eq_true rfl) (set_Mod_1 _ _) ?_
  refine go_nil ?_
  change G _ _ _ _
  refine p_weaken [0, 3, 4] rfl ?_
  refine p_seq0 ?_
  refine p_seq0 ?_
  refine p_plain0 (0 :: 1 :: 2 :: 3 :: []) ?_
  refine go_q0 25 (.fieldAddr 135 (.tmp 3) 3) 0 (qv_field rfl fd135_3) ?_
  refine go_q0 26 (.load 102 (.tmp 25)) 102 (qv_load rfl .auto (ldv_sca sc102 (get_Note_40 _))) ?_
  refine go_q0 27 (.call { callee := .builtin .len, args := #[.tmp 26], argTypes := #[102] }) 3 (qv_lenS un102 rfl) ?_
  refine go_q0 28 (.move (.const (.int .i64 0))) 3 (qv_move rfl) ?_
  refine go_nil ?_
  change G _ _ _ _
  refine p_weaken [0, 4, 26, 27, 28] rfl ?_
  refine p_block 0 (by kernel_rfl) ?_
  refine p_loopE (by kernel_rfl) (fun s m => ∃ (i : Nat) (l2 : List MEnt) (c2 : Nat), (i ≤ nt.recs.length) ∧ (MOk l2 c2) ∧ Ge s ⟨[], [(0, .pointer (some ⟨bm, 0, none⟩)), (26, .slice nt.p nt.recs.length nt.cap), (27, .int .i64 nt.recs.length), (28, .int .i64 i)], (bm, .cells (⟨.map (some bf), .map (some b1), .map (some bl), .slice pe S.es.length ce, .slice pl S.line.length cl, S.first, S.boot⟩ : Mod).c 207 (0, 0)) :: mapO bf S.fw S.fc :: mapO b1 l1 c1 :: mapO bl l2 c2 :: (Ae ++ (Al ++ (Ar ++ R)))⟩ ∧ m = nt.recs.length + 1 - i) ?_ ?_
  · exact ⟨_, ⟨0, S.lo, S.lc, by omega, hI.l, ⟨rfl, ⟨[0, 26, 27, 28], rfl⟩, .auto⟩, rfl⟩⟩
  rintro s m ⟨i, l2, c2, hi, hm2, hs, rfl⟩
  refine ge_ok hs ?_
  refine p_seq0 ?_
  refine p_plain0 (0 :: []) ?_
  refine go_q0 29 (.binOp .lss 3 (.tmp 28) (.tmp 27) 3) 0 (qv_lss rfl rfl rfl) ?_
  refine go_nil ?_
  change G _ _ _ _
  refine p_seq0 ?_
  refine p_cond (.tmp 29) (by kernel_rfl) rfl (fun h29 => ?_) (fun h29 => ?_)
  rotate_left
  · replace h29 := kn h29
    refine p_exit 0 (by kernel_rfl) ?_
    change G _ _ _ _
    refine p_weaken [] rfl ?_
    refine p_seq0 ?_
    refine p_plain0 (0 :: []) ?_
    refine go_q0 4 (.assign (.const (.bool true))) 4 (qv_assign rfl) ?_
    refine go_nil ?_
    change G _ _ _ _
    refine p_ret0 ?_
    try dsimp only [thenQ, inBlockQ]
    try rw [if_pos rfl]
    refine ret_left ((bm, .cells (⟨.map (some bf), .map (some b1), .map (some bl), .slice pe S.es.length ce, .slice pl S.line.length cl, S.first, S.boot⟩ : Mod).c 207 (0, 0)) :: mapO bf S.fw S.fc :: mapO b1 l1 c1 :: mapO bl l2 c2 :: (Ae ++ (Al ++ Ar) ++ R)) (.inr rfl) (.cons (res_tmp rfl) .nil) .auto ?_
    exact ⟨_, { S with ca := l1, cc := c1, lo := l2, lc := c2 }, _, rfl, rfl, ⟨rfl, rfl, rfl, rfl, rfl, rfl⟩, bf, b1, bl, pe, ce, pl, cl, Ae, Al, Ar, { hI with c := hmo, l := hm2 }, hE, hL, hA, rfl⟩
  replace h29 := kn h29
  refine p_skip0 ?_
  change G _ _ _ _
  refine p_weaken [0, 26, 27, 28] rfl ?_
  refine p_seq0 ?_
  refine p_block 1 (by kernel_rfl) ?_
  refine p_seq0 ?_
  obtain ⟨bb, oo, cu, ee, ff, hpe, mm, H⟩ := hl.at_ (i := i) (by omega)
  rw [hpe]
  obtain ⟨x, hx⟩ : ∃ x, nt.recs[i]? = some x := ⟨_, List.getElem?_eq_getElem (by omega)⟩
  have hxw := hw.recs_ x (List.mem_of_getElem? hx)
  have htw : (⟨x.packets, x.bytes⟩ : Tot).Wf := ⟨hxw.packets_, hxw.bytes_⟩
  have hmn := hm2.add hxw.key_ htw
  refine p_plain0 (0 :: 1 :: 2 :: 3 :: []) ?_
  refine go_q0 30 (.indexAddr 102 (.tmp 26) (.tmp 28)) 0 (qv_index un102 sz35 rfl rfl rfl (by omega)) ?_
  refine go_q0 31 (.load 35 (.tmp 30)) 35 (qv_load rfl (by repeat first | exact At.of_mem (.tail _ (.tail _ (.tail _ (.tail _ (List.mem_append_right _ (List.mem_append_right _ (List.mem_append_right _ mm))))))) | apply At.next) (ldv_els H hx (by decide) agg35 rfl)) ?_
  refine go_s0 (some 8) (.alloc 35) 0 ?_
  refine os_allocA rfl ze35 (fun b8 => ?_)
  refine go_s0 none (.store 35 (.tmp 8) (.tmp 31)) 0 ?_
  refine os_store rfl rfl sz35 rfl (one_Rec _) .auto (Nat.le_of_ble_eq_true rfl) (splw_Rec _ _ (siz_Rec _)) ?_
  refine go_nil ?_
  change G _ _ _ _
  refine p_weaken [0, 8, 26, 27, 28] rfl ?_
  refine p_draw (by kernel_rfl) mixed 8 9 _ (fun _ h => h) (by kernel_rfl) ?_
  refine gd_all (0 :: 1 :: 2 :: 3 :: 4 :: 5 :: 6 :: 7 :: []) _ rfl (by kernel_rfl) (by decide) (fun _ h => h) rfl ?_
  refine sq_q0 32 (.move (.tmp 0)) 131 (qv_move rfl) ?_
  refine sq_q0 33 (.nilCheck (.tmp 32)) 0 (qv_nilCheck rfl) ?_
  refine sq_q0 34 (.fieldAddr 207 (.tmp 33) 2) 0 (qv_field rfl fd207_2) ?_
  refine sq_q0 35 (.load 205 (.tmp 34)) 205 (qv_load rfl .auto (ldv_sca sc205 (get_Mod_2 _))) ?_
  refine sq_q0 36 (.fieldAddr 35 (.tmp 8) 0) 0 (qv_field rfl fd35_0) ?_
  refine sq_q0 37 (.load 27 (.tmp 36)) 27 (qv_load rfl .auto (ldv_agg agg27 (ext_Rec_0_37 _) (Nat.le_of_ble_eq_true rfl))) ?_
  refine sq_q0 38 (.load 35 (.tmp 8)) 35 (qv_load rfl .auto (ldv_agg agg35 (extw_Rec _) (Nat.le_of_ble_eq_true rfl))) ?_
  refine sq_p (d := 39) (op := .call { callee := .value (.func 18), args := #[.tmp 38], argTypes := #[35] }) (ty := 32) (g := none) (by kernel_rfl) trivial (pv_call en18 rfl (pu_Total x)) ?_
  refine SeqK.nil (fun β => ?_)
  refine gd_tail [8] rfl (by kernel_rfl) (by kernel_rfl) ?_
  refine go_s0 (some 40) (.call { callee := .value (.func 162), args := #[.tmp 35, .tmp 37, .tmp 39], argTypes := #[205, 27, 32] }) 0 ?_
  refine os_call (Nat.le_of_ble_eq_true rfl) en162 rfl .auto (ct_addT (k := x.key) hm2 htw) ?_
  rintro v40 A40 ⟨rfl, rfl⟩
  try dsimp only [List.nil_append, List.cons_append]
  refine go_nil ?_
  change G _ _ _ _
  refine p_weaken [0, 26, 27, 28] rfl ?_
  refine p_plain0 (0 :: 1 :: []) ?_
  refine go_q0 41 (.binOp .add 3 (.tmp 28) (.const (.int .i64 1)) 3) 3 (qv_add rfl rfl (by first | exact IntWalk.i64_in _ (by omega) | exact IntWalk.i64_in _ (by dsimp only; omega) | rfl)) ?_
  refine go_q0 28 (.move (.tmp 41)) 3 (qv_move rfl) ?_
  refine go_nil ?_
  exact ⟨_, ⟨i + 1, _, _, by omega, hmn, ⟨rfl, ⟨[0, 26, 27, 28], rfl⟩, .auto⟩, rfl⟩, by omega⟩
def EntR.sy (e : EntR) : EntR := { e with synced := e.synced || e.there }
theorem sync_flg {es es1 : List EntR} (hl : es1.length = es.length) (h : ∀ j : Nat, es1[j]? = (es[j]?).map EntR.sy) : es1 = es.map EntR.sy := by
  apply List.ext_getElem?
  intro j
  rw [h j, List.getElem?_map]
theorem flg_map (es : List EntR) : Flg es (es.map EntR.sy) := ⟨by simp, fun j e' h => by
  rw [List.getElem?_map] at h
  obtain ⟨e, he, rfl⟩ := Option.map_eq_some_iff.1 h
  exact ⟨e, he, rfl⟩⟩
theorem ct_Msync {bm : Nat} {S : MS} {M : Mem} {nt : NoteR} (hM : ModM bm S M) :
    Ct Try.prog 128 [.pointer (some ⟨bm, 0, none⟩), .agg nt.x.c].toArray M (fun v M' => v = .bool (decide (0 < S.boot)) ∧ ModM bm { S with es := S.es.map EntR.sy } M') := by
  obtain ⟨bf, bc, bl, pe, ce, pl, cl, Ae, Al, Ar, hI, hE, hL, hA, rfl⟩ := hM
  have hen := hI.en
  refine ct_body (rv := [.tmp 4]) [(0, _), (1, _)] Try.func128 (by kernel_rfl) Try.ntmps128 Try.results128 rfl rfl (fun w0 => ?_)
  refine p_seq0 ?_
  refine p_plain0 (0 :: 1 :: []) ?_
  refine go_s0 (some 3) (.box 135 (.tmp 1)) 0 ?_
  refine os_boxA rfl rfl (fun b3 => ?_)
  refine go_q0 4 (.assign (.const (.bool false))) 4 (qv_assign rfl) ?_
  refine go_nil ?_
  change G _ _ _ _
  refine p_weaken [0, 4] rfl ?_
  refine p_seq0 ?_
  refine p_seq0 ?_
  refine p_plain0 (0 :: 1 :: 2 :: 3 :: 4 :: 5 :: []) ?_
  refine go_q0 6 (.move (.tmp 0)) 131 (qv_move rfl) ?_
  refine go_q0 7 (.nilCheck (.tmp 6)) 0 (qv_nilCheck rfl) ?_
  refine go_q0 8 (.fieldAddr 207 (.tmp 7) 3) 0 (qv_field rfl fd207_3) ?_
  refine go_q0 9 (.load 136 (.tmp 8)) 136 (qv_load rfl .auto (ldv_sca sc136 (get_Mod_3 _))) ?_
  refine go_q0 10 (.call { callee := .builtin .len, args := #[.tmp 9], argTypes := #[136] }) 3 (qv_lenS un136 rfl) ?_
  refine go_q0 11 (.move (.const (.int .i64 0))) 3 (qv_move rfl) ?_
  refine go_nil ?_
  change G _ _ _ _
  refine p_weaken [0, 4, 10, 11] rfl ?_
  refine p_block 0 (by kernel_rfl) ?_
  refine p_loopE (by kernel_rfl) (fun s m => ∃ (i : Nat) (es1 : List EntR) (Ae1 : Mem), (i ≤ S.es.length) ∧ (es1.length = S.es.length) ∧ (∀ j : Nat, j < i → es1[j]? = (S.es[j]?).map EntR.sy) ∧ (∀ j : Nat, i ≤ j → es1[j]? = S.es[j]?) ∧ (OwnL eEntR 139 pe ce es1 Ae1) ∧ Ge s ⟨[], [(0, .pointer (some ⟨bm, 0, none⟩)), (10, .int .i64 S.es.length), (11, .int .i64 i)], modO bm bf bc bl pe S.es.length ce pl S.line.length cl S.first S.boot :: mapO bf S.fw S.fc :: mapO bc S.ca S.cc :: mapO bl S.lo S.lc :: (Ae1 ++ (Al ++ Ar))⟩ ∧ m = S.es.length + 1 - i) ?_ ?_
  · exact ⟨_, ⟨0, S.es, Ae, by omega, rfl, fun j hj => absurd hj (Nat.not_lt_zero _), fun _ _ => rfl, hE, ⟨rfl, ⟨[0, 10, 11], rfl⟩, .auto⟩, rfl⟩⟩
  rintro s m ⟨i, es1, Ae1, hi, hl1, hlo, hhi, hE1, hs, rfl⟩
  refine ge_ok hs ?_
  refine p_seq0 ?_
  refine p_plain0 (0 :: []) ?_
  refine go_q0 12 (.binOp .lss 3 (.tmp 11) (.tmp 10) 3) 0 (qv_lss rfl rfl rfl) ?_
  refine go_nil ?_
  change G _ _ _ _
  refine p_seq0 ?_
  refine p_cond (.tmp 12) (by kernel_rfl) rfl (fun h12 => ?_) (fun h12 => ?_)
  rotate_left
  · replace h12 := kn h12
    refine p_exit 0 (by kernel_rfl) ?_
    change G _ _ _ _
    refine p_weaken [0] rfl ?_
    refine p_seq0 ?_
    refine p_plain0 (0 :: 1 :: 2 :: 3 :: 4 :: 5 :: []) ?_
    refine go_q0 40 (.move (.tmp 0)) 131 (qv_move rfl) ?_
    refine go_q0 41 (.nilCheck (.tmp 40)) 0 (qv_nilCheck rfl) ?_
    refine go_q0 42 (.fieldAddr 207 (.tmp 41) 6) 0 (qv_field rfl fd207_6) ?_
    refine go_q0 43 (.load 77 (.tmp 42)) 77 (qv_load rfl .auto (ldv_sca sc77 (get_Mod_6 _))) ?_
    refine go_q0 44 (.binOp .gtr 77 (.tmp 43) (.const (.int .u32 0)) 77) 4 (qv_gtr rfl rfl rfl) ?_
    refine go_q0 4 (.assign (.tmp 44)) 4 (qv_assign rfl) ?_
    refine go_nil ?_
    change G _ _ _ _
    refine p_weaken [4] rfl ?_
    refine p_ret0 ?_
    try dsimp only [thenQ, inBlockQ]
    try rw [if_pos rfl]
    refine ret_left (modO bm bf bc bl pe S.es.length ce pl S.line.length cl S.first S.boot :: mapO bf S.fw S.fc :: mapO bc S.ca S.cc :: mapO bl S.lo S.lc :: (Ae1 ++ (Al ++ Ar))) (.inr rfl) (.cons (res_tmp rfl) .nil) .auto ?_
    have hie : i = S.es.length := by omega
    have hall : es1 = S.es.map EntR.sy := sync_flg hl1 fun j => by
      rcases Nat.lt_or_ge j i with h | h
      · exact hlo j h
      · rw [hhi j h, List.getElem?_eq_none (by omega)]; rfl
    have hfl := flg_map S.es
    exact ⟨rfl, bf, bc, bl, pe, ce, pl, cl, Ae1, Al, Ar, hI.setEs hfl, hall ▸ hE1, hL, hfl.lst hA, by rw [List.length_map]⟩
  replace h12 := kn h12
  refine p_skip0 ?_
  change G _ _ _ _
  refine p_weaken [0, 10, 11] rfl ?_
  refine p_seq0 ?_
  refine p_block 1 (by kernel_rfl) ?_
  refine p_seq0 ?_
  refine p_plain0 (0 :: 1 :: []) ?_
  refine go_q0 13 (.move (.tmp 11)) 3 (qv_move rfl) ?_
  refine go_q0 5 (.assign (.tmp 13)) 3 (qv_assign rfl) ?_
  refine go_nil ?_
  change G _ _ _ _
  refine p_weaken [0, 5, 10, 11] rfl ?_
  obtain ⟨b, cur, rfl, rfl, hc1, hc2, hc3, H⟩ := hE1.some_ (by omega)
  obtain ⟨x, hx0⟩ : ∃ x, S.es[i]? = some x := ⟨_, List.getElem?_eq_getElem (by omega)⟩
  have hx : es1[i]? = some x := by rw [hhi i (Nat.le_refl _)]; exact hx0
  have hlon : ∀ j : Nat, j < i + 1 → (es1.set i x.sy)[j]? = (S.es[j]?).map EntR.sy := fun j hj => by
    by_cases e : j = i
    · subst e; rw [List.getElem?_set_self (by omega), hx0]; rfl
    · rw [List.getElem?_set_ne (Ne.symm e)]; exact hlo j (by omega)
  refine p_draw (by kernel_rfl) mixed 25 26 _ (fun _ h => h) (by kernel_rfl) ?_
  refine gd_all (0 :: 1 :: 2 :: 3 :: 4 :: 5 :: 6 :: 7 :: 8 :: 9 :: 10 :: 11 :: 12 :: 13 :: 14 :: 15 :: 16 :: 17 :: 18 :: 19 :: 20 :: 21 :: 22 :: 23 :: 24 :: []) _ rfl (by kernel_rfl) (by decide) (fun _ h => h) rfl ?_
  refine sq_q0 14 (.move (.tmp 0)) 131 (qv_move rfl) ?_
  refine sq_q0 15 (.nilCheck (.tmp 14)) 0 (qv_nilCheck rfl) ?_
  refine sq_q0 16 (.fieldAddr 207 (.tmp 15) 3) 0 (qv_field rfl fd207_3) ?_
  refine sq_q0 17 (.load 136 (.tmp 16)) 136 (qv_load rfl .auto (ldv_sca sc136 (get_Mod_3 _))) ?_
  refine sq_q0 18 (.move (.tmp 5)) 3 (qv_move rfl) ?_
  refine sq_q0 19 (.move (.tmp 0)) 131 (qv_move rfl) ?_
  refine sq_q0 20 (.nilCheck (.tmp 19)) 0 (qv_nilCheck rfl) ?_
  refine sq_q0 21 (.fieldAddr 207 (.tmp 20) 3) 0 (qv_field rfl fd207_3) ?_
  refine sq_q0 22 (.load 136 (.tmp 21)) 136 (qv_load rfl .auto (ldv_sca sc136 (get_Mod_3 _))) ?_
  refine sq_q0 23 (.move (.tmp 5)) 3 (qv_move rfl) ?_
  refine sq_q0 24 (.indexAddr 136 (.tmp 22) (.tmp 23)) 0 (qv_index un136 sz139 rfl rfl rfl (by omega)) ?_
  refine sq_q0 25 (.fieldAddr 139 (.tmp 24) 4) 0 (qv_field rfl fd139_4) ?_
  refine sq_q0 26 (.load 4 (.tmp 25)) 4 (qv_load rfl .auto (ldv_el (E := eEntR) H hx sc4 (get_Entr_4 x.x) rfl)) ?_
  refine sq_q0 27 (.move (.tmp 26)) 4 (qv_move rfl) ?_
  refine sq_case (d := 27) rfl (fun _ => rfl) (fun g27 => ?_) (fun g27 => ?_)
  · replace g27 := kn g27
    have hsyT : (eEntR.c x).setIfInBounds 4 (.bool true) = eEntR.c x.sy := by rw [show x.sy = { x with synced := true } by unfold EntR.sy; rw [show x.synced = true from g27]; rfl]; exact set_Entr_4 x.x true
    refine sq_n (d := 28) (op := .move (.tmp 0)) (ty := 131) (g := some (13, false)) (by kernel_rfl) ⟨27, _, by kernel_rfl, rfl, rfl⟩ ?_
    refine sq_n (d := 29) (op := .nilCheck (.tmp 28)) (ty := 0) (g := some (13, false)) (by kernel_rfl) ⟨27, _, by kernel_rfl, rfl, rfl⟩ ?_
    refine sq_n (d := 30) (op := .fieldAddr 207 (.tmp 29) 3) (ty := 0) (g := some (13, false)) (by kernel_rfl) ⟨27, _, by kernel_rfl, rfl, rfl⟩ ?_
    refine sq_n (d := 31) (op := .load 136 (.tmp 30)) (ty := 136) (g := some (13, false)) (by kernel_rfl) ⟨27, _, by kernel_rfl, rfl, rfl⟩ ?_
    refine sq_n (d := 32) (op := .move (.tmp 5)) (ty := 3) (g := some (13, false)) (by kernel_rfl) ⟨27, _, by kernel_rfl, rfl, rfl⟩ ?_
    refine sq_n (d := 33) (op := .indexAddr 136 (.tmp 31) (.tmp 32)) (ty := 0) (g := some (13, false)) (by kernel_rfl) ⟨27, _, by kernel_rfl, rfl, rfl⟩ ?_
    refine sq_n (d := 34) (op := .fieldAddr 139 (.tmp 33) 3) (ty := 0) (g := some (13, false)) (by kernel_rfl) ⟨27, _, by kernel_rfl, rfl, rfl⟩ ?_
    refine sq_n (d := 35) (op := .load 4 (.tmp 34)) (ty := 4) (g := some (13, false)) (by kernel_rfl) ⟨27, _, by kernel_rfl, rfl, rfl⟩ ?_
    refine sq_q0 36 (.pick (.tmp 27) (.const (.bool true)) (.tmp 35)) 4 (qv_pick_t rfl rfl) ?_
    refine sq_q0 37 (.indexAddr 136 (.tmp 17) (.tmp 18)) 0 (qv_index un136 sz139 rfl rfl rfl (by omega)) ?_
    refine sq_q0 38 (.fieldAddr 139 (.tmp 37) 4) 0 (qv_field rfl fd139_4) ?_
    refine SeqK.nil (fun β => ?_)
    refine gd_tail [25] rfl (by kernel_rfl) (by kernel_rfl) ?_
    refine go_s0 none (.store 4 (.tmp 38) (.tmp 36)) 0 ?_
    refine os_store1 rfl rfl sz4 rfl rfl .auto (own_fitc (E := eEntR) (k := 4) (by decide) H hx (by decide) rfl) rfl ?_
    have hEn := own_setc (E := eEntR) (e := 139) (b := b) (k := 4) (a' := x.sy) (by decide) hc1 hc2 hc3 H hx (by decide) (by first | exact hsyT | exact hsyF) rfl
    refine go_nil ?_
    change G _ _ _ _
    refine p_weaken [0, 10, 11] rfl ?_
    refine p_plain0 (0 :: 1 :: []) ?_
    refine go_q0 39 (.binOp .add 3 (.tmp 11) (.const (.int .i64 1)) 3) 3 (qv_add rfl rfl (by first | exact IntWalk.i64_in _ (by omega) | exact IntWalk.i64_in _ (by dsimp only; omega) | rfl)) ?_
    refine go_q0 11 (.move (.tmp 39)) 3 (qv_move rfl) ?_
    refine go_nil ?_
    exact ⟨_, ⟨i + 1, es1.set i x.sy, _, by omega, by rw [List.length_set]; exact hl1, hlon, fun j hj => by rw [List.getElem?_set_ne (by omega)]; exact hhi j (by omega), hEn, ⟨rfl, ⟨[0, 10, 11], rfl⟩, .auto⟩, rfl⟩, by omega⟩
  replace g27 := kn g27
  have hsyF : (eEntR.c x).setIfInBounds 4 (.bool x.there) = eEntR.c x.sy := by rw [show x.sy = { x with synced := x.there } by unfold EntR.sy; rw [show x.synced = false from g27]; rfl]; exact set_Entr_4 x.x x.there
  refine sq_q (d := 28) (op := .move (.tmp 0)) (ty := 131) (g := some (13, false)) (by kernel_rfl) ⟨27, by kernel_rfl, rfl⟩ (fun _ h => nomatch h) (qv_move rfl) ?_
  refine sq_q (d := 29) (op := .nilCheck (.tmp 28)) (ty := 0) (g := some (13, false)) (by kernel_rfl) ⟨27, by kernel_rfl, rfl⟩ (fun _ h => nomatch h) (qv_nilCheck rfl) ?_
  refine sq_q (d := 30) (op := .fieldAddr 207 (.tmp 29) 3) (ty := 0) (g := some (13, false)) (by kernel_rfl) ⟨27, by kernel_rfl, rfl⟩ (fun _ h => nomatch h) (qv_field rfl fd207_3) ?_
  refine sq_q (d := 31) (op := .load 136 (.tmp 30)) (ty := 136) (g := some (13, false)) (by kernel_rfl) ⟨27, by kernel_rfl, rfl⟩ (fun _ h => nomatch h) (qv_load rfl .auto (ldv_sca sc136 (get_Mod_3 _))) ?_
  refine sq_q (d := 32) (op := .move (.tmp 5)) (ty := 3) (g := some (13, false)) (by kernel_rfl) ⟨27, by kernel_rfl, rfl⟩ (fun _ h => nomatch h) (qv_move rfl) ?_
  refine sq_q (d := 33) (op := .indexAddr 136 (.tmp 31) (.tmp 32)) (ty := 0) (g := some (13, false)) (by kernel_rfl) ⟨27, by kernel_rfl, rfl⟩ (fun _ h => nomatch h) (qv_index un136 sz139 rfl rfl rfl (by omega)) ?_
  refine sq_q (d := 34) (op := .fieldAddr 139 (.tmp 33) 3) (ty := 0) (g := some (13, false)) (by kernel_rfl) ⟨27, by kernel_rfl, rfl⟩ (fun _ h => nomatch h) (qv_field rfl fd139_3) ?_
  refine sq_q (d := 35) (op := .load 4 (.tmp 34)) (ty := 4) (g := some (13, false)) (by kernel_rfl) ⟨27, by kernel_rfl, rfl⟩ (fun _ h => nomatch h) (qv_load rfl .auto (ldv_el (E := eEntR) H hx sc4 (get_Entr_3 x.x) rfl)) ?_
  refine sq_q0 36 (.pick (.tmp 27) (.const (.bool true)) (.tmp 35)) 4 (qv_pick_f rfl rfl) ?_
  refine sq_q0 37 (.indexAddr 136 (.tmp 17) (.tmp 18)) 0 (qv_index un136 sz139 rfl rfl rfl (by omega)) ?_
  refine sq_q0 38 (.fieldAddr 139 (.tmp 37) 4) 0 (qv_field rfl fd139_4) ?_
  refine SeqK.nil (fun β => ?_)
  refine gd_tail [25] rfl (by kernel_rfl) (by kernel_rfl) ?_
  refine go_s0 none (.store 4 (.tmp 38) (.tmp 36)) 0 ?_
  refine os_store1 rfl rfl sz4 rfl rfl .auto (own_fitc (E := eEntR) (k := 4) (by decide) H hx (by decide) rfl) rfl ?_
  have hEn := own_setc (E := eEntR) (e := 139) (b := b) (k := 4) (a' := x.sy) (by decide) hc1 hc2 hc3 H hx (by decide) (by first | exact hsyT | exact hsyF) rfl
  refine go_nil ?_
  change G _ _ _ _
  refine p_weaken [0, 10, 11] rfl ?_
  refine p_plain0 (0 :: 1 :: []) ?_
  refine go_q0 39 (.binOp .add 3 (.tmp 11) (.const (.int .i64 1)) 3) 3 (qv_add rfl rfl (by first | exact IntWalk.i64_in _ (by omega) | exact IntWalk.i64_in _ (by dsimp only; omega) | rfl)) ?_
  refine go_q0 11 (.move (.tmp 39)) 3 (qv_move rfl) ?_
  refine go_nil ?_
  exact ⟨_, ⟨i + 1, es1.set i x.sy, _, by omega, by rw [List.length_set]; exact hl1, hlon, fun j hj => by rw [List.getElem?_set_ne (by omega)]; exact hhi j (by omega), hEn, ⟨rfl, ⟨[0, 10, 11], rfl⟩, .auto⟩, rfl⟩, by omega⟩
end Go.Proofs.Ytobmcpoejhhemaa
