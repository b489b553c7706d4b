import Derived.Test.YtobmcpoejhhemaaOMpM
import Derived.Test.YtobmcpoejhhemaaOKeys
namespace Go.Proofs.Ytobmcpoejhhemaa
open Go.E

theorem upM {b c c' : Nat} {l l' : List MEnt} {r : Mem} : Up (mapO b l c :: r) b (mapO b l c).2 (mapO b l' c').2 (mapO b l' c' :: r) := Up.here
theorem Up.autoM {M M' : Mem} {b : Nat} {o o' : Obj} (h : Up M b o o' M' := by repeat first | exact upM | exact .here | apply Up.next | apply Up.app) : Up M b o o' M' := h
theorem tot_ok {t : Tot} (h : t.Wf) : t.Ok := ⟨h.packets_, h.bytes_⟩
theorem tot_wf {t : Tot} (h : t.Ok) : t.Wf := ⟨h.1, h.2⟩
theorem ct_addT {b c : Nat} {l : List MEnt} {k : Key} {t : Tot} (h : MOk l c) (ht : t.Wf) :
    Ct Try.prog 162 [.map (some b), .agg k.c, .agg t.c].toArray [mapO b l c] (fun v M' => v = .tuple #[] ∧ M' = [mapO b (putM l c k ((getM l k).plus t)) (clkM l c k)]) := by
  refine ct_body (rv := []) [(0, _), (1, _), (2, _)] Try.func162 (by kernel_rfl) Try.ntmps162 Try.results162 rfl rfl (fun w0 => ?_)
  refine p_seq0 ?_
  refine p_plain0 (0 :: 1 :: []) ?_
  refine go_s0 (some 4) (.box 27 (.tmp 1)) 0 ?_
  refine os_boxA rfl rfl (fun b4 => ?_)
  refine go_s0 (some 5) (.box 32 (.tmp 2)) 0 ?_
  refine os_boxA rfl rfl (fun b5 => ?_)
  refine go_nil ?_
  change G _ _ _ _
  refine p_weaken [0, 4, 5] rfl ?_
  refine p_draw (by kernel_rfl) mixed 7 8 _ (fun _ h => h) (by kernel_rfl) ?_
  refine gd_all (0 :: 1 :: 2 :: 3 :: 4 :: 5 :: 6 :: []) _ rfl (by kernel_rfl) (by decide) (fun _ h => h) rfl ?_
  refine sq_q0 6 (.move (.tmp 0)) 205 (qv_move rfl) ?_
  refine sq_q0 7 (.load 27 (.tmp 4)) 27 (qv_load rfl .auto (ldv_agg agg27 (extw_Key _) (Nat.le_of_ble_eq_true rfl))) ?_
  refine sq_q0 8 (.move (.tmp 0)) 205 (qv_move rfl) ?_
  refine sq_q0 9 (.load 27 (.tmp 4)) 27 (qv_load rfl .auto (ldv_agg agg27 (extw_Key _) (Nat.le_of_ble_eq_true rfl))) ?_
  refine sq_q0 10 (.lookup 205 (.tmp 8) (.tmp 9) false) 32 (qv_lookup rfl rfl .auto) ?_
  refine sq_q0 11 (.load 32 (.tmp 5)) 32 (qv_load rfl .auto (ldv_agg agg32 (extw_Tot _) (Nat.le_of_ble_eq_true rfl))) ?_
  refine sq_p (d := 12) (op := .call { callee := .value (.func 19), args := #[.tmp 10, .tmp 11], argTypes := #[32, 32] }) (ty := 32) (g := none) (by kernel_rfl) trivial (pv_call en19 rfl (pu_Plus (tot_ok (h.get k)) (tot_ok ht))) ?_
  refine SeqK.nil (fun β => ?_)
  refine gd_tail [7] rfl (by kernel_rfl) (by kernel_rfl) ?_
  refine go_s0 none (.mapUpdate 205 (.tmp 6) (.tmp 7) (.tmp 12)) 0 ?_
  refine os_mapUpdateT rfl rfl rfl rfl Up.autoM ?_
  refine go_nil ?_
  try dsimp only [thenQ, inBlockQ]
  try rw [if_pos rfl]
  refine ret_left ([mapO b (putM l c k ((getM l k).plus t)) (clkM l c k)]) (.inl rfl) .nil .auto ?_
  exact ⟨rfl, rfl⟩
theorem MOk.add {c : Nat} {l : List MEnt} {k : Key} {t : Tot} (h : MOk l c) (hk : k.Wf) (ht : t.Wf) : MOk (putM l c k ((getM l k).plus t)) (clkM l c k) := h.put hk (tot_wf (Tot.plus_ok (tot_ok (h.get k)) (tot_ok ht)))
theorem qv_mkI {P : Program} {fr : Fr} {M : Mem} {ty t : TypeId} {x : Operand} {v : Value} (hx : evo fr x = some v) (hr : ∀ w, (Instr.makeInterface t v).run P w = .ok (.iface t v) w) : QV P (.makeInterface t x) ty fr M (.iface t v) := fun o ho _ a w n ds hf _ =>
  ⟨by simp, by simp only [execOp, ho, hf.ev hx, Sem.run_bind, hr w, Result.andThen, Sem.run_pure]⟩
theorem qv_tyA {P : Program} {fr : Fr} {M : Mem} {ty xT t : TypeId} {x : Operand} {u v : Value} (hx : evo fr x = some u) (hr : ∀ w, (Instr.typeAssert u xT t false).run P w = .ok v w) : QV P (.typeAssert x xT t false) ty fr M v := fun o ho _ a w n ds hf _ =>
  ⟨by simp, by simp only [execOp, ho, hf.ev hx, Sem.run_bind, hr w, Result.andThen, Sem.run_pure]⟩
theorem run_cloneT {b c : Nat} {l : List MEnt} {w : World} (hb : w.heap[b]? = some (.map (l.map MEnt.e).toArray c)) :
    (callFunc 174 #[.iface 205 (.map (some b))]).run Try.prog w = .ok (.value (.iface 205 (.map (some w.heap.size)))) (w.alloc (.map (l.map MEnt.e).toArray c)) := by
  rw [run_callFunc_extern Try.func174 (by kernel_rfl) (by kernel_rfl) (by kernel_rfl) (e := Extern.MapsClone.clone) (by kernel_rfl), run_maps_clone_sl w 205 hb]
  rfl
theorem os_cloneT {X : Cx} {ty : TypeId} {d : Nat} {ds : List Deferred} {fr : Fr} {M : Mem} {K : S → Prop} {b c : Nat} {l : List MEnt} {x : Operand} {ts : Array TypeId} (hd : Nat.blt d X.n = true) (hP : X.P = Try.prog) (hx : evo fr x = some (.iface 205 (.map (some b)))) (hb : At M b (mapO b l c).2)
    (h : ∀ b', K ⟨ds, (d, .iface 205 (.map (some b'))) :: fr, mapO b' l c :: M⟩) : OpS X (.call { callee := .value (.func 174), args := #[x], argTypes := ts }) ty (some d) ⟨ds, fr, M⟩ K := by
  rintro o hop hty hdst a w ⟨hf, hc⟩
  refine wpIn_of_value (fun _ => trivial) (by rw [hop]; simp) (v := .iface 205 (.map (some w.heap.size))) (w' := w.alloc (.map (l.map MEnt.e).toArray c)) ?_ ?_
  · have hm : (#[x] : Array Operand).map a.eval = #[.iface 205 (.map (some b))] := by simp [hf.ev hx]
    rw [hP]
    simp only [execOp, hop, resolve, Act.eval, Deferred.ofValue]
    rw [show (#[x] : Array Operand).map (fun x => a.eval x) = #[.iface 205 (.map (some b))] from hm]
    simp [Sem.run_bind, invoke, run_cloneT (hc.at_ _ hb.mem)]
  · rw [hdst]
    exact ⟨⟨ds, (d, _) :: fr, (w.heap.size, _) :: M⟩, ⟨hf.put (by simpa using hd) _, hc.alloc _⟩, h _⟩
theorem ct_cloneT {b c : Nat} {l : List MEnt} :
    Ct Try.prog 137 [.map (some b)].toArray [mapO b l c] (fun v M' => ∃ b', v = .map (some b') ∧ M' = [mapO b' l c, mapO b l c]) := by
  refine ct_body (rv := [.tmp 2]) [(0, _)] Try.func137 (by kernel_rfl) Try.ntmps137 Try.results137 rfl rfl (fun w0 => ?_)
  refine p_seq0 ?_
  refine p_plain0 (0 :: []) ?_
  refine go_q0 2 (.assign (.const (.map none))) 205 (qv_assign rfl) ?_
  refine go_nil ?_
  change G _ _ _ _
  refine p_seq0 ?_
  refine p_seq0 ?_
  refine p_plain0 (0 :: 1 :: []) ?_
  refine go_q0 3 (.move (.tmp 0)) 205 (qv_move rfl) ?_
  refine go_q0 4 (.binOp .eql 205 (.tmp 3) (.const (.map none)) 205) 4 (qv_bin rfl rfl (fun w => by simp [eqGuard]) (fun w => run_eql_map_nil_sl w 205 _ _ (some b) un205)) ?_
  refine go_nil ?_
  change G _ _ _ _
  refine p_weaken [0, 2, 4] rfl ?_
  refine p_condF (.tmp 4) (by kernel_rfl) rfl ?_
  refine p_skip0 ?_
  change G _ _ _ _
  refine p_weaken [0, 2] rfl ?_
  refine p_seq0 ?_
  refine p_plain0 (0 :: 1 :: 2 :: 3 :: 4 :: []) ?_
  refine go_q0 5 (.move (.tmp 0)) 205 (qv_move rfl) ?_
  refine go_q0 6 (.makeInterface 205 (.tmp 5)) 20 (qv_mkI rfl (fun w => by kernel_rfl)) ?_
  refine go_s0 (some 7) (.call { callee := .value (.func 174), args := #[.tmp 6], argTypes := #[20] }) 20 ?_
  refine os_cloneT rfl rfl rfl .auto (fun b7 => ?_)
  refine go_q0 8 (.typeAssert (.tmp 7) 20 205 false) 205 (qv_tyA rfl (fun w => run_typeAssert_map_sl w _ _ _ _ _ un205)) ?_
  refine go_q0 2 (.assign (.tmp 8)) 205 (qv_assign rfl) ?_
  refine go_nil ?_
  change G _ _ _ _
  refine p_weaken [2] rfl ?_
  refine p_ret0 ?_
  try dsimp only [thenQ, inBlockQ]
  try rw [if_pos rfl]
  refine ret_left ([mapO b7 l c, mapO b l c]) (.inr rfl) (.cons (res_tmp rfl) .nil) .auto ?_
  exact ⟨b7, rfl, rfl⟩
def takeOk (l : List MEnt) (r : Rec) : Bool := r.right && decide (r.packets ≤ (getM l r.key).packets) && decide (r.bytes ≤ (getM l r.key).bytes)
def takeOne (s : Option (List MEnt × Nat)) (r : Rec) : Option (List MEnt × Nat) := s.bind fun p => if takeOk p.1 r = true then some (putM p.1 p.2 r.key ⟨(getM p.1 r.key).packets - r.packets, (getM p.1 r.key).bytes - r.bytes⟩, clkM p.1 p.2 r.key) else none
def takeL (l : List MEnt) (c : Nat) (rs : List Rec) : Option (List MEnt × Nat) := rs.foldl takeOne (some (l, c))
theorem take_none (rs : List Rec) : rs.foldl takeOne none = none := by
  induction rs with
  | nil => rfl
  | cons r rs ih => exact ih
theorem takeL_succ {l : List MEnt} {c i : Nat} {rs : List Rec} {r : Rec} (h : rs[i]? = some r) : takeL l c (rs.take (i + 1)) = takeOne (takeL l c (rs.take i)) r := by
  unfold takeL
  rw [List.take_add_one, h, List.foldl_append]
  rfl
theorem takeL_fail {l : List MEnt} {c i : Nat} {rs : List Rec} (h : takeL l c (rs.take i) = none) : takeL l c rs = none := by
  have e : takeL l c rs = (rs.drop i).foldl takeOne (takeL l c (rs.take i)) := by
    unfold takeL
    rw [← List.foldl_append, List.take_append_drop]
  rw [e, h, take_none]
theorem take_wf {t : Tot} {a b : Int} (h : t.Wf) (h1 : 0 ≤ a) (h2 : 0 ≤ b) (h3 : a ≤ t.packets) (h4 : b ≤ t.bytes) : (⟨t.packets - a, t.bytes - b⟩ : Tot).Wf := by
  have e1 : t.packets ≤ 18446744073709551615 := h.packets_.2
  have e2 : t.bytes ≤ 18446744073709551615 := h.bytes_.2
  exact ⟨⟨show (0 : Int) ≤ t.packets - a by omega, show t.packets - a ≤ (18446744073709551615 : Int) by omega⟩, ⟨show (0 : Int) ≤ t.bytes - b by omega, show t.bytes - b ≤ (18446744073709551615 : Int) by omega⟩⟩
theorem ct_takeT {b c cp : Nat} {l : List MEnt} {p : Option Addr} {rs : List Rec} {R : Mem} (h : MOk l c) (hl : Lst eRec p rs R) (hw : ∀ r ∈ rs, r.Wf) (hm : rs.length ≤ 1000000) :
    Ct Try.prog 163 [.map (some b), .slice p rs.length cp].toArray (mapO b l c :: R) (fun v M' => (∃ b' l' c', takeL l c rs = some (l', c') ∧ rs ≠ [] ∧ MOk l' c' ∧ v = .tuple #[.map (some b'), .bool true] ∧ M' = mapO b' l' c' :: mapO b l c :: R) ∨ ((takeL l c rs = none ∨ rs = []) ∧ ∃ o, v = .tuple #[.map o, .bool false] ∧ M' = mapO b l c :: R)) := by
  refine ct_body (rv := [.tmp 4, .tmp 5]) [(0, _), (1, _)] Try.func163 (by kernel_rfl) Try.ntmps163 Try.results163 rfl rfl (fun w0 => ?_)
  refine p_seq0 ?_
  refine p_plain0 (0 :: 1 :: []) ?_
  refine go_q0 4 (.assign (.const (.map none))) 205 (qv_assign rfl) ?_
  refine go_q0 5 (.assign (.const (.bool false))) 4 (qv_assign rfl) ?_
  refine go_nil ?_
  change G _ _ _ _
  refine p_seq0 ?_
  refine p_plain0 (0 :: 1 :: 2 :: []) ?_
  refine go_q0 10 (.move (.tmp 0)) 205 (qv_move rfl) ?_
  refine go_s0 (some 11) (.call { callee := .value (.func 137), args := #[.tmp 10], argTypes := #[205] }) 205 ?_
  refine os_call (Nat.le_of_ble_eq_true rfl) en137 rfl .auto (ct_cloneT) ?_
  rintro v11 A11 ⟨b1, rfl, rfl⟩
  try dsimp only [List.nil_append, List.cons_append]
  refine go_q0 0 (.assign (.tmp 11)) 205 (qv_assign rfl) ?_
  refine go_nil ?_
  change G _ _ _ _
  refine p_weaken [0, 1, 4, 5] rfl ?_
  refine p_seq0 ?_
  refine p_seq0 ?_
  refine p_plain0 (0 :: 1 :: 2 :: []) ?_
  refine go_q0 12 (.move (.tmp 1)) 102 (qv_move rfl) ?_
  refine go_q0 13 (.call { callee := .builtin .len, args := #[.tmp 12], argTypes := #[102] }) 3 (qv_lenS un102 rfl) ?_
  refine go_q0 14 (.move (.const (.int .i64 0))) 3 (qv_move rfl) ?_
  refine go_nil ?_
  change G _ _ _ _
  refine p_block 0 (by kernel_rfl) ?_
  refine p_loopE (by kernel_rfl) (fun s m => ∃ (i : Nat) (l1 : List MEnt) (c1 : Nat), (i ≤ rs.length) ∧ (takeL l c (rs.take i) = some (l1, c1)) ∧ (MOk l1 c1) ∧ Ge s ⟨[], [(0, .map (some b1)), (1, .slice p rs.length cp), (12, .slice p rs.length cp), (13, .int .i64 rs.length), (14, .int .i64 i)], mapO b1 l1 c1 :: mapO b l c :: R⟩ ∧ m = rs.length + 1 - i) ?_ ?_
  · exact ⟨_, ⟨0, l, c, by omega, rfl, h, ⟨rfl, ⟨[0, 1, 12, 13, 14], rfl⟩, .auto⟩, rfl⟩⟩
  rintro s m ⟨i, l1, c1, hi, htk, hok, hs, rfl⟩
  refine ge_ok hs ?_
  refine p_seq0 ?_
  refine p_plain0 (0 :: []) ?_
  refine go_q0 15 (.binOp .lss 3 (.tmp 14) (.tmp 13) 3) 0 (qv_lss rfl rfl rfl) ?_
  refine go_nil ?_
  change G _ _ _ _
  refine p_seq0 ?_
  refine p_cond (.tmp 15) (by kernel_rfl) rfl (fun h15 => ?_) (fun h15 => ?_)
  rotate_left
  · replace h15 := kn h15
    refine p_exit 0 (by kernel_rfl) ?_
    change G _ _ _ _
    refine p_weaken [0, 1] rfl ?_
    refine p_seq0 ?_
    refine p_plain0 (0 :: 1 :: 2 :: 3 :: 4 :: 5 :: []) ?_
    refine go_q0 56 (.move (.tmp 0)) 205 (qv_move rfl) ?_
    refine go_q0 57 (.move (.tmp 1)) 102 (qv_move rfl) ?_
    refine go_q0 58 (.call { callee := .builtin .len, args := #[.tmp 57], argTypes := #[102] }) 3 (qv_lenS un102 rfl) ?_
    refine go_q0 59 (.binOp .gtr 3 (.tmp 58) (.const (.int .i64 0)) 3) 4 (qv_gtr rfl rfl rfl) ?_
    refine go_q0 4 (.assign (.tmp 56)) 205 (qv_assign rfl) ?_
    refine go_q0 5 (.assign (.tmp 59)) 4 (qv_assign rfl) ?_
    refine go_nil ?_
    change G _ _ _ _
    refine p_weaken [4, 5] rfl ?_
    refine p_ret0 ?_
    try dsimp only [thenQ, inBlockQ]
    try rw [if_pos rfl]
    have hie : i = rs.length := by omega
    subst hie
    rw [List.take_length] at htk
    cases rs with
    | nil =>
      refine ret_left (mapO b l c :: R) (.inr rfl) (.cons (res_tmp rfl) (.cons (res_tmp rfl) .nil)) .auto ?_
      exact .inr ⟨.inr rfl, _, rfl, rfl⟩
    | cons r t =>
      refine ret_left (mapO b1 l1 c1 :: mapO b l c :: R) (.inr rfl) (.cons (res_tmp rfl) (.cons (res_tmp rfl) .nil)) .auto ?_
      exact .inl ⟨b1, l1, c1, htk, List.cons_ne_nil _ _, hok, by simp [E.valOf], rfl⟩
  replace h15 := kn h15
  refine p_skip0 ?_
  change G _ _ _ _
  refine p_weaken [0, 1, 12, 13, 14] rfl ?_
  refine p_seq0 ?_
  refine p_block 1 (by kernel_rfl) ?_
  refine p_seq0 ?_
  obtain ⟨bb, oo, cu, ee, ff, hpe, mm, H⟩ := hl.at_ (i := i) (by omega)
  subst hpe
  obtain ⟨x, hx⟩ : ∃ x, rs[i]? = some x := ⟨_, List.getElem?_eq_getElem (by omega)⟩
  have hxw := hw x (List.mem_of_getElem? hx)
  have hsu := takeL_succ (l := l) (c := c) hx
  rw [htk] at hsu
  have hx1 : 0 ≤ x.packets := hxw.packets_.1
  have hx2 : 0 ≤ x.bytes := hxw.bytes_.1
  have hgw := hok.get x.key
  have hg1 : (getM l1 x.key).packets ≤ 18446744073709551615 := hgw.packets_.2
  have hg2 : (getM l1 x.key).bytes ≤ 18446744073709551615 := hgw.bytes_.2
  refine p_plain0 (0 :: 1 :: 2 :: 3 :: []) ?_
  refine go_q0 16 (.indexAddr 102 (.tmp 12) (.tmp 14)) 0 (qv_index un102 sz35 rfl rfl rfl (by omega)) ?_
  refine go_q0 17 (.load 35 (.tmp 16)) 35 (qv_load rfl (At.of_mem (by repeat first | exact mm | exact List.mem_append_left _ mm | apply List.mem_cons_of_mem | apply List.mem_append_right)) (ldv_els H hx (by decide) agg35 rfl)) ?_
  refine go_s0 (some 7) (.alloc 35) 0 ?_
  refine os_allocA rfl ze35 (fun b7 => ?_)
  refine go_s0 none (.store 35 (.tmp 7) (.tmp 17)) 0 ?_
  refine os_store rfl rfl sz35 rfl (one_Rec _) .auto (Nat.le_of_ble_eq_true rfl) (splw_Rec _ _ (siz_Rec _)) ?_
  refine go_nil ?_
  change G _ _ _ _
  refine p_weaken [0, 1, 7, 12, 13, 14] rfl ?_
  refine p_seq0 ?_
  refine p_draw (by kernel_rfl) mixed 8 10 _ (fun _ h => h) (by kernel_rfl) ?_
  refine gd_all (0 :: 1 :: 2 :: 3 :: 4 :: 5 :: 6 :: 7 :: []) _ rfl (by kernel_rfl) (by decide) (fun _ h => h) rfl ?_
  refine sq_q0 18 (.move (.tmp 0)) 205 (qv_move rfl) ?_
  refine sq_q0 19 (.fieldAddr 35 (.tmp 7) 0) 0 (qv_field rfl fd35_0) ?_
  refine sq_q0 20 (.load 27 (.tmp 19)) 27 (qv_load rfl .auto (ldv_agg agg27 (ext_Rec_0_37 _) (Nat.le_of_ble_eq_true rfl))) ?_
  refine sq_q0 21 (.lookup 205 (.tmp 18) (.tmp 20) false) 32 (qv_lookup rfl rfl .auto) ?_
  refine sq_q0 22 (.load 35 (.tmp 7)) 35 (qv_load rfl .auto (ldv_agg agg35 (extw_Rec _) (Nat.le_of_ble_eq_true rfl))) ?_
  refine sq_p (d := 23) (op := .call { callee := .value (.func 18), args := #[.tmp 22], argTypes := #[35] }) (ty := 32) (g := none) (by kernel_rfl) trivial (pv_call en18 rfl (pu_Total x)) ?_
  refine sq_a (d := 8) (t := 32) (ty := 0) (by kernel_rfl) ze32 rfl ?_
  refine sq_a (d := 9) (t := 32) (ty := 0) (by kernel_rfl) ze32 rfl ?_
  refine SeqK.nil (fun β => ?_)
  generalize β 6 = b8
  generalize β 7 = b9
  refine gd_tail [8, 9] rfl (by kernel_rfl) (by kernel_rfl) ?_
  refine go_s0 none (.store 32 (.tmp 8) (.tmp 21)) 0 ?_
  refine os_store rfl rfl sz32 rfl (one_Tot _) .auto (Nat.le_of_ble_eq_true rfl) (splw_Tot _ _ (siz_Tot _)) ?_
  refine go_s0 none (.store 32 (.tmp 9) (.tmp 23)) 0 ?_
  refine os_store rfl rfl sz32 rfl (one_Tot _) .auto (Nat.le_of_ble_eq_true rfl) (splw_Tot _ _ (siz_Tot _)) ?_
  refine go_nil ?_
  change G _ _ _ _
  refine p_weaken [0, 1, 7, 8, 9, 12, 13, 14] rfl ?_
  refine p_seq0 ?_
  refine p_seqK [0, 1, 7, 8, 9, 12, 13, 14] rfl (fun frk Mk s => ∃ (z : Bool), (z = !takeOk l1 x) ∧ Ge s ⟨[], (40, .bool z) :: frk, (b9, .cells (⟨x.packets, x.bytes⟩ : Tot).c 32 (0, 0)) :: (b8, .cells (getM l1 x.key).c 32 (0, 0)) :: (b7, .cells x.c 35 (0, 0)) :: mapO b1 l1 c1 :: mapO b l c :: R⟩) (by kernel_rfl) ?_ ?_
  · refine p_plain0 (0 :: 1 :: 2 :: 3 :: 4 :: 5 :: 6 :: 7 :: 8 :: 9 :: 10 :: 11 :: 12 :: 13 :: 14 :: 15 :: 16 :: []) ?_
    refine go_q0 24 (.load 35 (.tmp 7)) 35 (qv_load rfl .auto (ldv_agg agg35 (extw_Rec _) (Nat.le_of_ble_eq_true rfl))) ?_
    refine go_s0 (some 25) (.call { callee := .value (.func 21), args := #[.tmp 24], argTypes := #[35] }) 4 ?_
    refine os_callP rfl en21 rfl (pu_RecRight x) ?_
    refine go_q0 26 (.unOp .not 4 (.tmp 25)) 4 (qv_not rfl) ?_
    refine go_q0 27 (.move (.tmp 26)) 4 (qv_move rfl) ?_
    refine go_case (d := 27) rfl (fun g27 => ?_) (fun g27 => ?_)
    · replace g27 := kn g27
      refine go_n (d := 28) (op := .fieldAddr 32 (.tmp 9) 0) (ty := 0) (g := some (3, false)) (by kernel_rfl) ⟨27, _, by kernel_rfl, rfl, rfl⟩ rfl ?_
      refine go_n (d := 29) (op := .load 30 (.tmp 28)) (ty := 30) (g := some (3, false)) (by kernel_rfl) ⟨27, _, by kernel_rfl, rfl, rfl⟩ rfl ?_
      refine go_n (d := 30) (op := .fieldAddr 32 (.tmp 8) 0) (ty := 0) (g := some (3, false)) (by kernel_rfl) ⟨27, _, by kernel_rfl, rfl, rfl⟩ rfl ?_
      refine go_n (d := 31) (op := .load 30 (.tmp 30)) (ty := 30) (g := some (3, false)) (by kernel_rfl) ⟨27, _, by kernel_rfl, rfl, rfl⟩ rfl ?_
      refine go_n (d := 32) (op := .binOp .gtr 30 (.tmp 29) (.tmp 31) 30) (ty := 4) (g := some (3, false)) (by kernel_rfl) ⟨27, _, by kernel_rfl, rfl, rfl⟩ rfl ?_
      refine go_q0 33 (.pick (.tmp 27) (.const (.bool true)) (.tmp 32)) 4 (qv_pick_t rfl rfl) ?_
      refine go_q0 34 (.move (.tmp 33)) 4 (qv_move rfl) ?_
      refine go_n (d := 35) (op := .fieldAddr 32 (.tmp 9) 1) (ty := 0) (g := some (10, false)) (by kernel_rfl) ⟨34, _, by kernel_rfl, rfl, rfl⟩ rfl ?_
      refine go_n (d := 36) (op := .load 30 (.tmp 35)) (ty := 30) (g := some (10, false)) (by kernel_rfl) ⟨34, _, by kernel_rfl, rfl, rfl⟩ rfl ?_
      refine go_n (d := 37) (op := .fieldAddr 32 (.tmp 8) 1) (ty := 0) (g := some (10, false)) (by kernel_rfl) ⟨34, _, by kernel_rfl, rfl, rfl⟩ rfl ?_
      refine go_n (d := 38) (op := .load 30 (.tmp 37)) (ty := 30) (g := some (10, false)) (by kernel_rfl) ⟨34, _, by kernel_rfl, rfl, rfl⟩ rfl ?_
      refine go_n (d := 39) (op := .binOp .gtr 30 (.tmp 36) (.tmp 38) 30) (ty := 4) (g := some (10, false)) (by kernel_rfl) ⟨34, _, by kernel_rfl, rfl, rfl⟩ rfl ?_
      refine go_q0 40 (.pick (.tmp 34) (.const (.bool true)) (.tmp 39)) 4 (qv_pick_t rfl rfl) ?_
      refine go_nil ?_
      exact ⟨_, by unfold takeOk; (try dsimp only at *); first | (simp [*]; done) | (simp [*]; rw [Bool.eq_iff_iff]; simp; omega), ⟨rfl, ⟨[40, 0, 1, 7, 8, 9, 12, 13, 14], rfl⟩, .auto⟩⟩
    replace g27 := kn g27
    refine go_q (d := 28) (op := .fieldAddr 32 (.tmp 9) 0) (ty := 0) (g := some (3, false)) (by kernel_rfl) ⟨27, by kernel_rfl, rfl⟩ rfl (qv_field rfl fd32_0) ?_
    refine go_q (d := 29) (op := .load 30 (.tmp 28)) (ty := 30) (g := some (3, false)) (by kernel_rfl) ⟨27, by kernel_rfl, rfl⟩ rfl (qv_load rfl .auto (ldv_sca sc30 (get_Tot_0 _))) ?_
    refine go_q (d := 30) (op := .fieldAddr 32 (.tmp 8) 0) (ty := 0) (g := some (3, false)) (by kernel_rfl) ⟨27, by kernel_rfl, rfl⟩ rfl (qv_field rfl fd32_0) ?_
    refine go_q (d := 31) (op := .load 30 (.tmp 30)) (ty := 30) (g := some (3, false)) (by kernel_rfl) ⟨27, by kernel_rfl, rfl⟩ rfl (qv_load rfl .auto (ldv_sca sc30 (get_Tot_0 _))) ?_
    refine go_q (d := 32) (op := .binOp .gtr 30 (.tmp 29) (.tmp 31) 30) (ty := 4) (g := some (3, false)) (by kernel_rfl) ⟨27, by kernel_rfl, rfl⟩ rfl (qv_gtr rfl rfl rfl) ?_
    refine go_q0 33 (.pick (.tmp 27) (.const (.bool true)) (.tmp 32)) 4 (qv_pick_f rfl rfl) ?_
    refine go_q0 34 (.move (.tmp 33)) 4 (qv_move rfl) ?_
    refine go_case (d := 34) rfl (fun g34 => ?_) (fun g34 => ?_)
    · replace g34 := kn g34
      refine go_n (d := 35) (op := .fieldAddr 32 (.tmp 9) 1) (ty := 0) (g := some (10, false)) (by kernel_rfl) ⟨34, _, by kernel_rfl, rfl, rfl⟩ rfl ?_
      refine go_n (d := 36) (op := .load 30 (.tmp 35)) (ty := 30) (g := some (10, false)) (by kernel_rfl) ⟨34, _, by kernel_rfl, rfl, rfl⟩ rfl ?_
      refine go_n (d := 37) (op := .fieldAddr 32 (.tmp 8) 1) (ty := 0) (g := some (10, false)) (by kernel_rfl) ⟨34, _, by kernel_rfl, rfl, rfl⟩ rfl ?_
      refine go_n (d := 38) (op := .load 30 (.tmp 37)) (ty := 30) (g := some (10, false)) (by kernel_rfl) ⟨34, _, by kernel_rfl, rfl, rfl⟩ rfl ?_
      refine go_n (d := 39) (op := .binOp .gtr 30 (.tmp 36) (.tmp 38) 30) (ty := 4) (g := some (10, false)) (by kernel_rfl) ⟨34, _, by kernel_rfl, rfl, rfl⟩ rfl ?_
      refine go_q0 40 (.pick (.tmp 34) (.const (.bool true)) (.tmp 39)) 4 (qv_pick_t rfl rfl) ?_
      refine go_nil ?_
      exact ⟨_, by unfold takeOk; (try dsimp only at *); first | (simp [*]; done) | (simp [*]; rw [Bool.eq_iff_iff]; simp; omega), ⟨rfl, ⟨[40, 0, 1, 7, 8, 9, 12, 13, 14], rfl⟩, .auto⟩⟩
    replace g34 := kn g34
    refine go_q (d := 35) (op := .fieldAddr 32 (.tmp 9) 1) (ty := 0) (g := some (10, false)) (by kernel_rfl) ⟨34, by kernel_rfl, rfl⟩ rfl (qv_field rfl fd32_1) ?_
    refine go_q (d := 36) (op := .load 30 (.tmp 35)) (ty := 30) (g := some (10, false)) (by kernel_rfl) ⟨34, by kernel_rfl, rfl⟩ rfl (qv_load rfl .auto (ldv_sca sc30 (get_Tot_1 _))) ?_
    refine go_q (d := 37) (op := .fieldAddr 32 (.tmp 8) 1) (ty := 0) (g := some (10, false)) (by kernel_rfl) ⟨34, by kernel_rfl, rfl⟩ rfl (qv_field rfl fd32_1) ?_
    refine go_q (d := 38) (op := .load 30 (.tmp 37)) (ty := 30) (g := some (10, false)) (by kernel_rfl) ⟨34, by kernel_rfl, rfl⟩ rfl (qv_load rfl .auto (ldv_sca sc30 (get_Tot_1 _))) ?_
    refine go_q (d := 39) (op := .binOp .gtr 30 (.tmp 36) (.tmp 38) 30) (ty := 4) (g := some (10, false)) (by kernel_rfl) ⟨34, by kernel_rfl, rfl⟩ rfl (qv_gtr rfl rfl rfl) ?_
    refine go_q0 40 (.pick (.tmp 34) (.const (.bool true)) (.tmp 39)) 4 (qv_pick_f rfl rfl) ?_
    refine go_nil ?_
    exact ⟨_, by unfold takeOk; (try dsimp only at *); first | (simp [*]; done) | (simp [*]; rw [Bool.eq_iff_iff]; simp; omega), ⟨rfl, ⟨[40, 0, 1, 7, 8, 9, 12, 13, 14], rfl⟩, .auto⟩⟩
  rintro s ⟨z, hz, hs⟩
  refine ge_ok hs ?_
  refine p_cond (.tmp 40) (by kernel_rfl) rfl (fun h40 => ?_) (fun h40 => ?_)
  · replace h40 := kn h40
    have htk1 : takeOk l1 x = false := by rw [h40] at hz; simpa using hz.symm
    have hfail : takeL l c rs = none := takeL_fail (i := i + 1) (by rw [hsu]; show (if takeOk l1 x = true then _ else none) = none; rw [if_neg (by rw [htk1]; decide)])
    refine p_seq0 ?_
    refine p_plain0 (0 :: 1 :: []) ?_
    refine go_q0 4 (.assign (.const (.map none))) 205 (qv_assign rfl) ?_
    refine go_q0 5 (.assign (.const (.bool false))) 4 (qv_assign rfl) ?_
    refine go_nil ?_
    change G _ _ _ _
    refine p_weaken [0, 1, 4, 5, 7, 8, 9, 12, 13, 14] rfl ?_
    refine p_ret0 ?_
    try dsimp only [thenQ, inBlockQ]
    try rw [if_pos rfl]
    refine ret_left (mapO b l c :: R) (.inr rfl) (.cons (res_tmp rfl) (.cons (res_tmp rfl) .nil)) .auto ?_
    exact .inr ⟨.inl hfail, none, rfl, rfl⟩
  replace h40 := kn h40
  have htk1 : takeOk l1 x = true := by rw [h40] at hz; simpa using hz.symm
  have htk2 := htk1
  unfold takeOk at htk2
  simp only [Bool.and_eq_true, decide_eq_true_eq] at htk2
  obtain ⟨⟨_, hle1⟩, hle2⟩ := htk2
  have htn : takeL l c (rs.take (i + 1)) = some (putM l1 c1 x.key ⟨(getM l1 x.key).packets - x.packets, (getM l1 x.key).bytes - x.bytes⟩, clkM l1 c1 x.key) := by rw [hsu]; show (if takeOk l1 x = true then _ else none) = _; rw [if_pos htk1]
  have hon := hok.put hxw.key_ (take_wf hgw hx1 hx2 hle1 hle2)
  refine p_skip0 ?_
  change G _ _ _ _
  refine p_weaken [0, 1, 7, 8, 9, 12, 13, 14] rfl ?_
  refine p_plain0 (0 :: 1 :: 2 :: 3 :: 4 :: 5 :: 6 :: 7 :: 8 :: 9 :: 10 :: 11 :: 12 :: 13 :: 14 :: []) ?_
  refine go_q0 41 (.move (.tmp 0)) 205 (qv_move rfl) ?_
  refine go_q0 42 (.fieldAddr 35 (.tmp 7) 0) 0 (qv_field rfl fd35_0) ?_
  refine go_q0 43 (.load 27 (.tmp 42)) 27 (qv_load rfl .auto (ldv_agg agg27 (ext_Rec_0_37 _) (Nat.le_of_ble_eq_true rfl))) ?_
  refine go_q0 44 (.fieldAddr 32 (.tmp 8) 0) 0 (qv_field rfl fd32_0) ?_
  refine go_q0 45 (.load 30 (.tmp 44)) 30 (qv_load rfl .auto (ldv_sca sc30 (get_Tot_0 _))) ?_
  refine go_q0 46 (.fieldAddr 32 (.tmp 9) 0) 0 (qv_field rfl fd32_0) ?_
  refine go_q0 47 (.load 30 (.tmp 46)) 30 (qv_load rfl .auto (ldv_sca sc30 (get_Tot_0 _))) ?_
  refine go_q0 48 (.binOp .sub 30 (.tmp 45) (.tmp 47) 30) 30 (qv_sub rfl rfl (IntWalk.u64_in _ (by dsimp only; omega))) ?_
  refine go_q0 49 (.fieldAddr 32 (.tmp 8) 1) 0 (qv_field rfl fd32_1) ?_
  refine go_q0 50 (.load 30 (.tmp 49)) 30 (qv_load rfl .auto (ldv_sca sc30 (get_Tot_1 _))) ?_
  refine go_q0 51 (.fieldAddr 32 (.tmp 9) 1) 0 (qv_field rfl fd32_1) ?_
  refine go_q0 52 (.load 30 (.tmp 51)) 30 (qv_load rfl .auto (ldv_sca sc30 (get_Tot_1 _))) ?_
  refine go_q0 53 (.binOp .sub 30 (.tmp 50) (.tmp 52) 30) 30 (qv_sub rfl rfl (IntWalk.u64_in _ (by dsimp only; omega))) ?_
  refine go_q0 54 (.build 32 #[(0, .tmp 48), (1, .tmp 53)]) 32 (qv_build rfl (bld32_0_1 _ _)) ?_
  refine go_s0 none (.mapUpdate 205 (.tmp 41) (.tmp 43) (.tmp 54)) 0 ?_
  refine os_mapUpdateT rfl rfl rfl rfl Up.autoM ?_
  refine go_nil ?_
  change G _ _ _ _
  refine p_weaken [0, 1, 12, 13, 14] rfl ?_
  refine p_plain0 (0 :: 1 :: []) ?_
  refine go_q0 55 (.binOp .add 3 (.tmp 14) (.const (.int .i64 1)) 3) 3 (qv_add rfl rfl (by first | exact IntWalk.i64_in _ (by omega) | exact IntWalk.i64_in _ (by dsimp only; omega) | rfl)) ?_
  refine go_q0 14 (.move (.tmp 55)) 3 (qv_move rfl) ?_
  refine go_nil ?_
  exact ⟨_, ⟨i + 1, _, _, by omega, htn, hon, ⟨rfl, ⟨[0, 1, 12, 13, 14], rfl⟩, .auto⟩, rfl⟩, by omega⟩
end Go.Proofs.Ytobmcpoejhhemaa
