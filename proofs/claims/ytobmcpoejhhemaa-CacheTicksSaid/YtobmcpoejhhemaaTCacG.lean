import Derived.Test.YtobmcpoejhhemaaTCacF
namespace Go.Proofs.Ytobmcpoejhhemaa
open Go.E

section
variable {bd : Bnd} {n : Nat} {L : List Slot} {fl : List Rec}
theorem CacI.inj (h : CacI bd n L fl) {i j : Nat} {a b : Rec} (ha : fl[i]? = some a) (hb : fl[j]? = some b) (hk : a.key = b.key) : i = j := by
  have h1 := keysOf_at ha
  have h2 := keysOf_at hb
  rw [hk] at h1
  exact h.kp.inj i j b.key h1 h2
theorem CacI.mem_out (h : CacI bd n L fl) {i : Nat} {r : Rec} (hi : fl[i]? = some r) (x : Rec) : x ∈ swapOut fl i ↔ x ∈ fl ∧ x.key ≠ r.key := by
  have hil := (List.getElem?_eq_some_iff.1 hi).1
  constructor
  · intro hx
    obtain ⟨q, hq, rfl⟩ := List.getElem_of_mem hx
    obtain ⟨q', h1, h2, h3, _⟩ := swapOut_of hil q _ (List.getElem?_eq_getElem hq)
    exact ⟨List.mem_of_getElem? h3, fun e => h2 (h.inj h3 hi e)⟩
  · rintro ⟨hx, hne⟩
    obtain ⟨q, hq, rfl⟩ := List.getElem_of_mem hx
    exact swapOut_mem hil q (fun e => hne (by subst e; rw [List.getElem?_eq_getElem hq] at hi; rw [Option.some.inj hi])) _ (List.getElem?_eq_getElem hq)
end
/-- What is told of flows that end. -/
def told (re : Rec → Int) (l : List Rec) : List Rec := l.map fun r => { r with reason := re r }

theorem not_taken {l : List Rec} (hd : l.Pairwise fun a b => a.key ≠ b.key) {i : Nat} {x : Rec} (hx : l[i]? = some x) : x.key ∉ keysOf (l.take i) := by
  intro hm
  obtain ⟨y, hy, hk⟩ := List.mem_map.1 hm
  obtain ⟨q, hq, rfl⟩ := List.getElem_of_mem hy
  have hqi : q < i := by simp at hq; omega
  obtain ⟨hil, rfl⟩ := List.getElem?_eq_some_iff.1 hx
  rw [List.pairwise_iff_getElem] at hd
  refine hd q i (by omega) hil hqi ?_
  rw [← hk]; simp
theorem ends_mem {fl fl1 fl2 l : List Rec} {i : Nat} {x : Rec} (hmem : ∀ y, y ∈ fl1 ↔ y ∈ fl ∧ y.key ∉ keysOf (l.take i)) (hmo : ∀ y, y ∈ fl2 ↔ y ∈ fl1 ∧ y.key ≠ x.key) (hx : l[i]? = some x) : ∀ y, y ∈ fl2 ↔ y ∈ fl ∧ y.key ∉ keysOf (l.take (i + 1)) := by
  intro y
  rw [hmo, hmem, List.take_add_one, hx]
  unfold keysOf
  simp only [Option.toList_some, List.map_append, List.map_cons, List.map_nil, List.mem_append, List.mem_singleton, not_or]
  exact ⟨fun ⟨⟨a, b⟩, c⟩ => ⟨a, b, c⟩, fun ⟨a, b, c⟩ => ⟨⟨a, b⟩, c⟩⟩
theorem ct_ends {bc : Nat} {tick : Int} {bd : Bnd} {fl l : List Rec} {M Ag Al : Mem} {g : FuncId} {cb : List Value} {p : Option Addr} {c : Nat} (re : Rec → Int) (hg : Ent Try.prog g) (hM : CacM bc tick bd fl M) (hl : Lst eRec p l Al) (hm : l.length ≤ 4096)
    (hre : ∀ r ∈ l, ∀ (bt : Nat) (pf : Option Addr) (nf cf : Nat), Ct Try.prog g ([Value.agg r.c] ++ cb).toArray (cacO bc tick bd bt pf nf cf :: Ag) (fun v M' => v = .int .u8 (re r) ∧ M' = cacO bc tick bd bt pf nf cf :: Ag))
    (hin : ∀ r ∈ l, r ∈ fl) (hd : l.Pairwise fun a b => a.key ≠ b.key) :
    Ct Try.prog 107 [.pointer (some ⟨bc, 0, none⟩), .func (.func g) #[] cb.toArray, .slice p l.length c].toArray (M ++ (Ag ++ Al)) (fun v M' => ∃ fl' q cq B M1, (∀ x, x ∈ fl' ↔ x ∈ fl ∧ x.key ∉ keysOf l) ∧ v = .slice q (told re l).length cq ∧ OwnL eRec 35 q cq (told re l) B ∧ CacM bc tick bd fl' M1 ∧ M' = B ++ (M1 ++ (Ag ++ Al))) := by
  refine ct_body (rv := [.tmp 6]) [(0, _), (1, _), (2, _)] Try.func107 (by kernel_rfl) Try.ntmps107 Try.results107 rfl rfl (fun w0 => ?_)
  refine p_seq0 ?_
  refine p_plain0 (0 :: []) ?_
  refine go_q0 6 (.assign (.const (.slice none 0 0))) 102 (qv_assign rfl) ?_
  refine go_nil ?_
  change G _ _ _ _
  refine p_seq0 ?_
  refine p_seq0 ?_
  refine p_plain0 (0 :: 1 :: 2 :: []) ?_
  refine go_q0 9 (.move (.tmp 2)) 102 (qv_move rfl) ?_
  refine go_q0 10 (.call { callee := .builtin .len, args := #[.tmp 9], argTypes := #[102] }) 3 (qv_lenS un102 rfl) ?_
  refine go_q0 11 (.move (.const (.int .i64 0))) 3 (qv_move rfl) ?_
  refine go_nil ?_
  change G _ _ _ _
  refine p_weaken [0, 1, 6, 9, 10, 11] rfl ?_
  refine p_block 0 (by kernel_rfl) ?_
  refine p_loopE (by kernel_rfl) (fun s m => ∃ (i : Nat) (fl1 : List Rec) (out : List Rec) (q : Option Addr) (cq : Nat) (B : Mem) (M1 : Mem), (i ≤ l.length) ∧ (∀ x, x ∈ fl1 ↔ x ∈ fl ∧ x.key ∉ keysOf (l.take i)) ∧ (out = told re (l.take i)) ∧ (OwnL eRec 35 q cq out B) ∧ (CacM bc tick bd fl1 M1) ∧ Ge s ⟨[], [(0, .pointer (some ⟨bc, 0, none⟩)), (1, .func (.func g) #[] cb.toArray), (6, .slice q out.length cq), (9, .slice p l.length c), (10, .int .i64 l.length), (11, .int .i64 i)], B ++ (M1 ++ (Ag ++ Al))⟩ ∧ m = l.length + 1 - i) ?_ ?_
  · exact ⟨_, ⟨0, fl, [], none, 0, [], M, by omega, fun x => by simp [keysOf], rfl, OwnL.nil, hM, ⟨rfl, ⟨[0, 1, 6, 9, 10, 11], rfl⟩, .auto⟩, rfl⟩⟩
  rintro s m ⟨i, fl1, out, q, cq, B, M1, hi, hmem, hout, hB, hM1, hs, rfl⟩
  refine ge_ok hs ?_
  refine p_seq0 ?_
  refine p_plain0 (0 :: []) ?_
  refine go_q0 12 (.binOp .lss 3 (.tmp 11) (.tmp 10) 3) 0 (qv_lss rfl rfl rfl) ?_
  refine go_nil ?_
  change G _ _ _ _
  refine p_seq0 ?_
  refine p_cond (.tmp 12) (by kernel_rfl) rfl (fun h12 => ?_) (fun h12 => ?_)
  rotate_left
  · replace h12 := kn h12
    refine p_exit 0 (by kernel_rfl) ?_
    change G _ _ _ _
    refine p_weaken [6] rfl ?_
    refine p_seq0 ?_
    refine p_plain0 (0 :: 1 :: []) ?_
    refine go_q0 26 (.move (.tmp 6)) 102 (qv_move rfl) ?_
    refine go_q0 6 (.assign (.tmp 26)) 102 (qv_assign rfl) ?_
    refine go_nil ?_
    change G _ _ _ _
    refine p_weaken [6] rfl ?_
    refine p_ret0 ?_
    try dsimp only [thenQ, inBlockQ]
    try rw [if_pos rfl]
    have hie : i = l.length := by omega
    subst hie
    rw [List.take_length] at hmem hout
    subst hout
    refine ret_left (B ++ (M1 ++ (Ag ++ Al))) (.inr rfl) (.cons (res_tmp rfl) .nil) .auto ?_
    exact ⟨fl1, q, cq, B, M1, hmem, rfl, hB, hM1, rfl⟩
  replace h12 := kn h12
  refine p_skip0 ?_
  change G _ _ _ _
  refine p_weaken [0, 1, 6, 9, 10, 11] rfl ?_
  refine p_seq0 ?_
  refine p_block 1 (by kernel_rfl) ?_
  refine p_seq0 ?_
  obtain ⟨bl, ol, cl, el, fe, hpe, ml, Hl⟩ := hl.at_ (i := i) (by omega)
  subst hpe
  obtain ⟨x, hx⟩ : ∃ x, l[i]? = some x := ⟨_, List.getElem?_eq_getElem (by omega)⟩
  have hxl := List.mem_of_getElem? hx
  have hx1 : x ∈ fl1 := (hmem x).2 ⟨hin x hxl, not_taken hd hx⟩
  obtain ⟨j, hjl, hje⟩ := List.getElem_of_mem hx1
  have hj : fl1[j]? = some x := by rw [List.getElem?_eq_getElem hjl, hje]
  have hol : out.length = i := by rw [hout]; unfold told; simp; omega
  have hE := ct_end (re x) hM1 hj
  obtain ⟨bt, bs, n, L, pf, cf, Af, hI, hO, rfl⟩ := hM1
  have hmo := hI.mem_out hj
  refine p_plain0 (0 :: 1 :: 2 :: 3 :: []) ?_
  refine go_q0 13 (.indexAddr 102 (.tmp 9) (.tmp 11)) 0 (qv_index un102 sz35 rfl rfl rfl (by omega)) ?_
  refine go_q0 14 (.load 35 (.tmp 13)) 35 (qv_load rfl (by repeat first | exact At.of_mem (List.mem_append_right _ (List.mem_append_right _ (List.mem_append_right _ ml))) | apply At.next) (ldv_els Hl hx (by decide) agg35 rfl)) ?_
  refine go_s0 (some 8) (.alloc 35) 0 ?_
  refine os_allocA rfl ze35 (fun b8 => ?_)
  refine go_s0 none (.store 35 (.tmp 8) (.tmp 14)) 0 ?_
  refine os_store rfl rfl sz35 rfl (one_Rec _) .auto (Nat.le_of_ble_eq_true rfl) (splw_Rec _ _ (siz_Rec _)) ?_
  refine go_nil ?_
  change G _ _ _ _
  refine p_weaken [0, 1, 6, 8, 9, 10, 11] rfl ?_
  refine p_draw (by kernel_rfl) mixed 10 11 [(b8, .cells x.c 35 (0, 0))] (by first | (simp; done) | (intro q hq; simp [hq]; done)) (by kernel_rfl) ?_
  refine gd_q (i := 0) (d := 15) (op := .move (.tmp 6)) (ty := 102) (g := none) (by kernel_rfl) trivial rfl (by kernel_rfl) (by kernel_rfl) (by kernel_rfl) (by kernel_rfl) (qv_move rfl) ?_
  refine gd_q (i := 1) (d := 16) (op := .move (.tmp 0)) (ty := 101) (g := none) (by kernel_rfl) trivial rfl (by kernel_rfl) (by kernel_rfl) (by kernel_rfl) (by kernel_rfl) (qv_move rfl) ?_
  refine gd_q (i := 2) (d := 17) (op := .fieldAddr 35 (.tmp 8) 0) (ty := 0) (g := none) (by kernel_rfl) trivial rfl (by kernel_rfl) (by kernel_rfl) (by kernel_rfl) (by kernel_rfl) (qv_field rfl fd35_0) ?_
  refine gd_q (i := 3) (d := 18) (op := .load 27 (.tmp 17)) (ty := 27) (g := none) (by kernel_rfl) trivial rfl (by kernel_rfl) (by kernel_rfl) (by kernel_rfl) (by kernel_rfl) (qv_load rfl .auto (ldv_agg agg27 (ext_Rec_0_37 _) (Nat.le_of_ble_eq_true rfl))) ?_
  refine gd_q (i := 4) (d := 19) (op := .move (.tmp 1)) (ty := 188) (g := none) (by kernel_rfl) trivial rfl (by kernel_rfl) (by kernel_rfl) (by kernel_rfl) (by kernel_rfl) (qv_move rfl) ?_
  refine gd_q (i := 5) (d := 20) (op := .load 35 (.tmp 8)) (ty := 35) (g := none) (by kernel_rfl) trivial rfl (by kernel_rfl) (by kernel_rfl) (by kernel_rfl) (by kernel_rfl) (qv_load rfl .auto (ldv_agg agg35 (extw_Rec _) (Nat.le_of_ble_eq_true rfl))) ?_
  refine gd_one (i := 6) (d := some 21) (op := .call { callee := .value (.tmp 19), args := #[.tmp 20], argTypes := #[35] }) (ty := 5) (g := none) (by kernel_rfl) trivial rfl (by kernel_rfl) ?_
  refine os_callV (Nat.le_of_ble_eq_true rfl) rfl hg rfl rfl (Sel.skip (Sel.skipA (Sel.cons .here (Sel.skip (Sel.skip (Sel.skipA Sel.app)))))) (hre x hxl bt pf fl1.length cf) ?_
  rintro v21 A21 ⟨rfl, rfl⟩
  try dsimp only [List.nil_append, List.cons_append]
  try dsimp only [List.nil_append, List.cons_append]
  refine ⟨fun _ h => by first | exact h | (cases h; done) | exact .tail _ h | exact .tail _ (.tail _ h) | exact List.mem_append_right _ (List.mem_append_right _ h) | exact List.mem_append_right _ h | (simp only [List.mem_cons, List.not_mem_nil, or_false] at h ⊢; first | exact .inl h | exact .inr (.inl h) | exact .inr (.inr (.inl h)) | exact .inr (.inr (.inr (.inl h))) | (subst h; simp; done) | grind), ?_⟩
  refine gd_one (i := 7) (d := some 22) (op := .call { callee := .value (.func 100), args := #[.tmp 16, .tmp 18, .tmp 21], argTypes := #[101, 27, 5] }) (ty := 35) (g := none) (by kernel_rfl) trivial rfl (by kernel_rfl) ?_
  refine os_call (Nat.le_of_ble_eq_true rfl) en100 rfl (by exact .auto) (hE) ?_
  rintro v22 A22 ⟨rfl, hM2⟩
  try dsimp only [List.nil_append, List.cons_append]
  refine ⟨fun _ h => by first | exact h | (cases h; done) | exact .tail _ h | exact .tail _ (.tail _ h) | exact List.mem_append_right _ (List.mem_append_right _ h) | exact List.mem_append_right _ h | (simp only [List.mem_cons, List.not_mem_nil, or_false] at h ⊢; first | exact .inl h | exact .inr (.inl h) | exact .inr (.inr (.inl h)) | exact .inr (.inr (.inr (.inl h))) | (subst h; simp; done) | grind), ?_⟩
  refine gd_one (i := 8) (d := some 23) (op := .buildSlice 102 1 #[(0, .tmp 22)]) (ty := 102) (g := none) (by kernel_rfl) trivial rfl (by kernel_rfl) ?_
  refine os_buildSlice (Nat.le_of_ble_eq_true rfl) rfl (bls102_1 _) (fun b23 => ?_)
  refine ⟨fun _ h => by first | exact h | (cases h; done) | exact .tail _ h | exact .tail _ (.tail _ h) | exact List.mem_append_right _ (List.mem_append_right _ h) | exact List.mem_append_right _ h | (simp only [List.mem_cons, List.not_mem_nil, or_false] at h ⊢; first | exact .inl h | exact .inr (.inl h) | exact .inr (.inr (.inl h)) | exact .inr (.inr (.inr (.inl h))) | (subst h; simp; done) | grind), ?_⟩
  refine gd_one (i := 9) (d := some 24) (op := .call { callee := .builtin .append, args := #[.tmp 15, .tmp 23], argTypes := #[102, 102] }) (ty := 102) (g := none) (by kernel_rfl) trivial rfl (by kernel_rfl) ?_
  refine os_appendK (E := eRec) (l := out) (l2 := [{ x with reason := re x }]) rfl el102 rfl rfl rfl rfl (hB) .auto .auto (Go.E.holds_one _) (one_Rec) (by simp [maxLen] <;> omega) (by simp <;> omega) (fun p24 c24 A24 h24 => ?_)
  have hout2 : out ++ [{ x with reason := re x }] = told re (l.take (i + 1)) := by rw [hout, List.take_add_one, hx]; simp [told]
  have hmem2 := ends_mem hmem hmo hx
  refine ⟨fun _ h => by first | exact h | (cases h; done) | exact .tail _ h | exact .tail _ (.tail _ h) | exact List.mem_append_right _ (List.mem_append_right _ h) | exact List.mem_append_right _ h | (simp only [List.mem_cons, List.not_mem_nil, or_false] at h ⊢; first | exact .inl h | exact .inr (.inl h) | exact .inr (.inr (.inl h)) | exact .inr (.inr (.inr (.inl h))) | (subst h; simp; done) | grind), ?_⟩
  refine gd_tail [10] rfl (by kernel_rfl) (by kernel_rfl) ?_
  refine go_q0 6 (.assign (.tmp 24)) 102 (qv_assign rfl) ?_
  refine go_nil ?_
  change G _ _ _ _
  refine p_weaken [0, 1, 6, 9, 10, 11] rfl ?_
  refine p_plain0 (0 :: 1 :: []) ?_
  refine go_q0 25 (.binOp .add 3 (.tmp 11) (.const (.int .i64 1)) 3) 3 (qv_add rfl rfl (by first | exact IntWalk.i64_in _ (by omega) | exact IntWalk.i64_in _ (by dsimp only; omega) | rfl)) ?_
  refine go_q0 11 (.move (.tmp 25)) 3 (qv_move rfl) ?_
  refine go_nil ?_
  exact ⟨_, ⟨i + 1, _, _, _, _, _, _, by omega, hmem2, hout2, h24, hM2, ⟨rfl, ⟨[0, 1, 6, 9, 10, 11], rfl⟩, .auto⟩, rfl⟩, by omega⟩
end Go.Proofs.Ytobmcpoejhhemaa
