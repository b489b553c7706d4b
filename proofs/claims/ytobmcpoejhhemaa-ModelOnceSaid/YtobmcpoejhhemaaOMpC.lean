import Derived.Test.YtobmcpoejhhemaaOMpB
namespace Go.Proofs.Ytobmcpoejhhemaa
open Go.E

def MS.fwd (S : MS) (k : Key) (t : Tot) : MS := { S with fw := putM S.fw S.fc k ((getM S.fw k).plus t), fc := clkM S.fw S.fc k, ca := putM S.ca S.cc k ((getM S.ca k).plus t), cc := clkM S.ca S.cc k }
theorem MI.fwd {S : MS} (h : MI S) {k : Key} {t : Tot} (hk : k.Wf) (ht : t.Wf) : MI (S.fwd k t) := { h with f := h.f.add hk ht, c := h.c.add hk ht }
theorem ct_Mforward {bm : Nat} {S : MS} {M : Mem} {nt : NoteR} (hM : ModM bm S M) (hw : nt.Wf) :
    Ct Try.prog 125 [.pointer (some ⟨bm, 0, none⟩), .agg nt.x.c].toArray M (fun v M' => v = .bool nt.key.right ∧ ((nt.key.right = true ∧ ModM bm (S.fwd nt.key nt.total) M') ∨ (nt.key.right = false ∧ M' = M))) := by
  obtain ⟨bf, bc, bl, pe, ce, pl, cl, Ae, Al, Ar, hI, hE, hL, hA, rfl⟩ := hM
  refine ct_body (rv := [.tmp 4]) [(0, _), (1, _)] Try.func125 (by kernel_rfl) Try.ntmps125 Try.results125 rfl rfl (fun w0 => ?_)
  refine p_seq0 ?_
  refine p_plain0 (0 :: 1 :: []) ?_
  refine go_s0 (some 3) (.box 135 (.tmp 1)) 0 ?_
  refine os_boxA rfl rfl (fun b3 => ?_)
  refine go_q0 4 (.assign (.const (.bool false))) 4 (qv_assign rfl) ?_
  refine go_nil ?_
  change G _ _ _ _
  refine p_weaken [0, 3, 4] rfl ?_
  refine p_seq0 ?_
  refine p_seq0 ?_
  refine p_plain0 (0 :: 1 :: 2 :: 3 :: []) ?_
  refine go_q0 5 (.fieldAddr 135 (.tmp 3) 1) 0 (qv_field rfl fd135_1) ?_
  refine go_q0 6 (.load 27 (.tmp 5)) 27 (qv_load rfl .auto (ldv_agg agg27 (ext_Note_1_37 _) (Nat.le_of_ble_eq_true rfl))) ?_
  refine go_s0 (some 7) (.call { callee := .value (.func 43), args := #[.tmp 6], argTypes := #[27] }) 4 ?_
  refine os_callP rfl en43 rfl (pu_KeyRight nt.key) ?_
  refine go_q0 8 (.unOp .not 4 (.tmp 7)) 4 (qv_not rfl) ?_
  refine go_nil ?_
  change G _ _ _ _
  refine p_weaken [0, 3, 4, 8] rfl ?_
  refine p_cond (.tmp 8) (by kernel_rfl) rfl (fun h8 => ?_) (fun h8 => ?_)
  · replace h8 := kn h8
    refine p_seq0 ?_
    refine p_plain0 (0 :: []) ?_
    refine go_q0 4 (.assign (.const (.bool false))) 4 (qv_assign rfl) ?_
    refine go_nil ?_
    change G _ _ _ _
    refine p_weaken [0, 3, 4] rfl ?_
    refine p_ret0 ?_
    try dsimp only [thenQ, inBlockQ]
    try rw [if_pos rfl]
    refine ret_left (modO bm bf bc bl pe S.es.length ce pl S.line.length cl S.first S.boot :: mapO bf S.fw S.fc :: mapO bc S.ca S.cc :: mapO bl S.lo S.lc :: (Ae ++ (Al ++ Ar))) (.inr rfl) (.cons (res_tmp rfl) .nil) .auto ?_
    exact ⟨by rw [h8]; rfl, .inr ⟨h8, rfl⟩⟩
  replace h8 := kn h8
  refine p_skip0 ?_
  change G _ _ _ _
  refine p_weaken [0, 3, 4] rfl ?_
  refine p_seq0 ?_
  refine p_draw (by kernel_rfl) mixed 8 9 _ (fun _ h => h) (by kernel_rfl) ?_
  refine gd_all (0 :: 1 :: 2 :: 3 :: 4 :: 5 :: 6 :: 7 :: []) _ rfl (by kernel_rfl) (by decide) (fun _ h => h) rfl ?_
  refine sq_q0 9 (.move (.tmp 0)) 131 (qv_move rfl) ?_
  refine sq_q0 10 (.nilCheck (.tmp 9)) 0 (qv_nilCheck rfl) ?_
  refine sq_q0 11 (.fieldAddr 207 (.tmp 10) 0) 0 (qv_field rfl fd207_0) ?_
  refine sq_q0 12 (.load 205 (.tmp 11)) 205 (qv_load rfl .auto (ldv_sca sc205 (get_Mod_0 _))) ?_
  refine sq_q0 13 (.fieldAddr 135 (.tmp 3) 1) 0 (qv_field rfl fd135_1) ?_
  refine sq_q0 14 (.load 27 (.tmp 13)) 27 (qv_load rfl .auto (ldv_agg agg27 (ext_Note_1_37 _) (Nat.le_of_ble_eq_true rfl))) ?_
  refine sq_q0 15 (.fieldAddr 135 (.tmp 3) 2) 0 (qv_field rfl fd135_2) ?_
  refine sq_q0 16 (.load 32 (.tmp 15)) 32 (qv_load rfl .auto (ldv_agg agg32 (ext_Note_38_2 _) (Nat.le_of_ble_eq_true rfl))) ?_
  refine SeqK.nil (fun β => ?_)
  refine gd_tail [8] rfl (by kernel_rfl) (by kernel_rfl) ?_
  refine go_s0 (some 17) (.call { callee := .value (.func 162), args := #[.tmp 12, .tmp 14, .tmp 16], argTypes := #[205, 27, 32] }) 0 ?_
  refine os_call (Nat.le_of_ble_eq_true rfl) en162 rfl .auto (ct_addT (k := nt.key) hI.f hw.total_) ?_
  rintro v17 A17 ⟨rfl, rfl⟩
  try dsimp only [List.nil_append, List.cons_append]
  refine go_nil ?_
  change G _ _ _ _
  refine p_weaken [0, 3, 4] rfl ?_
  refine p_seq0 ?_
  refine p_draw (by kernel_rfl) mixed 8 9 _ (fun _ h => h) (by kernel_rfl) ?_
  refine gd_all (0 :: 1 :: 2 :: 3 :: 4 :: 5 :: 6 :: 7 :: []) _ rfl (by kernel_rfl) (by decide) (fun _ h => h) rfl ?_
  refine sq_q0 18 (.move (.tmp 0)) 131 (qv_move rfl) ?_
  refine sq_q0 19 (.nilCheck (.tmp 18)) 0 (qv_nilCheck rfl) ?_
  refine sq_q0 20 (.fieldAddr 207 (.tmp 19) 1) 0 (qv_field rfl fd207_1) ?_
  refine sq_q0 21 (.load 205 (.tmp 20)) 205 (qv_load rfl .auto (ldv_sca sc205 (get_Mod_1 _))) ?_
  refine sq_q0 22 (.fieldAddr 135 (.tmp 3) 1) 0 (qv_field rfl fd135_1) ?_
  refine sq_q0 23 (.load 27 (.tmp 22)) 27 (qv_load rfl .auto (ldv_agg agg27 (ext_Note_1_37 _) (Nat.le_of_ble_eq_true rfl))) ?_
  refine sq_q0 24 (.fieldAddr 135 (.tmp 3) 2) 0 (qv_field rfl fd135_2) ?_
  refine sq_q0 25 (.load 32 (.tmp 24)) 32 (qv_load rfl .auto (ldv_agg agg32 (ext_Note_38_2 _) (Nat.le_of_ble_eq_true rfl))) ?_
  refine SeqK.nil (fun β => ?_)
  refine gd_tail [8] rfl (by kernel_rfl) (by kernel_rfl) ?_
  refine go_s0 (some 26) (.call { callee := .value (.func 162), args := #[.tmp 21, .tmp 23, .tmp 25], argTypes := #[205, 27, 32] }) 0 ?_
  refine os_call (Nat.le_of_ble_eq_true rfl) en162 rfl .auto (ct_addT (k := nt.key) hI.c hw.total_) ?_
  rintro v26 A26 ⟨rfl, rfl⟩
  try dsimp only [List.nil_append, List.cons_append]
  refine go_nil ?_
  change G _ _ _ _
  refine p_weaken [4] rfl ?_
  refine p_seq0 ?_
  refine p_plain0 (0 :: []) ?_
  refine go_q0 4 (.assign (.const (.bool true))) 4 (qv_assign rfl) ?_
  refine go_nil ?_
  change G _ _ _ _
  refine p_ret0 ?_
  try dsimp only [thenQ, inBlockQ]
  try rw [if_pos rfl]
  refine ret_left (modO bm bf bc bl pe S.es.length ce pl S.line.length cl S.first S.boot :: mapO bf (putM S.fw S.fc nt.key ((getM S.fw nt.key).plus nt.x.total)) (clkM S.fw S.fc nt.key) :: mapO bc (putM S.ca S.cc nt.key ((getM S.ca nt.key).plus nt.x.total)) (clkM S.ca S.cc nt.key) :: mapO bl S.lo S.lc :: (Ae ++ (Al ++ Ar))) (.inr rfl) (.cons (res_tmp rfl) .nil) .auto ?_
  exact ⟨by rw [h8]; rfl, .inl ⟨h8, bf, bc, bl, pe, ce, pl, cl, Ae, Al, Ar, hI.fwd hw.key_ hw.total_, hE, hL, hA, rfl⟩⟩
/-- What is told of a taking. -/
theorem ct_takeB {b c cp : Nat} {l : List MEnt} {p : Option Addr} {rs : List Rec} {R : Mem} (h : MOk l c) (hl : Lst eRec p rs R) (hw : ∀ r ∈ rs, r.Wf) (hm : rs.length ≤ 1000000) :
    Ct Try.prog 163 [.map (some b), .slice p rs.length cp].toArray (mapO b l c :: R) (fun v M' => ∃ (o : Option Nat) (ok : Bool) (B : Mem), v = .tuple #[.map o, .bool ok] ∧ M' = B ++ (mapO b l c :: R) ∧ ok = ((takeL l c rs).isSome && !rs.isEmpty) ∧ (ok = true → ∃ b' l' c', o = some b' ∧ takeL l c rs = some (l', c') ∧ MOk l' c' ∧ B = [mapO b' l' c'])) := by
  refine (ct_takeT h hl hw hm).mono ?_
  rintro v M' (⟨b', l', c', h1, h2, h3, h4, h5⟩ | ⟨h1, o, h2, h3⟩)
  · refine ⟨some b', true, [mapO b' l' c'], h4, h5, ?_, fun _ => ⟨b', l', c', rfl, h1, h3, rfl⟩⟩
    rw [h1]
    cases rs with
    | nil => exact absurd rfl h2
    | cons => rfl
  · refine ⟨o, false, [], h2, h3, ?_, fun h => by cases h⟩
    rcases h1 with h1 | h1
    · rw [h1]; rfl
    · rw [h1]; simp
def tkOk (S : MS) (rs : List Rec) : Bool := (takeL S.ca S.cc rs).isSome && !rs.isEmpty
def packOk (S : MS) (nt : NoteR) : Bool := tkOk S nt.recs && !decide (S.boot = 0) && decide (nt.epoch = S.boot) && decide (nt.n = (S.line.length : Int))
def NoteR.ent (nt : NoteR) (p : Option Addr) (c : Nat) : EntR := ⟨nt.epoch, nt.n, p, c, nt.recs, true, false, false⟩
def MS.packed (S : MS) (nt : NoteR) (l : List MEnt) (c : Nat) (p : Option Addr) (cap : Nat) : MS := { S with ca := l, cc := c, line := S.line ++ [S.es.length], es := S.es ++ [nt.ent p cap] }
theorem MI.packed {S : MS} (h : MI S) {nt : NoteR} (hw : nt.Wf) {l : List MEnt} {c : Nat} (hl : MOk l c) (p : Option Addr) (cap : Nat) (hn : S.es.length < 1000) : MI (S.packed nt l c p cap) :=
  { h with
    c := hl
    ew := fun e he => by
      rcases List.mem_append.1 he with h1 | h1
      · exact h.ew e h1
      · rw [List.mem_singleton.1 h1]; exact ⟨hw.epoch_, hw.n_, hw.recs_, hw.few_⟩
    en := by show (S.es ++ [_]).length ≤ 1000; rw [List.length_append]; simp; omega
    ln := by show (S.line ++ [_]).length ≤ (S.es ++ [_]).length; have := h.ln; simp; omega
    li := fun i hi => by
      show i < (S.es ++ [_]).length
      rw [List.length_append]
      rcases List.mem_append.1 hi with h1 | h1
      · have := h.li i h1; simp; omega
      · rw [List.mem_singleton.1 h1]; simp }
theorem lnI_snoc (l : List Nat) (n : Nat) : lnI l ++ [(n : Int)] = lnI (l ++ [n]) := by simp [lnI]
theorem ct_Mpack {bm : Nat} {S : MS} {M R : Mem} {nt : NoteR} (hM : ModM bm S M) (hl : Lst eRec nt.p nt.recs R) (hw : nt.Wf) (hn : S.es.length < 1000) :
    Ct Try.prog 126 [.pointer (some ⟨bm, 0, none⟩), .agg nt.x.c].toArray (M ++ R) (fun v M' => v = .bool (packOk S nt) ∧ ∃ N, M' = N ++ R ∧ ((packOk S nt = true ∧ ∃ l c p cap, takeL S.ca S.cc nt.recs = some (l, c) ∧ ModM bm (S.packed nt l c p cap) N) ∨ (packOk S nt = false ∧ N = M))) := by
  obtain ⟨bf, bc, bl, pe, ce, pl, cl, Ae, Al, Ar, hI, hE, hL, hA, rfl⟩ := hM
  have hen := hI.en
  have hln := hI.ln
  have hfew := hw.few_
  have hxe : nt.x.epoch = nt.epoch := rfl
  have hxn : nt.x.n = nt.n := rfl
  show Ct _ _ _ (modO bm bf bc bl pe S.es.length ce pl S.line.length cl S.first S.boot :: mapO bf S.fw S.fc :: mapO bc S.ca S.cc :: mapO bl S.lo S.lc :: (Ae ++ (Al ++ Ar) ++ R)) _
  refine ct_body (rv := [.tmp 4]) [(0, _), (1, _)] Try.func126 (by kernel_rfl) Try.ntmps126 Try.results126 rfl rfl (fun w0 => ?_)
  refine p_seq0 ?_
  refine p_plain0 (0 :: 1 :: []) ?_
  refine go_s0 (some 3) (.box 135 (.tmp 1)) 0 ?_
  refine os_boxA rfl rfl (fun b3 => ?_)
  refine go_q0 4 (.assign (.const (.bool false))) 4 (qv_assign rfl) ?_
  refine go_nil ?_
  change G _ _ _ _
  refine p_weaken [0, 3, 4] rfl ?_
  refine p_seq0 ?_
  refine p_draw (by kernel_rfl) mixed 11 12 [(b3, .cells nt.x.c 135 (0, 0)), modO bm bf bc bl pe S.es.length ce pl S.line.length cl S.first S.boot] (by first | (simp; done) | (intro q hq; simp [hq]; done)) (by kernel_rfl) ?_
  refine gd_q (i := 0) (d := 8) (op := .move (.tmp 0)) (ty := 131) (g := none) (by kernel_rfl) trivial rfl (by kernel_rfl) (by kernel_rfl) (by kernel_rfl) (by kernel_rfl) (qv_move rfl) ?_
  refine gd_q (i := 1) (d := 9) (op := .nilCheck (.tmp 8)) (ty := 0) (g := none) (by kernel_rfl) trivial rfl (by kernel_rfl) (by kernel_rfl) (by kernel_rfl) (by kernel_rfl) (qv_nilCheck rfl) ?_
  refine gd_q (i := 2) (d := 10) (op := .fieldAddr 207 (.tmp 9) 1) (ty := 0) (g := none) (by kernel_rfl) trivial rfl (by kernel_rfl) (by kernel_rfl) (by kernel_rfl) (by kernel_rfl) (qv_field rfl fd207_1) ?_
  refine gd_q (i := 3) (d := 11) (op := .load 205 (.tmp 10)) (ty := 205) (g := none) (by kernel_rfl) trivial rfl (by kernel_rfl) (by kernel_rfl) (by kernel_rfl) (by kernel_rfl) (qv_load rfl .auto (ldv_sca sc205 (get_Mod_1 _))) ?_
  refine gd_q (i := 4) (d := 12) (op := .fieldAddr 135 (.tmp 3) 3) (ty := 0) (g := none) (by kernel_rfl) trivial rfl (by kernel_rfl) (by kernel_rfl) (by kernel_rfl) (by kernel_rfl) (qv_field rfl fd135_3) ?_
  refine gd_q (i := 5) (d := 13) (op := .load 102 (.tmp 12)) (ty := 102) (g := none) (by kernel_rfl) trivial rfl (by kernel_rfl) (by kernel_rfl) (by kernel_rfl) (by kernel_rfl) (qv_load rfl .auto (ldv_sca sc102 (get_Note_40 _))) ?_
  refine gd_one (i := 6) (d := some 14) (op := .call { callee := .value (.func 163), args := #[.tmp 11, .tmp 13], argTypes := #[205, 102] }) (ty := 243) (g := none) (by kernel_rfl) trivial rfl (by kernel_rfl) ?_
  refine os_call (Nat.le_of_ble_eq_true rfl) en163 rfl (Sel.cons (.next (.next (.next .here))) (Sel.skip (Sel.skip (Sel.skip (Sel.skip (Sel.skipA Sel.all)))))) (ct_takeB hI.c hl hw.recs_ (by omega)) ?_
  rintro v14 A14 ⟨o, ok, B, rfl, rfl, hokB, hokT⟩
  try dsimp only [List.nil_append, List.cons_append]
  replace hokB : tkOk S nt.recs = ok := hokB.symm
  refine ⟨fun _ h => by first | exact h | (cases h; done) | exact .tail _ h | exact .tail _ (.tail _ h) | exact List.mem_append_right _ (List.mem_append_right _ h) | exact List.mem_append_right _ h | (simp only [List.mem_cons, List.not_mem_nil, or_false] at h ⊢; first | exact .inl h | exact .inr (.inl h) | exact .inr (.inr (.inl h)) | exact .inr (.inr (.inr (.inl h))) | (subst h; simp; done) | grind), ?_⟩
  refine gd_q (i := 7) (d := 7) (op := .move (.tmp 14)) (ty := 243) (g := none) (by kernel_rfl) trivial rfl (by kernel_rfl) (by kernel_rfl) (by kernel_rfl) (by kernel_rfl) (qv_move rfl) ?_
  refine gd_q (i := 8) (d := 15) (op := .extract (.tmp 7) 0) (ty := 205) (g := none) (by kernel_rfl) trivial rfl (by kernel_rfl) (by kernel_rfl) (by kernel_rfl) (by kernel_rfl) (qv_extract (v := .map o) rfl rfl) ?_
  refine gd_q (i := 9) (d := 16) (op := .extract (.tmp 7) 1) (ty := 4) (g := none) (by kernel_rfl) trivial rfl (by kernel_rfl) (by kernel_rfl) (by kernel_rfl) (by kernel_rfl) (qv_extract (v := .bool ok) rfl rfl) ?_
  refine gd_q (i := 10) (d := 5) (op := .assign (.tmp 15)) (ty := 205) (g := none) (by kernel_rfl) trivial rfl (by kernel_rfl) (by kernel_rfl) (by kernel_rfl) (by kernel_rfl) (qv_assign rfl) ?_
  refine gd_tail [11] rfl (by kernel_rfl) (by kernel_rfl) ?_
  refine go_q0 6 (.assign (.tmp 16)) 4 (qv_assign rfl) ?_
  refine go_nil ?_
  change G _ _ _ _
  refine p_weaken [0, 3, 4, 5, 6] rfl ?_
  refine p_seq0 ?_
  refine p_seqK [0, 3, 4, 5] rfl (fun frk Mk s => ∃ (z : Bool), (z = !packOk S nt) ∧ Ge s ⟨[], (41, .bool z) :: frk, (b3, .cells nt.x.c 135 (0, 0)) :: modO bm bf bc bl pe S.es.length ce pl S.line.length cl S.first S.boot :: mapO bf S.fw S.fc :: mapO bc S.ca S.cc :: mapO bl S.lo S.lc :: (B ++ (Ae ++ (Al ++ (Ar ++ R))))⟩) (by kernel_rfl) ?_ ?_
  · refine p_drop ((b3, .cells nt.x.c 135 (0, 0)) :: modO bm bf bc bl pe S.es.length ce pl S.line.length cl S.first S.boot :: mapO bf S.fw S.fc :: mapO bc S.ca S.cc :: mapO bl S.lo S.lc :: (B ++ (Ae ++ (Al ++ (Ar ++ R))))) .auto ?_
    refine p_draw (by kernel_rfl) mixed 25 25 _ (fun _ h => h) (by kernel_rfl) ?_
    refine gd_all (0 :: 1 :: 2 :: 3 :: 4 :: 5 :: 6 :: 7 :: 8 :: 9 :: 10 :: 11 :: 12 :: 13 :: 14 :: 15 :: 16 :: 17 :: 18 :: 19 :: 20 :: 21 :: 22 :: 23 :: 24 :: []) _ rfl (by kernel_rfl) (by decide) (fun _ h => h) rfl ?_
    refine sq_q0 17 (.move (.tmp 6)) 4 (qv_move rfl) ?_
    refine sq_q0 18 (.unOp .not 4 (.tmp 17)) 4 (qv_not rfl) ?_
    refine sq_q0 19 (.move (.tmp 18)) 4 (qv_move rfl) ?_
    refine sq_case (d := 19) rfl (fun _ => rfl) (fun g19 => ?_) (fun g19 => ?_)
    · replace g19 := kn g19
      refine sq_n (d := 20) (op := .move (.tmp 0)) (ty := 131) (g := some (2, false)) (by kernel_rfl) ⟨19, _, by kernel_rfl, rfl, rfl⟩ ?_
      refine sq_n (d := 21) (op := .nilCheck (.tmp 20)) (ty := 0) (g := some (2, false)) (by kernel_rfl) ⟨19, _, by kernel_rfl, rfl, rfl⟩ ?_
      refine sq_n (d := 22) (op := .fieldAddr 207 (.tmp 21) 6) (ty := 0) (g := some (2, false)) (by kernel_rfl) ⟨19, _, by kernel_rfl, rfl, rfl⟩ ?_
      refine sq_n (d := 23) (op := .load 77 (.tmp 22)) (ty := 77) (g := some (2, false)) (by kernel_rfl) ⟨19, _, by kernel_rfl, rfl, rfl⟩ ?_
      refine sq_n (d := 24) (op := .binOp .eql 77 (.tmp 23) (.const (.int .u32 0)) 77) (ty := 4) (g := some (2, false)) (by kernel_rfl) ⟨19, _, by kernel_rfl, rfl, rfl⟩ ?_
      refine sq_q0 25 (.pick (.tmp 19) (.const (.bool true)) (.tmp 24)) 4 (qv_pick_t rfl rfl) ?_
      refine sq_q0 26 (.move (.tmp 25)) 4 (qv_move rfl) ?_
      refine sq_n (d := 27) (op := .fieldAddr 135 (.tmp 3) 4) (ty := 0) (g := some (9, false)) (by kernel_rfl) ⟨26, _, by kernel_rfl, rfl, rfl⟩ ?_
      refine sq_n (d := 28) (op := .load 77 (.tmp 27)) (ty := 77) (g := some (9, false)) (by kernel_rfl) ⟨26, _, by kernel_rfl, rfl, rfl⟩ ?_
      refine sq_n (d := 29) (op := .move (.tmp 0)) (ty := 131) (g := some (9, false)) (by kernel_rfl) ⟨26, _, by kernel_rfl, rfl, rfl⟩ ?_
      refine sq_n (d := 30) (op := .nilCheck (.tmp 29)) (ty := 0) (g := some (9, false)) (by kernel_rfl) ⟨26, _, by kernel_rfl, rfl, rfl⟩ ?_
      refine sq_n (d := 31) (op := .fieldAddr 207 (.tmp 30) 6) (ty := 0) (g := some (9, false)) (by kernel_rfl) ⟨26, _, by kernel_rfl, rfl, rfl⟩ ?_
      refine sq_n (d := 32) (op := .load 77 (.tmp 31)) (ty := 77) (g := some (9, false)) (by kernel_rfl) ⟨26, _, by kernel_rfl, rfl, rfl⟩ ?_
      refine sq_n (d := 33) (op := .binOp .neq 77 (.tmp 28) (.tmp 32) 77) (ty := 4) (g := some (9, false)) (by kernel_rfl) ⟨26, _, by kernel_rfl, rfl, rfl⟩ ?_
      refine sq_q0 34 (.pick (.tmp 26) (.const (.bool true)) (.tmp 33)) 4 (qv_pick_t rfl rfl) ?_
      refine sq_q0 35 (.move (.tmp 34)) 4 (qv_move rfl) ?_
      refine sq_n (d := 36) (op := .fieldAddr 135 (.tmp 3) 5) (ty := 0) (g := some (18, false)) (by kernel_rfl) ⟨35, _, by kernel_rfl, rfl, rfl⟩ ?_
      refine sq_n (d := 37) (op := .load 30 (.tmp 36)) (ty := 30) (g := some (18, false)) (by kernel_rfl) ⟨35, _, by kernel_rfl, rfl, rfl⟩ ?_
      refine sq_n (d := 38) (op := .move (.tmp 0)) (ty := 131) (g := some (18, false)) (by kernel_rfl) ⟨35, _, by kernel_rfl, rfl, rfl⟩ ?_
      refine sq_n (d := 39) (op := .call { callee := .value (.func 136), args := #[.tmp 38], argTypes := #[131] }) (ty := 30) (g := some (18, false)) (by kernel_rfl) ⟨35, _, by kernel_rfl, rfl, rfl⟩ ?_
      refine sq_n (d := 40) (op := .binOp .neq 30 (.tmp 37) (.tmp 39) 30) (ty := 4) (g := some (18, false)) (by kernel_rfl) ⟨35, _, by kernel_rfl, rfl, rfl⟩ ?_
      refine sq_q0 41 (.pick (.tmp 35) (.const (.bool true)) (.tmp 40)) 4 (qv_pick_t rfl rfl) ?_
      refine SeqK.nil (fun β => ?_)
      refine gd_tail [] rfl (by kernel_rfl) (by kernel_rfl) ?_
      refine go_nil ?_
      exact ⟨_, by unfold packOk; rw [← hxe, ← hxn]; clear hxe hxn; (try dsimp only at *); first | (simp [*]; done) | (simp [*]; rfl), ⟨rfl, ⟨[41, 0, 3, 4, 5], rfl⟩, .auto⟩⟩
    replace g19 := kn g19
    refine sq_q (d := 20) (op := .move (.tmp 0)) (ty := 131) (g := some (2, false)) (by kernel_rfl) ⟨19, by kernel_rfl, rfl⟩ (fun _ h => nomatch h) (qv_move rfl) ?_
    refine sq_q (d := 21) (op := .nilCheck (.tmp 20)) (ty := 0) (g := some (2, false)) (by kernel_rfl) ⟨19, by kernel_rfl, rfl⟩ (fun _ h => nomatch h) (qv_nilCheck rfl) ?_
    refine sq_q (d := 22) (op := .fieldAddr 207 (.tmp 21) 6) (ty := 0) (g := some (2, false)) (by kernel_rfl) ⟨19, by kernel_rfl, rfl⟩ (fun _ h => nomatch h) (qv_field rfl fd207_6) ?_
    refine sq_q (d := 23) (op := .load 77 (.tmp 22)) (ty := 77) (g := some (2, false)) (by kernel_rfl) ⟨19, by kernel_rfl, rfl⟩ (fun _ h => nomatch h) (qv_load rfl .auto (ldv_sca sc77 (get_Mod_6 _))) ?_
    refine sq_q (d := 24) (op := .binOp .eql 77 (.tmp 23) (.const (.int .u32 0)) 77) (ty := 4) (g := some (2, false)) (by kernel_rfl) ⟨19, by kernel_rfl, rfl⟩ (fun _ h => nomatch h) (qv_eql rfl rfl rfl) ?_
    refine sq_q0 25 (.pick (.tmp 19) (.const (.bool true)) (.tmp 24)) 4 (qv_pick_f rfl rfl) ?_
    refine sq_q0 26 (.move (.tmp 25)) 4 (qv_move rfl) ?_
    refine sq_case (d := 26) rfl (fun _ => rfl) (fun g26 => ?_) (fun g26 => ?_)
    · replace g26 := kn g26
      refine sq_n (d := 27) (op := .fieldAddr 135 (.tmp 3) 4) (ty := 0) (g := some (9, false)) (by kernel_rfl) ⟨26, _, by kernel_rfl, rfl, rfl⟩ ?_
      refine sq_n (d := 28) (op := .load 77 (.tmp 27)) (ty := 77) (g := some (9, false)) (by kernel_rfl) ⟨26, _, by kernel_rfl, rfl, rfl⟩ ?_
      refine sq_n (d := 29) (op := .move (.tmp 0)) (ty := 131) (g := some (9, false)) (by kernel_rfl) ⟨26, _, by kernel_rfl, rfl, rfl⟩ ?_
      refine sq_n (d := 30) (op := .nilCheck (.tmp 29)) (ty := 0) (g := some (9, false)) (by kernel_rfl) ⟨26, _, by kernel_rfl, rfl, rfl⟩ ?_
      refine sq_n (d := 31) (op := .fieldAddr 207 (.tmp 30) 6) (ty := 0) (g := some (9, false)) (by kernel_rfl) ⟨26, _, by kernel_rfl, rfl, rfl⟩ ?_
      refine sq_n (d := 32) (op := .load 77 (.tmp 31)) (ty := 77) (g := some (9, false)) (by kernel_rfl) ⟨26, _, by kernel_rfl, rfl, rfl⟩ ?_
      refine sq_n (d := 33) (op := .binOp .neq 77 (.tmp 28) (.tmp 32) 77) (ty := 4) (g := some (9, false)) (by kernel_rfl) ⟨26, _, by kernel_rfl, rfl, rfl⟩ ?_
      refine sq_q0 34 (.pick (.tmp 26) (.const (.bool true)) (.tmp 33)) 4 (qv_pick_t rfl rfl) ?_
      refine sq_q0 35 (.move (.tmp 34)) 4 (qv_move rfl) ?_
      refine sq_n (d := 36) (op := .fieldAddr 135 (.tmp 3) 5) (ty := 0) (g := some (18, false)) (by kernel_rfl) ⟨35, _, by kernel_rfl, rfl, rfl⟩ ?_
      refine sq_n (d := 37) (op := .load 30 (.tmp 36)) (ty := 30) (g := some (18, false)) (by kernel_rfl) ⟨35, _, by kernel_rfl, rfl, rfl⟩ ?_
      refine sq_n (d := 38) (op := .move (.tmp 0)) (ty := 131) (g := some (18, false)) (by kernel_rfl) ⟨35, _, by kernel_rfl, rfl, rfl⟩ ?_
      refine sq_n (d := 39) (op := .call { callee := .value (.func 136), args := #[.tmp 38], argTypes := #[131] }) (ty := 30) (g := some (18, false)) (by kernel_rfl) ⟨35, _, by kernel_rfl, rfl, rfl⟩ ?_
      refine sq_n (d := 40) (op := .binOp .neq 30 (.tmp 37) (.tmp 39) 30) (ty := 4) (g := some (18, false)) (by kernel_rfl) ⟨35, _, by kernel_rfl, rfl, rfl⟩ ?_
      refine sq_q0 41 (.pick (.tmp 35) (.const (.bool true)) (.tmp 40)) 4 (qv_pick_t rfl rfl) ?_
      refine SeqK.nil (fun β => ?_)
      refine gd_tail [] rfl (by kernel_rfl) (by kernel_rfl) ?_
      refine go_nil ?_
      exact ⟨_, by unfold packOk; rw [← hxe, ← hxn]; clear hxe hxn; (try dsimp only at *); first | (simp [*]; done) | (simp [*]; rfl), ⟨rfl, ⟨[41, 0, 3, 4, 5], rfl⟩, .auto⟩⟩
    replace g26 := kn g26
    refine sq_q (d := 27) (op := .fieldAddr 135 (.tmp 3) 4) (ty := 0) (g := some (9, false)) (by kernel_rfl) ⟨26, by kernel_rfl, rfl⟩ (fun _ h => nomatch h) (qv_field rfl fd135_4) ?_
    refine sq_q (d := 28) (op := .load 77 (.tmp 27)) (ty := 77) (g := some (9, false)) (by kernel_rfl) ⟨26, by kernel_rfl, rfl⟩ (fun _ h => nomatch h) (qv_load rfl .auto (ldv_sca sc77 (get_Note_41 _))) ?_
    refine sq_q (d := 29) (op := .move (.tmp 0)) (ty := 131) (g := some (9, false)) (by kernel_rfl) ⟨26, by kernel_rfl, rfl⟩ (fun _ h => nomatch h) (qv_move rfl) ?_
    refine sq_q (d := 30) (op := .nilCheck (.tmp 29)) (ty := 0) (g := some (9, false)) (by kernel_rfl) ⟨26, by kernel_rfl, rfl⟩ (fun _ h => nomatch h) (qv_nilCheck rfl) ?_
    refine sq_q (d := 31) (op := .fieldAddr 207 (.tmp 30) 6) (ty := 0) (g := some (9, false)) (by kernel_rfl) ⟨26, by kernel_rfl, rfl⟩ (fun _ h => nomatch h) (qv_field rfl fd207_6) ?_
    refine sq_q (d := 32) (op := .load 77 (.tmp 31)) (ty := 77) (g := some (9, false)) (by kernel_rfl) ⟨26, by kernel_rfl, rfl⟩ (fun _ h => nomatch h) (qv_load rfl .auto (ldv_sca sc77 (get_Mod_6 _))) ?_
    refine sq_q (d := 33) (op := .binOp .neq 77 (.tmp 28) (.tmp 32) 77) (ty := 4) (g := some (9, false)) (by kernel_rfl) ⟨26, by kernel_rfl, rfl⟩ (fun _ h => nomatch h) (qv_neq rfl rfl rfl) ?_
    refine sq_q0 34 (.pick (.tmp 26) (.const (.bool true)) (.tmp 33)) 4 (qv_pick_f rfl rfl) ?_
    refine sq_q0 35 (.move (.tmp 34)) 4 (qv_move rfl) ?_
    refine sq_case (d := 35) rfl (fun _ => rfl) (fun g35 => ?_) (fun g35 => ?_)
    · replace g35 := kn g35
      refine sq_n (d := 36) (op := .fieldAddr 135 (.tmp 3) 5) (ty := 0) (g := some (18, false)) (by kernel_rfl) ⟨35, _, by kernel_rfl, rfl, rfl⟩ ?_
      refine sq_n (d := 37) (op := .load 30 (.tmp 36)) (ty := 30) (g := some (18, false)) (by kernel_rfl) ⟨35, _, by kernel_rfl, rfl, rfl⟩ ?_
      refine sq_n (d := 38) (op := .move (.tmp 0)) (ty := 131) (g := some (18, false)) (by kernel_rfl) ⟨35, _, by kernel_rfl, rfl, rfl⟩ ?_
      refine sq_n (d := 39) (op := .call { callee := .value (.func 136), args := #[.tmp 38], argTypes := #[131] }) (ty := 30) (g := some (18, false)) (by kernel_rfl) ⟨35, _, by kernel_rfl, rfl, rfl⟩ ?_
      refine sq_n (d := 40) (op := .binOp .neq 30 (.tmp 37) (.tmp 39) 30) (ty := 4) (g := some (18, false)) (by kernel_rfl) ⟨35, _, by kernel_rfl, rfl, rfl⟩ ?_
      refine sq_q0 41 (.pick (.tmp 35) (.const (.bool true)) (.tmp 40)) 4 (qv_pick_t rfl rfl) ?_
      refine SeqK.nil (fun β => ?_)
      refine gd_tail [] rfl (by kernel_rfl) (by kernel_rfl) ?_
      refine go_nil ?_
      exact ⟨_, by unfold packOk; rw [← hxe, ← hxn]; clear hxe hxn; (try dsimp only at *); first | (simp [*]; done) | (simp [*]; rfl), ⟨rfl, ⟨[41, 0, 3, 4, 5], rfl⟩, .auto⟩⟩
    replace g35 := kn g35
    refine sq_q (d := 36) (op := .fieldAddr 135 (.tmp 3) 5) (ty := 0) (g := some (18, false)) (by kernel_rfl) ⟨35, by kernel_rfl, rfl⟩ (fun _ h => nomatch h) (qv_field rfl fd135_5) ?_
    refine sq_q (d := 37) (op := .load 30 (.tmp 36)) (ty := 30) (g := some (18, false)) (by kernel_rfl) ⟨35, by kernel_rfl, rfl⟩ (fun _ h => nomatch h) (qv_load rfl .auto (ldv_sca sc30 (get_Note_42 _))) ?_
    refine sq_q (d := 38) (op := .move (.tmp 0)) (ty := 131) (g := some (18, false)) (by kernel_rfl) ⟨35, by kernel_rfl, rfl⟩ (fun _ h => nomatch h) (qv_move rfl) ?_
    refine sq_p (d := 39) (op := .call { callee := .value (.func 136), args := #[.tmp 38], argTypes := #[131] }) (ty := 30) (g := some (18, false)) (by kernel_rfl) ⟨35, by kernel_rfl, rfl⟩ (pv_callR en136 rfl .auto (ct_Mnext (by omega))) ?_
    refine sq_q (d := 40) (op := .binOp .neq 30 (.tmp 37) (.tmp 39) 30) (ty := 4) (g := some (18, false)) (by kernel_rfl) ⟨35, by kernel_rfl, rfl⟩ (fun _ h => nomatch h) (qv_neq rfl rfl rfl) ?_
    refine sq_q0 41 (.pick (.tmp 35) (.const (.bool true)) (.tmp 40)) 4 (qv_pick_f rfl rfl) ?_
    refine SeqK.nil (fun β => ?_)
    refine gd_tail [] rfl (by kernel_rfl) (by kernel_rfl) ?_
    refine go_nil ?_
    exact ⟨_, by unfold packOk; rw [← hxe, ← hxn]; clear hxe hxn; (try dsimp only at *); first | (simp [*]; done) | (simp [*]; rfl), ⟨rfl, ⟨[41, 0, 3, 4, 5], rfl⟩, .auto⟩⟩
  rintro s ⟨z, hz, hs⟩
  refine ge_ok hs ?_
  refine p_cond (.tmp 41) (by kernel_rfl) rfl (fun h41 => ?_) (fun h41 => ?_)
  · replace h41 := kn h41
    have hpk : packOk S nt = false := by rw [h41] at hz; simpa using hz.symm
    refine p_seq0 ?_
    refine p_plain0 (0 :: []) ?_
    refine go_q0 4 (.assign (.const (.bool false))) 4 (qv_assign rfl) ?_
    refine go_nil ?_
    change G _ _ _ _
    refine p_weaken [0, 3, 4, 5] rfl ?_
    refine p_ret0 ?_
    try dsimp only [thenQ, inBlockQ]
    try rw [if_pos rfl]
    refine ret_left (modO bm bf bc bl pe S.es.length ce pl S.line.length cl S.first S.boot :: mapO bf S.fw S.fc :: mapO bc S.ca S.cc :: mapO bl S.lo S.lc :: (Ae ++ (Al ++ Ar) ++ R)) (.inr rfl) (.cons (res_tmp rfl) .nil) .auto ?_
    exact ⟨by rw [hpk]; rfl, _, rfl, .inr ⟨hpk, rfl⟩⟩
  replace h41 := kn h41
  have hpk : packOk S nt = true := by rw [h41] at hz; simpa using hz.symm
  have hpk2 := hpk
  unfold packOk at hpk2
  rw [hokB] at hpk2
  simp only [Bool.and_eq_true, decide_eq_true_eq, Bool.not_eq_true', decide_eq_false_iff_not] at hpk2
  obtain ⟨⟨⟨hok1, hb0⟩, hep⟩, hnn⟩ := hpk2
  obtain ⟨b1, l1, c1, rfl, htk, hmo, rfl⟩ := hokT hok1
  refine p_skip0 ?_
  change G _ _ _ _
  refine p_weaken [0, 3, 4, 5] rfl ?_
  refine p_seq0 ?_
  refine p_plain0 (0 :: 1 :: 2 :: 3 :: 4 :: []) ?_
  refine go_q0 42 (.move (.tmp 0)) 131 (qv_move rfl) ?_
  refine go_q0 43 (.move (.tmp 5)) 205 (qv_move rfl) ?_
  refine go_q0 44 (.nilCheck (.tmp 42)) 0 (qv_nilCheck rfl) ?_
  refine go_q0 45 (.fieldAddr 207 (.tmp 44) 1) 0 (qv_field rfl fd207_1) ?_
  refine go_s0 none (.store 205 (.tmp 45) (.tmp 43)) 0 ?_
  refine os_store1 rfl rfl sz205 rfl rfl .auto (Nat.le_of_ble_eq_true rfl) (set_Mod_1 _ _) ?_
  refine go_nil ?_
  change G _ _ _ _
  refine p_weaken [0, 3, 4] rfl ?_
  refine p_seq0 ?_
  refine p_draw (by kernel_rfl) mixed 14 15 [(b3, .cells nt.x.c 135 (0, 0)), (bm, .cells (⟨.map (some bf), .map (some b1), .map (some bl), .slice pe S.es.length ce, .slice pl S.line.length cl, S.first, S.boot⟩ : Mod).c 207 (0, 0))] (by first | (simp; done) | (intro q hq; simp [hq]; done)) (by kernel_rfl) ?_
  refine gd_q (i := 0) (d := 46) (op := .move (.tmp 0)) (ty := 131) (g := none) (by kernel_rfl) trivial rfl (by kernel_rfl) (by kernel_rfl) (by kernel_rfl) (by kernel_rfl) (qv_move rfl) ?_
  refine gd_q (i := 1) (d := 47) (op := .move (.tmp 0)) (ty := 131) (g := none) (by kernel_rfl) trivial rfl (by kernel_rfl) (by kernel_rfl) (by kernel_rfl) (by kernel_rfl) (qv_move rfl) ?_
  refine gd_q (i := 2) (d := 48) (op := .nilCheck (.tmp 47)) (ty := 0) (g := none) (by kernel_rfl) trivial rfl (by kernel_rfl) (by kernel_rfl) (by kernel_rfl) (by kernel_rfl) (qv_nilCheck rfl) ?_
  refine gd_q (i := 3) (d := 49) (op := .fieldAddr 207 (.tmp 48) 4) (ty := 0) (g := none) (by kernel_rfl) trivial rfl (by kernel_rfl) (by kernel_rfl) (by kernel_rfl) (by kernel_rfl) (qv_field rfl fd207_4) ?_
  refine gd_q (i := 4) (d := 50) (op := .load 89 (.tmp 49)) (ty := 89) (g := none) (by kernel_rfl) trivial rfl (by kernel_rfl) (by kernel_rfl) (by kernel_rfl) (by kernel_rfl) (qv_load rfl .auto (ldv_sca sc89 (get_Mod_4 _))) ?_
  refine gd_q (i := 5) (d := 51) (op := .move (.tmp 0)) (ty := 131) (g := none) (by kernel_rfl) trivial rfl (by kernel_rfl) (by kernel_rfl) (by kernel_rfl) (by kernel_rfl) (qv_move rfl) ?_
  refine gd_q (i := 6) (d := 52) (op := .nilCheck (.tmp 51)) (ty := 0) (g := none) (by kernel_rfl) trivial rfl (by kernel_rfl) (by kernel_rfl) (by kernel_rfl) (by kernel_rfl) (qv_nilCheck rfl) ?_
  refine gd_q (i := 7) (d := 53) (op := .fieldAddr 207 (.tmp 52) 3) (ty := 0) (g := none) (by kernel_rfl) trivial rfl (by kernel_rfl) (by kernel_rfl) (by kernel_rfl) (by kernel_rfl) (qv_field rfl fd207_3) ?_
  refine gd_q (i := 8) (d := 54) (op := .load 136 (.tmp 53)) (ty := 136) (g := none) (by kernel_rfl) trivial rfl (by kernel_rfl) (by kernel_rfl) (by kernel_rfl) (by kernel_rfl) (qv_load rfl .auto (ldv_sca sc136 (get_Mod_3 _))) ?_
  refine gd_q (i := 9) (d := 55) (op := .call { callee := .builtin .len, args := #[.tmp 54], argTypes := #[136] }) (ty := 3) (g := none) (by kernel_rfl) trivial rfl (by kernel_rfl) (by kernel_rfl) (by kernel_rfl) (by kernel_rfl) (qv_lenS un136 rfl) ?_
  refine gd_one (i := 10) (d := some 56) (op := .buildSlice 89 1 #[(0, .tmp 55)]) (ty := 89) (g := none) (by kernel_rfl) trivial rfl (by kernel_rfl) ?_
  refine os_buildSlice (Nat.le_of_ble_eq_true rfl) rfl (bls89_1 _) (fun b56 => ?_)
  refine ⟨fun _ h => by first | exact h | (cases h; done) | exact .tail _ h | exact .tail _ (.tail _ h) | exact List.mem_append_right _ (List.mem_append_right _ h) | exact List.mem_append_right _ h | (simp only [List.mem_cons, List.not_mem_nil, or_false] at h ⊢; first | exact .inl h | exact .inr (.inl h) | exact .inr (.inr (.inl h)) | exact .inr (.inr (.inr (.inl h))) | (subst h; simp; done) | grind), ?_⟩
  refine gd_one (i := 11) (d := some 57) (op := .call { callee := .builtin .append, args := #[.tmp 50, .tmp 56], argTypes := #[89, 89] }) (ty := 89) (g := none) (by kernel_rfl) trivial rfl (by kernel_rfl) ?_
  refine os_appendK (E := eI .i64) (l := lnI S.line) (l2 := [(S.es.length : Int)]) rfl el89 rfl (lnI_len _).symm rfl rfl hL (by exact .auto) .auto (Go.E.holds_one (E := eI .i64) _) (eI_one _) (by rw [lnI_len]; simp [maxLen]; omega) (by rw [lnI_len]; simp; omega) (fun p57 c57 A57 h57 => ?_)
  rw [lnI_snoc] at h57 ⊢
  rw [lnI_len]
  refine ⟨fun _ h => by first | exact h | (cases h; done) | exact .tail _ h | exact .tail _ (.tail _ h) | exact List.mem_append_right _ (List.mem_append_right _ h) | exact List.mem_append_right _ h | (simp only [List.mem_cons, List.not_mem_nil, or_false] at h ⊢; first | exact .inl h | exact .inr (.inl h) | exact .inr (.inr (.inl h)) | exact .inr (.inr (.inr (.inl h))) | (subst h; simp; done) | grind), ?_⟩
  refine gd_one (i := 12) (d := some 58) (op := .nilCheck (.tmp 46)) (ty := 0) (g := none) (by kernel_rfl) trivial rfl (by kernel_rfl) ?_
  refine os_of_qv (Nat.le_of_ble_eq_true rfl) (qv_nilCheck rfl) ?_
  refine ⟨fun _ h => by first | exact h | (cases h; done) | exact .tail _ h | exact .tail _ (.tail _ h) | exact List.mem_append_right _ (List.mem_append_right _ h) | exact List.mem_append_right _ h | (simp only [List.mem_cons, List.not_mem_nil, or_false] at h ⊢; first | exact .inl h | exact .inr (.inl h) | exact .inr (.inr (.inl h)) | exact .inr (.inr (.inr (.inl h))) | (subst h; simp; done) | grind), ?_⟩
  refine gd_q (i := 13) (d := 59) (op := .fieldAddr 207 (.tmp 58) 4) (ty := 0) (g := none) (by kernel_rfl) trivial rfl (by kernel_rfl) (by kernel_rfl) (by kernel_rfl) (by kernel_rfl) (qv_field rfl fd207_4) ?_
  refine gd_tail [14] rfl (by kernel_rfl) (by kernel_rfl) ?_
  refine go_s0 none (.store 89 (.tmp 59) (.tmp 57)) 0 ?_
  refine os_store1 rfl rfl sz89 rfl rfl .auto (Nat.le_of_ble_eq_true rfl) (set_Mod_4 _ _) ?_
  refine go_nil ?_
  change G _ _ _ _
  refine p_weaken [0, 3, 4] rfl ?_
  refine p_seq0 ?_
  refine p_drop ((b3, .cells nt.x.c 135 (0, 0)) :: (bm, .cells (⟨.map (some bf), .map (some b1), .map (some bl), .slice pe S.es.length ce, .slice p57 (S.line ++ [S.es.length]).length c57, S.first, S.boot⟩ : Mod).c 207 (0, 0)) :: mapO bf S.fw S.fc :: mapO b1 l1 c1 :: mapO bl S.lo S.lc :: (Ae ++ (A57 ++ (Ar ++ R)))) .auto ?_
  refine p_draw (by kernel_rfl) mixed 17 18 [(b3, .cells nt.x.c 135 (0, 0)), (bm, .cells (⟨.map (some bf), .map (some b1), .map (some bl), .slice pe S.es.length ce, .slice p57 (S.line ++ [S.es.length]).length c57, S.first, S.boot⟩ : Mod).c 207 (0, 0))] (by first | (simp; done) | (intro q hq; simp [hq]; done)) (by kernel_rfl) ?_
  refine gd_q (i := 0) (d := 60) (op := .move (.tmp 0)) (ty := 131) (g := none) (by kernel_rfl) trivial rfl (by kernel_rfl) (by kernel_rfl) (by kernel_rfl) (by kernel_rfl) (qv_move rfl) ?_
  refine gd_q (i := 1) (d := 61) (op := .move (.tmp 0)) (ty := 131) (g := none) (by kernel_rfl) trivial rfl (by kernel_rfl) (by kernel_rfl) (by kernel_rfl) (by kernel_rfl) (qv_move rfl) ?_
  refine gd_q (i := 2) (d := 62) (op := .nilCheck (.tmp 61)) (ty := 0) (g := none) (by kernel_rfl) trivial rfl (by kernel_rfl) (by kernel_rfl) (by kernel_rfl) (by kernel_rfl) (qv_nilCheck rfl) ?_
  refine gd_q (i := 3) (d := 63) (op := .fieldAddr 207 (.tmp 62) 3) (ty := 0) (g := none) (by kernel_rfl) trivial rfl (by kernel_rfl) (by kernel_rfl) (by kernel_rfl) (by kernel_rfl) (qv_field rfl fd207_3) ?_
  refine gd_q (i := 4) (d := 64) (op := .load 136 (.tmp 63)) (ty := 136) (g := none) (by kernel_rfl) trivial rfl (by kernel_rfl) (by kernel_rfl) (by kernel_rfl) (by kernel_rfl) (qv_load rfl .auto (ldv_sca sc136 (get_Mod_3 _))) ?_
  refine gd_q (i := 5) (d := 65) (op := .fieldAddr 135 (.tmp 3) 4) (ty := 0) (g := none) (by kernel_rfl) trivial rfl (by kernel_rfl) (by kernel_rfl) (by kernel_rfl) (by kernel_rfl) (qv_field rfl fd135_4) ?_
  refine gd_q (i := 6) (d := 66) (op := .load 77 (.tmp 65)) (ty := 77) (g := none) (by kernel_rfl) trivial rfl (by kernel_rfl) (by kernel_rfl) (by kernel_rfl) (by kernel_rfl) (qv_load rfl .auto (ldv_sca sc77 (get_Note_41 _))) ?_
  refine gd_q (i := 7) (d := 67) (op := .fieldAddr 135 (.tmp 3) 5) (ty := 0) (g := none) (by kernel_rfl) trivial rfl (by kernel_rfl) (by kernel_rfl) (by kernel_rfl) (by kernel_rfl) (qv_field rfl fd135_5) ?_
  refine gd_q (i := 8) (d := 68) (op := .load 30 (.tmp 67)) (ty := 30) (g := none) (by kernel_rfl) trivial rfl (by kernel_rfl) (by kernel_rfl) (by kernel_rfl) (by kernel_rfl) (qv_load rfl .auto (ldv_sca sc30 (get_Note_42 _))) ?_
  refine gd_q (i := 9) (d := 69) (op := .fieldAddr 135 (.tmp 3) 3) (ty := 0) (g := none) (by kernel_rfl) trivial rfl (by kernel_rfl) (by kernel_rfl) (by kernel_rfl) (by kernel_rfl) (qv_field rfl fd135_3) ?_
  refine gd_q (i := 10) (d := 70) (op := .load 102 (.tmp 69)) (ty := 102) (g := none) (by kernel_rfl) trivial rfl (by kernel_rfl) (by kernel_rfl) (by kernel_rfl) (by kernel_rfl) (qv_load rfl .auto (ldv_sca sc102 (get_Note_40 _))) ?_
  refine gd_q (i := 11) (d := 71) (op := .build 139 #[(0, .tmp 66), (1, .tmp 68), (2, .tmp 70), (3, .const (.bool true))]) (ty := 139) (g := none) (by kernel_rfl) trivial rfl (by kernel_rfl) (by kernel_rfl) (by kernel_rfl) (by kernel_rfl) (qv_build rfl (bld139_0_1_2_3 _ _ _ _ _ _)) ?_
  refine gd_one (i := 12) (d := some 72) (op := .call { callee := .value (.func 132), args := #[.tmp 71], argTypes := #[139] }) (ty := 139) (g := none) (by kernel_rfl) trivial rfl (by kernel_rfl) ?_
  refine os_call (Nat.le_of_ble_eq_true rfl) en132 rfl (Sel.skip (Sel.skip (Sel.skip (Sel.skip (Sel.skip (Sel.skipA (Sel.skipA (Sel.skipA Sel.all)))))))) (ct_copied (e := nt.ent nt.p nt.cap) hl hfew) ?_
  rintro v72 A72 ⟨p72, c72, A72, rfl, h72, rfl⟩
  try dsimp only [List.nil_append, List.cons_append]
  refine ⟨fun _ h => by first | exact h | (cases h; done) | exact .tail _ h | exact .tail _ (.tail _ h) | exact List.mem_append_right _ (List.mem_append_right _ h) | exact List.mem_append_right _ h | (simp only [List.mem_cons, List.not_mem_nil, or_false] at h ⊢; first | exact .inl h | exact .inr (.inl h) | exact .inr (.inr (.inl h)) | exact .inr (.inr (.inr (.inl h))) | (subst h; simp; done) | grind), ?_⟩
  refine gd_one (i := 13) (d := some 73) (op := .buildSlice 136 1 #[(0, .tmp 72)]) (ty := 136) (g := none) (by kernel_rfl) trivial rfl (by kernel_rfl) ?_
  refine os_buildSlice (Nat.le_of_ble_eq_true rfl) rfl (bls136_1 _) (fun b73 => ?_)
  refine ⟨fun _ h => by first | exact h | (cases h; done) | exact .tail _ h | exact .tail _ (.tail _ h) | exact List.mem_append_right _ (List.mem_append_right _ h) | exact List.mem_append_right _ h | (simp only [List.mem_cons, List.not_mem_nil, or_false] at h ⊢; first | exact .inl h | exact .inr (.inl h) | exact .inr (.inr (.inl h)) | exact .inr (.inr (.inr (.inl h))) | (subst h; simp; done) | grind), ?_⟩
  refine gd_one (i := 14) (d := some 74) (op := .call { callee := .builtin .append, args := #[.tmp 64, .tmp 73], argTypes := #[136, 136] }) (ty := 136) (g := none) (by kernel_rfl) trivial rfl (by kernel_rfl) ?_
  refine os_appendK (E := eEntR) (l := S.es) (l2 := [nt.ent p72 c72]) rfl el136 rfl rfl rfl rfl hE (by exact .auto) .auto (Go.E.holds_one (E := eEntR) _) one_EntR (by simp [maxLen]; omega) (by simp; omega) (fun p74 c74 A74 h74 => ?_)
  have hAn : ∀ e ∈ S.es ++ [nt.ent p72 c72], Lst eRec e.p e.recs (A72 ++ Ar) := fun e he => by rcases List.mem_append.1 he with h | h; exact (hA e h).right; rw [List.mem_singleton.1 h]; exact h72.lst.left
  refine ⟨fun _ h => by first | exact h | (cases h; done) | exact .tail _ h | exact .tail _ (.tail _ h) | exact List.mem_append_right _ (List.mem_append_right _ h) | exact List.mem_append_right _ h | (simp only [List.mem_cons, List.not_mem_nil, or_false] at h ⊢; first | exact .inl h | exact .inr (.inl h) | exact .inr (.inr (.inl h)) | exact .inr (.inr (.inr (.inl h))) | (subst h; simp; done) | grind), ?_⟩
  refine gd_one (i := 15) (d := some 75) (op := .nilCheck (.tmp 60)) (ty := 0) (g := none) (by kernel_rfl) trivial rfl (by kernel_rfl) ?_
  refine os_of_qv (Nat.le_of_ble_eq_true rfl) (qv_nilCheck rfl) ?_
  refine ⟨fun _ h => by first | exact h | (cases h; done) | exact .tail _ h | exact .tail _ (.tail _ h) | exact List.mem_append_right _ (List.mem_append_right _ h) | exact List.mem_append_right _ h | (simp only [List.mem_cons, List.not_mem_nil, or_false] at h ⊢; first | exact .inl h | exact .inr (.inl h) | exact .inr (.inr (.inl h)) | exact .inr (.inr (.inr (.inl h))) | (subst h; simp; done) | grind), ?_⟩
  refine gd_q (i := 16) (d := 76) (op := .fieldAddr 207 (.tmp 75) 3) (ty := 0) (g := none) (by kernel_rfl) trivial rfl (by kernel_rfl) (by kernel_rfl) (by kernel_rfl) (by kernel_rfl) (qv_field rfl fd207_3) ?_
  refine gd_tail [17] rfl (by kernel_rfl) (by kernel_rfl) ?_
  refine go_s0 none (.store 136 (.tmp 76) (.tmp 74)) 0 ?_
  refine os_store1 rfl rfl sz136 rfl rfl .auto (Nat.le_of_ble_eq_true rfl) (set_Mod_3 _ _) ?_
  refine go_nil ?_
  change G _ _ _ _
  refine p_weaken [4] rfl ?_
  refine p_seq0 ?_
  refine p_plain0 (0 :: []) ?_
  refine go_q0 4 (.assign (.const (.bool true))) 4 (qv_assign rfl) ?_
  refine go_nil ?_
  change G _ _ _ _
  refine p_ret0 ?_
  try dsimp only [thenQ, inBlockQ]
  try rw [if_pos rfl]
  refine ret_left ((bm, .cells (⟨.map (some bf), .map (some b1), .map (some bl), .slice p74 (S.es ++ [nt.ent p72 c72]).length c74, .slice p57 (S.line ++ [S.es.length]).length c57, S.first, S.boot⟩ : Mod).c 207 (0, 0)) :: mapO bf S.fw S.fc :: mapO b1 l1 c1 :: mapO bl S.lo S.lc :: (A74 ++ (A57 ++ (A72 ++ Ar)) ++ R)) (.inr rfl) (.cons (res_tmp rfl) .nil) .auto ?_
  exact ⟨by rw [hpk]; rfl, _, rfl, .inl ⟨hpk, l1, c1, p72, c72, htk, bf, b1, bl, p74, c74, p57, c57, A74, A57, A72 ++ Ar, hI.packed hw hmo _ _ hn, h74, h57, hAn, rfl⟩⟩
end Go.Proofs.Ytobmcpoejhhemaa
