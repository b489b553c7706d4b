import Derived.Test.YtobmcpoejhhemaaOMpA
import Derived.Test.YtobmcpoejhhemaaOTabK
namespace Go.Proofs.Ytobmcpoejhhemaa
open Go.E

/-- A message that was packed, its records as a list. -/
structure EntR where
  epoch : Int
  n : Int
  p : Option Addr
  cap : Nat
  recs : List Rec
  there : Bool
  synced : Bool
  credited : Bool
def EntR.x (e : EntR) : Entr := ⟨e.epoch, e.n, .slice e.p e.recs.length e.cap, e.there, e.synced, e.credited⟩
def eEntR : Enc EntR := ⟨fun e => e.x.c, 6, fun e => siz_Entr _⟩
theorem one_EntR (e : EntR) : ∀ u ∈ (eEntR.c e).toList, u.oneCell' = true := one_Entr e.x rfl
/-- A note, its records as a list. -/
structure NoteR where
  kind : Int
  key : Key
  total : Tot
  p : Option Addr
  cap : Nat
  recs : List Rec
  epoch : Int
  n : Int
  first : Int
  next : Int
def NoteR.x (t : NoteR) : Note := ⟨t.kind, t.key, t.total, .slice t.p t.recs.length t.cap, t.epoch, t.n, t.first, t.next⟩
structure NoteR.Wf (t : NoteR) : Prop where
  kind_ : InK .i64 t.kind
  key_ : t.key.Wf
  total_ : t.total.Wf
  recs_ : ∀ r ∈ t.recs, r.Wf
  epoch_ : InK .u32 t.epoch
  n_ : InK .u64 t.n
  first_ : InK .u64 t.first
  next_ : InK .u64 t.next
  few_ : t.recs.length ≤ 1000
/-- A model. -/
structure MS where
  fw : List MEnt
  fc : Nat
  ca : List MEnt
  cc : Nat
  lo : List MEnt
  lc : Nat
  es : List EntR
  line : List Nat
  first : Int
  boot : Int
structure EOk (e : EntR) : Prop where
  ep : InK .u32 e.epoch
  nn : InK .u64 e.n
  rw : ∀ r ∈ e.recs, r.Wf
  rl : e.recs.length ≤ 1000
structure MI (S : MS) : Prop where
  f : MOk S.fw S.fc
  c : MOk S.ca S.cc
  l : MOk S.lo S.lc
  ew : ∀ e ∈ S.es, EOk e
  en : S.es.length ≤ 1000
  ln : S.line.length ≤ S.es.length
  li : ∀ i ∈ S.line, i < S.es.length
  fi : InK .u64 S.first
  bo : InK .u32 S.boot
def lnI (l : List Nat) : List Int := l.map fun i : Nat => (i : Int)
theorem lnI_len (l : List Nat) : (lnI l).length = l.length := by simp [lnI]
def modO (bm bf bc bl : Nat) (pe : Option Addr) (ne ce : Nat) (pl : Option Addr) (nl cl : Nat) (first boot : Int) : Nat × Obj :=
  (bm, .cells (⟨.map (some bf), .map (some bc), .map (some bl), .slice pe ne ce, .slice pl nl cl, first, boot⟩ : Mod).c 207 (0, 0))
def ModM (bm : Nat) (S : MS) (M : Mem) : Prop := ∃ bf bc bl pe ce pl cl Ae Al Ar, MI S ∧ OwnL eEntR 139 pe ce S.es Ae ∧ OwnL (eI .i64) 3 pl cl (lnI S.line) Al ∧ (∀ e ∈ S.es, Lst eRec e.p e.recs Ar) ∧
  M = modO bm bf bc bl pe S.es.length ce pl S.line.length cl S.first S.boot :: mapO bf S.fw S.fc :: mapO bc S.ca S.cc :: mapO bl S.lo S.lc :: (Ae ++ (Al ++ Ar))
theorem ModM.mi {bm : Nat} {S : MS} {M : Mem} (h : ModM bm S M) : MI S := by
  obtain ⟨_, _, _, _, _, _, _, _, _, _, h, _⟩ := h
  exact h
theorem ze139 : Zer Try.prog 139 (.agg (⟨0, 0, .slice none 0 0, false, false, false⟩ : Entr).c) := fun _ => by kernel_rfl
theorem lst_none {α : Type} {E : Enc α} {l : List α} {M : Mem} (h : Lst E none l M) : l = [] := by
  rcases h with h | ⟨_, _, _, _, _, h, _⟩
  · exact h
  · cases h
theorem ct_cloneR {p : Option Addr} {c : Nat} {l : List Rec} {R : Mem} (hl : Lst eRec p l R) (hm : l.length ≤ 100000) :
    Ct Try.prog 171 [.slice p l.length c].toArray R (fun v M' => ∃ p' c' A, v = .slice p' l.length c' ∧ OwnL eRec 35 p' c' l A ∧ M' = A ++ R) := by
  cases p with
  | none =>
    have hn := lst_none hl
    subst hn
    refine ct_body (rv := [.tmp 2]) [(0, _)] Try.func171 (by kernel_rfl) Try.ntmps171 Try.results171 rfl rfl (fun w0 => ?_)
    refine p_seq0 ?_
    refine p_plain0 (0 :: []) ?_
    refine go_q0 2 (.assign (.const (.slice none 0 0))) 102 (qv_assign rfl) ?_
    refine go_nil ?_
    change G _ _ _ _
    refine p_seq0 ?_
    refine p_seq0 ?_
    refine p_plain0 (0 :: 1 :: []) ?_
    refine go_q0 3 (.move (.tmp 0)) 102 (qv_move rfl) ?_
    refine go_q0 4 (.binOp .eql 102 (.tmp 3) (.const (.slice none 0 0)) 102) 4 (qv_eqlS un102 rfl) ?_
    refine go_nil ?_
    change G _ _ _ _
    refine p_weaken [0, 2, 4] rfl ?_
    refine p_condT (.tmp 4) (by kernel_rfl) rfl ?_
    refine p_seq0 ?_
    refine p_plain0 (0 :: []) ?_
    refine go_q0 2 (.assign (.const (.slice none 0 0))) 102 (qv_assign rfl) ?_
    refine go_nil ?_
    change G _ _ _ _
    refine p_weaken [0, 2] rfl ?_
    refine p_ret0 ?_
    try dsimp only [thenQ, inBlockQ]
    try rw [if_pos rfl]
    refine ret_left (R) (.inr rfl) (.cons (res_tmp rfl) .nil) .auto ?_
    exact ⟨none, 0, [], rfl, OwnL.nil, rfl⟩
  | some ad =>
    refine ct_body (rv := [.tmp 2]) [(0, _)] Try.func171 (by kernel_rfl) Try.ntmps171 Try.results171 rfl rfl (fun w0 => ?_)
    refine p_seq0 ?_
    refine p_plain0 (0 :: []) ?_
    refine go_q0 2 (.assign (.const (.slice none 0 0))) 102 (qv_assign rfl) ?_
    refine go_nil ?_
    change G _ _ _ _
    refine p_seq0 ?_
    refine p_seq0 ?_
    refine p_plain0 (0 :: 1 :: []) ?_
    refine go_q0 3 (.move (.tmp 0)) 102 (qv_move rfl) ?_
    refine go_q0 4 (.binOp .eql 102 (.tmp 3) (.const (.slice none 0 0)) 102) 4 (qv_eqlS un102 rfl) ?_
    refine go_nil ?_
    change G _ _ _ _
    refine p_weaken [0, 2, 4] rfl ?_
    refine p_condF (.tmp 4) (by kernel_rfl) rfl ?_
    refine p_skip0 ?_
    change G _ _ _ _
    refine p_weaken [0, 2] rfl ?_
    refine p_seq0 ?_
    refine p_plain0 (0 :: 1 :: 2 :: 3 :: []) ?_
    refine go_s0 (some 5) (.buildSlice 102 0 #[]) 102 ?_
    refine os_buildSlice (Nat.le_of_ble_eq_true rfl) rfl (bls102_0) (fun b5 => ?_)
    refine go_q0 6 (.move (.tmp 0)) 102 (qv_move rfl) ?_
    refine go_s0 (some 7) (.call { callee := .builtin .append, args := #[.tmp 5, .tmp 6], argTypes := #[102, 102] }) 102 ?_
    refine os_appendR (E := eRec) (l := []) (l2 := l) rfl el102 rfl rfl rfl rfl (OwnL.of_build rfl rfl (by decide)) (Sel.cons .here .nil) (Lst.tail hl) one_Rec (by simp [maxLen]; omega) (by simp; omega) (fun p7 c7 A7 h7 => ?_)
    rw [List.nil_append] at h7 ⊢
    refine go_q0 2 (.assign (.tmp 7)) 102 (qv_assign rfl) ?_
    refine go_nil ?_
    change G _ _ _ _
    refine p_weaken [2] rfl ?_
    refine p_ret0 ?_
    try dsimp only [thenQ, inBlockQ]
    try rw [if_pos rfl]
    refine ret_left (A7 ++ R) (.inr rfl) (.cons (res_tmp rfl) .nil) .auto ?_
    exact ⟨p7, c7, A7, rfl, h7, rfl⟩
theorem ct_cloneI {p : Option Addr} {c n : Nat} {l : List Int} {R : Mem} (hl : Lst (eI .i64) p l R) (hn : n = l.length) (hm : l.length ≤ 100000) :
    Ct Try.prog 138 [.slice p n c].toArray R (fun v M' => ∃ p' c' A, v = .slice p' l.length c' ∧ OwnL (eI .i64) 3 p' c' l A ∧ M' = A ++ R) := by
  subst hn
  cases p with
  | none =>
    have hn := lst_none hl
    subst hn
    refine ct_body (rv := [.tmp 2]) [(0, _)] Try.func138 (by kernel_rfl) Try.ntmps138 Try.results138 rfl rfl (fun w0 => ?_)
    refine p_seq0 ?_
    refine p_plain0 (0 :: []) ?_
    refine go_q0 2 (.assign (.const (.slice none 0 0))) 89 (qv_assign rfl) ?_
    refine go_nil ?_
    change G _ _ _ _
    refine p_seq0 ?_
    refine p_seq0 ?_
    refine p_plain0 (0 :: 1 :: []) ?_
    refine go_q0 3 (.move (.tmp 0)) 89 (qv_move rfl) ?_
    refine go_q0 4 (.binOp .eql 89 (.tmp 3) (.const (.slice none 0 0)) 89) 4 (qv_eqlS un89 rfl) ?_
    refine go_nil ?_
    change G _ _ _ _
    refine p_weaken [0, 2, 4] rfl ?_
    refine p_condT (.tmp 4) (by kernel_rfl) rfl ?_
    refine p_seq0 ?_
    refine p_plain0 (0 :: []) ?_
    refine go_q0 2 (.assign (.const (.slice none 0 0))) 89 (qv_assign rfl) ?_
    refine go_nil ?_
    change G _ _ _ _
    refine p_weaken [0, 2] rfl ?_
    refine p_ret0 ?_
    try dsimp only [thenQ, inBlockQ]
    try rw [if_pos rfl]
    refine ret_left (R) (.inr rfl) (.cons (res_tmp rfl) .nil) .auto ?_
    exact ⟨none, 0, [], rfl, OwnL.nil, rfl⟩
  | some ad =>
    refine ct_body (rv := [.tmp 2]) [(0, _)] Try.func138 (by kernel_rfl) Try.ntmps138 Try.results138 rfl rfl (fun w0 => ?_)
    refine p_seq0 ?_
    refine p_plain0 (0 :: []) ?_
    refine go_q0 2 (.assign (.const (.slice none 0 0))) 89 (qv_assign rfl) ?_
    refine go_nil ?_
    change G _ _ _ _
    refine p_seq0 ?_
    refine p_seq0 ?_
    refine p_plain0 (0 :: 1 :: []) ?_
    refine go_q0 3 (.move (.tmp 0)) 89 (qv_move rfl) ?_
    refine go_q0 4 (.binOp .eql 89 (.tmp 3) (.const (.slice none 0 0)) 89) 4 (qv_eqlS un89 rfl) ?_
    refine go_nil ?_
    change G _ _ _ _
    refine p_weaken [0, 2, 4] rfl ?_
    refine p_condF (.tmp 4) (by kernel_rfl) rfl ?_
    refine p_skip0 ?_
    change G _ _ _ _
    refine p_weaken [0, 2] rfl ?_
    refine p_seq0 ?_
    refine p_plain0 (0 :: 1 :: 2 :: 3 :: []) ?_
    refine go_s0 (some 5) (.buildSlice 89 0 #[]) 89 ?_
    refine os_buildSlice (Nat.le_of_ble_eq_true rfl) rfl (bls89_0) (fun b5 => ?_)
    refine go_q0 6 (.move (.tmp 0)) 89 (qv_move rfl) ?_
    refine go_s0 (some 7) (.call { callee := .builtin .append, args := #[.tmp 5, .tmp 6], argTypes := #[89, 89] }) 89 ?_
    refine os_appendR (E := eI .i64) (l := []) (l2 := l) rfl el89 rfl rfl rfl rfl (OwnL.of_build rfl rfl (by decide)) (Sel.cons .here .nil) (Lst.tail hl) (eI_one _) (by simp [maxLen]; omega) (by simp; omega) (fun p7 c7 A7 h7 => ?_)
    rw [List.nil_append] at h7 ⊢
    refine go_q0 2 (.assign (.tmp 7)) 89 (qv_assign rfl) ?_
    refine go_nil ?_
    change G _ _ _ _
    refine p_weaken [2] rfl ?_
    refine p_ret0 ?_
    try dsimp only [thenQ, inBlockQ]
    try rw [if_pos rfl]
    refine ret_left (A7 ++ R) (.inr rfl) (.cons (res_tmp rfl) .nil) .auto ?_
    exact ⟨p7, c7, A7, rfl, h7, rfl⟩
theorem ct_copied {e : EntR} {R : Mem} (hl : Lst eRec e.p e.recs R) (hm : e.recs.length ≤ 1000) :
    Ct Try.prog 132 [.agg e.x.c].toArray R (fun v M' => ∃ p' c' A, v = .agg ({ e with p := p', cap := c' } : EntR).x.c ∧ OwnL eRec 35 p' c' e.recs A ∧ M' = A ++ R) := by
  refine ct_body (rv := [.cell 2 139]) [(0, _)] Try.func132 (by kernel_rfl) Try.ntmps132 Try.results132 rfl rfl (fun w0 => ?_)
  refine p_seq0 ?_
  refine p_plain0 (0 :: 1 :: []) ?_
  refine go_s0 (some 1) (.box 139 (.tmp 0)) 0 ?_
  refine os_boxA rfl rfl (fun b1 => ?_)
  refine go_s0 (some 2) (.alloc 139) 0 ?_
  refine os_allocA rfl ze139 (fun b2 => ?_)
  refine go_nil ?_
  change G _ _ _ _
  refine p_weaken [1, 2] rfl ?_
  refine p_seq0 ?_
  refine p_plain0 (0 :: 1 :: 2 :: 3 :: 4 :: []) ?_
  refine go_q0 3 (.fieldAddr 139 (.tmp 1) 2) 0 (qv_field rfl fd139_2) ?_
  refine go_q0 4 (.load 102 (.tmp 3)) 102 (qv_load rfl .auto (ldv_sca sc102 (get_Entr_2 _))) ?_
  refine go_s0 (some 5) (.call { callee := .value (.func 171), args := #[.tmp 4], argTypes := #[102] }) 102 ?_
  refine os_call (Nat.le_of_ble_eq_true rfl) en171 rfl (by exact Sel.skip (Sel.skip Sel.all)) (ct_cloneR hl (by omega)) ?_
  rintro v5 A5 ⟨p5, c5, A5, rfl, h5, rfl⟩
  try dsimp only [List.nil_append, List.cons_append]
  refine go_q0 6 (.fieldAddr 139 (.tmp 1) 2) 0 (qv_field rfl fd139_2) ?_
  refine go_s0 none (.store 102 (.tmp 6) (.tmp 5)) 0 ?_
  refine os_store1 rfl rfl sz102 rfl rfl .auto (Nat.le_of_ble_eq_true rfl) (set_Entr_2 _ _) ?_
  refine go_nil ?_
  change G _ _ _ _
  refine p_weaken [1, 2] rfl ?_
  refine p_seq0 ?_
  refine p_plain0 (0 :: 1 :: []) ?_
  refine go_q0 7 (.load 139 (.tmp 1)) 139 (qv_load rfl .auto (ldv_agg agg139 (extw_Entr _) (Nat.le_of_ble_eq_true rfl))) ?_
  refine go_s0 none (.store 139 (.tmp 2) (.tmp 7)) 0 ?_
  refine os_store rfl rfl sz139 rfl (one_Entr _ rfl) .auto (Nat.le_of_ble_eq_true rfl) (splw_Entr _ _ (siz_Entr _)) ?_
  refine go_nil ?_
  change G _ _ _ _
  refine p_weaken [2] rfl ?_
  refine p_ret0 ?_
  try dsimp only [thenQ, inBlockQ]
  try rw [if_pos rfl]
  refine ret_left (A5 ++ R) (.inr rfl) (.cons (res_cell rfl (At.mem .auto) (ldv_agg agg139 (extw_Entr _) (Nat.le_of_ble_eq_true rfl))) .nil) .auto ?_
  exact ⟨p5, c5, A5, rfl, h5, rfl⟩
def MS0 : MS := ⟨[], 0, [], 0, [], 0, [], [], 0, 0⟩
theorem MI.start : MI MS0 := ⟨MOk.nil 0, MOk.nil 0, MOk.nil 0, fun _ h => absurd h List.not_mem_nil, by decide, by decide, fun _ h => absurd h List.not_mem_nil, ⟨by decide, by decide⟩, ⟨by decide, by decide⟩⟩
theorem ct_MNew : Ct Try.prog 72 [].toArray [] (fun v M' => ∃ bm, v = .pointer (some ⟨bm, 0, none⟩) ∧ ModM bm MS0 M') := by
  refine ct_body (rv := [.tmp 0]) [] Try.func72 (by kernel_rfl) Try.ntmps72 Try.results72 rfl rfl (fun w0 => ?_)
  refine p_seq0 ?_
  refine p_plain0 (0 :: []) ?_
  refine go_q0 0 (.assign (.const (.pointer none))) 131 (qv_assign rfl) ?_
  refine go_nil ?_
  change G _ _ _ _
  refine p_seq0 ?_
  refine p_plain0 (0 :: 1 :: 2 :: 3 :: 4 :: 5 :: []) ?_
  refine go_s0 (some 1) (.makeMap 205 none) 205 ?_
  refine os_makeMapT rfl (fun b1 => ?_)
  refine go_s0 (some 2) (.makeMap 205 none) 205 ?_
  refine os_makeMapT rfl (fun b2 => ?_)
  refine go_s0 (some 3) (.makeMap 205 none) 205 ?_
  refine os_makeMapT rfl (fun b3 => ?_)
  refine go_q0 4 (.build 207 #[(0, .tmp 1), (1, .tmp 2), (2, .tmp 3)]) 207 (qv_build rfl (bld207_0_1_2 _ _ _)) ?_
  refine go_s0 (some 5) (.box 207 (.tmp 4)) 131 ?_
  refine os_boxA rfl rfl (fun b5 => ?_)
  refine go_q0 0 (.assign (.tmp 5)) 131 (qv_assign rfl) ?_
  refine go_nil ?_
  change G _ _ _ _
  refine p_weaken [0] rfl ?_
  refine p_ret0 ?_
  try dsimp only [thenQ, inBlockQ]
  try rw [if_pos rfl]
  refine ret_left ([(b5, .cells (⟨.map (some b1), .map (some b2), .map (some b3), .slice none 0 0, .slice none 0 0, 0, 0⟩ : Mod).c 207 (0, 0)), mapO b1 [] 0, mapO b2 [] 0, mapO b3 [] 0]) (.inr rfl) (.cons (res_tmp rfl) .nil) .auto ?_
  exact ⟨b5, rfl, b1, b2, b3, none, 0, none, 0, [], [], [], MI.start, OwnL.nil, OwnL.nil, fun _ h => absurd h List.not_mem_nil, rfl⟩
section
variable {bm bf bc bl ne ce nl cl : Nat} {pe pl : Option Addr} {first boot : Int}
theorem ct_Mnext (hn : nl ≤ 100000) : Ct Try.prog 136 [.pointer (some ⟨bm, 0, none⟩)].toArray [modO bm bf bc bl pe ne ce pl nl cl first boot] (fun v M' => v = .int .u64 (nl : Int) ∧ M' = [modO bm bf bc bl pe ne ce pl nl cl first boot]) := by
  unfold modO
  refine ct_body (rv := [.tmp 2]) [(0, _)] Try.func136 (by kernel_rfl) Try.ntmps136 Try.results136 rfl rfl (fun w0 => ?_)
  refine p_seq0 ?_
  refine p_plain0 (0 :: []) ?_
  refine go_q0 2 (.assign (.const (.int .u64 0))) 30 (qv_assign rfl) ?_
  refine go_nil ?_
  change G _ _ _ _
  refine p_seq0 ?_
  refine p_plain0 (0 :: 1 :: 2 :: 3 :: 4 :: 5 :: 6 :: []) ?_
  refine go_q0 3 (.move (.tmp 0)) 131 (qv_move rfl) ?_
  refine go_q0 4 (.nilCheck (.tmp 3)) 0 (qv_nilCheck rfl) ?_
  refine go_q0 5 (.fieldAddr 207 (.tmp 4) 4) 0 (qv_field rfl fd207_4) ?_
  refine go_q0 6 (.load 89 (.tmp 5)) 89 (qv_load rfl .auto (ldv_sca sc89 (get_Mod_4 _))) ?_
  refine go_q0 7 (.call { callee := .builtin .len, args := #[.tmp 6], argTypes := #[89] }) 3 (qv_lenS un89 rfl) ?_
  refine go_q0 8 (.convert 3 30 (.tmp 7)) 30 (qv_conv un3 un30 rfl (by first | exact IntWalk.u64_in _ (by omega) | rfl)) ?_
  refine go_q0 2 (.assign (.tmp 8)) 30 (qv_assign rfl) ?_
  refine go_nil ?_
  change G _ _ _ _
  refine p_weaken [2] rfl ?_
  refine p_ret0 ?_
  try dsimp only [thenQ, inBlockQ]
  try rw [if_pos rfl]
  refine ret_left ([(bm, .cells (⟨.map (some bf), .map (some bc), .map (some bl), .slice pe ne ce, .slice pl nl cl, first, boot⟩ : Mod).c 207 (0, 0))]) (.inr rfl) (.cons (res_tmp rfl) .nil) .auto ?_
  exact ⟨rfl, rfl⟩
theorem ct_MBoot : Ct Try.prog 76 [.pointer (some ⟨bm, 0, none⟩)].toArray [modO bm bf bc bl pe ne ce pl nl cl first boot] (fun v M' => v = .int .u32 boot ∧ M' = [modO bm bf bc bl pe ne ce pl nl cl first boot]) := by
  unfold modO
  refine ct_body (rv := [.tmp 2]) [(0, _)] Try.func76 (by kernel_rfl) Try.ntmps76 Try.results76 rfl rfl (fun w0 => ?_)
  refine p_seq0 ?_
  refine p_plain0 (0 :: []) ?_
  refine go_q0 2 (.assign (.const (.int .u32 0))) 77 (qv_assign rfl) ?_
  refine go_nil ?_
  change G _ _ _ _
  refine p_seq0 ?_
  refine p_seq0 ?_
  refine p_plain0 (0 :: 1 :: []) ?_
  refine go_q0 3 (.move (.tmp 0)) 131 (qv_move rfl) ?_
  refine go_q0 4 (.binOp .eql 131 (.tmp 3) (.const (.pointer none)) 131) 4 (qv_eqlP un131 rfl) ?_
  refine go_nil ?_
  change G _ _ _ _
  refine p_weaken [0, 2, 4] rfl ?_
  refine p_condF (.tmp 4) (by kernel_rfl) rfl ?_
  refine p_skip0 ?_
  change G _ _ _ _
  refine p_weaken [0, 2] rfl ?_
  refine p_seq0 ?_
  refine p_plain0 (0 :: 1 :: 2 :: 3 :: 4 :: []) ?_
  refine go_q0 5 (.move (.tmp 0)) 131 (qv_move rfl) ?_
  refine go_q0 6 (.nilCheck (.tmp 5)) 0 (qv_nilCheck rfl) ?_
  refine go_q0 7 (.fieldAddr 207 (.tmp 6) 6) 0 (qv_field rfl fd207_6) ?_
  refine go_q0 8 (.load 77 (.tmp 7)) 77 (qv_load rfl .auto (ldv_sca sc77 (get_Mod_6 _))) ?_
  refine go_q0 2 (.assign (.tmp 8)) 77 (qv_assign rfl) ?_
  refine go_nil ?_
  change G _ _ _ _
  refine p_weaken [2] rfl ?_
  refine p_ret0 ?_
  try dsimp only [thenQ, inBlockQ]
  try rw [if_pos rfl]
  refine ret_left ([(bm, .cells (⟨.map (some bf), .map (some bc), .map (some bl), .slice pe ne ce, .slice pl nl cl, first, boot⟩ : Mod).c 207 (0, 0))]) (.inr rfl) (.cons (res_tmp rfl) .nil) .auto ?_
  exact ⟨rfl, rfl⟩
end
/-- Entries, their records elsewhere. -/
def Moved (es es' : List EntR) : Prop := es'.length = es.length ∧ ∀ (j : Nat) (e e' : EntR), es[j]? = some e → es'[j]? = some e' → e' = { e with p := e'.p, cap := e'.cap }
theorem Moved.snoc {es es' : List EntR} {i : Nat} {e : EntR} (h : Moved (es.take i) es') (hi : es[i]? = some e) (p : Option Addr) (c : Nat) : Moved (es.take (i + 1)) (es' ++ [{ e with p := p, cap := c }]) := by
  have hil := (List.getElem?_eq_some_iff.1 hi).1
  have hl : es'.length = i := by rw [h.1, List.length_take]; omega
  refine ⟨by rw [List.length_append, hl, List.length_take]; simp; omega, fun j a a' ha ha' => ?_⟩
  rcases Nat.lt_trichotomy j i with h1 | h1 | h1
  · rw [List.getElem?_append_left (by omega)] at ha'
    rw [List.getElem?_take, if_pos (by omega)] at ha
    exact h.2 j a a' (by rw [List.getElem?_take, if_pos h1]; exact ha) ha'
  · subst h1
    rw [List.getElem?_append_right (by omega), hl, Nat.sub_self] at ha'
    rw [List.getElem?_take, if_pos (by omega), hi] at ha
    cases ha
    cases ha'
    rfl
  · rw [List.getElem?_take, if_neg (by omega)] at ha
    cases ha
theorem ct_MEntries {bm : Nat} {S : MS} {M : Mem} (hM : ModM bm S M) :
    Ct Try.prog 74 [.pointer (some ⟨bm, 0, none⟩)].toArray M (fun v M' => ∃ es' q cq A B, Moved S.es es' ∧ v = .slice q es'.length cq ∧ OwnL eEntR 139 q cq es' A ∧ (∀ e ∈ es', Lst eRec e.p e.recs B) ∧ M' = A ++ (B ++ M)) := by
  obtain ⟨bf, bc, bl, pe, ce, pl, cl, Ae, Al, Ar, hI, hE, hL, hA, rfl⟩ := hM
  have hen := hI.en
  refine ct_body (rv := [.tmp 2]) [(0, _)] Try.func74 (by kernel_rfl) Try.ntmps74 Try.results74 rfl rfl (fun w0 => ?_)
  refine p_seq0 ?_
  refine p_plain0 (0 :: []) ?_
  refine go_q0 2 (.assign (.const (.slice none 0 0))) 136 (qv_assign rfl) ?_
  refine go_nil ?_
  change G _ _ _ _
  refine p_seq0 ?_
  refine p_seq0 ?_
  refine p_plain0 (0 :: 1 :: []) ?_
  refine go_q0 5 (.move (.tmp 0)) 131 (qv_move rfl) ?_
  refine go_q0 6 (.binOp .eql 131 (.tmp 5) (.const (.pointer none)) 131) 4 (qv_eqlP un131 rfl) ?_
  refine go_nil ?_
  change G _ _ _ _
  refine p_weaken [0, 2, 6] rfl ?_
  refine p_condF (.tmp 6) (by kernel_rfl) rfl ?_
  refine p_skip0 ?_
  change G _ _ _ _
  refine p_weaken [0, 2] rfl ?_
  refine p_seq0 ?_
  refine p_seq0 ?_
  refine p_plain0 (0 :: 1 :: 2 :: 3 :: 4 :: 5 :: []) ?_
  refine go_q0 7 (.move (.tmp 0)) 131 (qv_move rfl) ?_
  refine go_q0 8 (.nilCheck (.tmp 7)) 0 (qv_nilCheck rfl) ?_
  refine go_q0 9 (.fieldAddr 207 (.tmp 8) 3) 0 (qv_field rfl fd207_3) ?_
  refine go_q0 10 (.load 136 (.tmp 9)) 136 (qv_load rfl .auto (ldv_sca sc136 (get_Mod_3 _))) ?_
  refine go_q0 11 (.call { callee := .builtin .len, args := #[.tmp 10], argTypes := #[136] }) 3 (qv_lenS un136 rfl) ?_
  refine go_q0 12 (.move (.const (.int .i64 0))) 3 (qv_move rfl) ?_
  refine go_nil ?_
  change G _ _ _ _
  refine p_weaken [2, 10, 11, 12] rfl ?_
  refine p_block 0 (by kernel_rfl) ?_
  refine p_loopE (by kernel_rfl) (fun s m => ∃ (i : Nat) (es' : List EntR) (q : Option Addr) (cq : Nat) (A : Mem) (B : Mem), (i ≤ S.es.length) ∧ (Moved (S.es.take i) es') ∧ (OwnL eEntR 139 q cq es' A) ∧ (∀ e ∈ es', Lst eRec e.p e.recs B) ∧ Ge s ⟨[], [(2, .slice q es'.length cq), (10, .slice pe S.es.length ce), (11, .int .i64 S.es.length), (12, .int .i64 i)], A ++ (B ++ (modO bm bf bc bl pe S.es.length ce pl S.line.length cl S.first S.boot :: mapO bf S.fw S.fc :: mapO bc S.ca S.cc :: mapO bl S.lo S.lc :: (Ae ++ (Al ++ Ar))))⟩ ∧ m = S.es.length + 1 - i) ?_ ?_
  · exact ⟨_, ⟨0, [], none, 0, [], [], by omega, ⟨rfl, fun j a a' ha => by rw [List.take_zero] at ha; cases ha⟩, OwnL.nil, fun _ h => absurd h List.not_mem_nil, ⟨rfl, ⟨[2, 10, 11, 12], rfl⟩, .auto⟩, rfl⟩⟩
  rintro s m ⟨i, es', q, cq, A, B, hi, hmv, hO, hB, hs, rfl⟩
  refine ge_ok hs ?_
  refine p_seq0 ?_
  refine p_plain0 (0 :: []) ?_
  refine go_q0 13 (.binOp .lss 3 (.tmp 12) (.tmp 11) 3) 0 (qv_lss rfl rfl rfl) ?_
  refine go_nil ?_
  change G _ _ _ _
  refine p_seq0 ?_
  refine p_cond (.tmp 13) (by kernel_rfl) rfl (fun h13 => ?_) (fun h13 => ?_)
  rotate_left
  · replace h13 := kn h13
    refine p_exit 0 (by kernel_rfl) ?_
    change G _ _ _ _
    refine p_weaken [2] rfl ?_
    refine p_seq0 ?_
    refine p_plain0 (0 :: 1 :: []) ?_
    refine go_q0 22 (.move (.tmp 2)) 136 (qv_move rfl) ?_
    refine go_q0 2 (.assign (.tmp 22)) 136 (qv_assign rfl) ?_
    refine go_nil ?_
    change G _ _ _ _
    refine p_weaken [2] rfl ?_
    refine p_ret0 ?_
    try dsimp only [thenQ, inBlockQ]
    try rw [if_pos rfl]
    have hie : i = S.es.length := by omega
    subst hie
    rw [List.take_length] at hmv
    refine ret_left (A ++ (B ++ (modO bm bf bc bl pe S.es.length ce pl S.line.length cl S.first S.boot :: mapO bf S.fw S.fc :: mapO bc S.ca S.cc :: mapO bl S.lo S.lc :: (Ae ++ (Al ++ Ar))))) (.inr rfl) (.cons (res_tmp rfl) .nil) .auto ?_
    exact ⟨es', q, cq, A, B, hmv, rfl, hO, hB, rfl⟩
  replace h13 := kn h13
  refine p_skip0 ?_
  change G _ _ _ _
  refine p_weaken [2, 10, 11, 12] rfl ?_
  refine p_seq0 ?_
  refine p_block 1 (by kernel_rfl) ?_
  refine p_seq0 ?_
  obtain ⟨bb, oo, cu, ee, ff, hpe, mm, H⟩ := hE.lst.at_ (i := i) (by omega)
  obtain ⟨x, hx⟩ : ∃ x, S.es[i]? = some x := ⟨_, List.getElem?_eq_getElem (by omega)⟩
  have hxm := List.mem_of_getElem? hx
  subst hpe
  have hll : es'.length = i := by rw [hmv.1, List.length_take]; omega
  refine p_plain0 (0 :: 1 :: 2 :: 3 :: []) ?_
  refine go_q0 14 (.indexAddr 136 (.tmp 10) (.tmp 12)) 0 (qv_index un136 sz139 rfl rfl rfl (by omega)) ?_
  refine go_q0 15 (.load 139 (.tmp 14)) 139 (qv_load rfl (by repeat first | exact At.of_mem (List.mem_append_right _ (List.mem_append_right _ (.tail _ (.tail _ (.tail _ (.tail _ (List.mem_append_left _ mm))))))) | apply At.next) (ldv_els (E := eEntR) H hx (by decide) agg139 rfl)) ?_
  refine go_s0 (some 4) (.alloc 139) 0 ?_
  refine os_allocA rfl ze139 (fun b4 => ?_)
  refine go_s0 none (.store 139 (.tmp 4) (.tmp 15)) 0 ?_
  refine os_store rfl rfl sz139 rfl (one_EntR x) .auto (Nat.le_of_ble_eq_true rfl) (splw_Entr x.x _ (siz_Entr _)) ?_
  refine go_nil ?_
  change G _ _ _ _
  refine p_weaken [2, 4, 10, 11, 12] rfl ?_
  refine p_plain0 (0 :: 1 :: 2 :: 3 :: 4 :: 5 :: []) ?_
  refine go_q0 16 (.move (.tmp 2)) 136 (qv_move rfl) ?_
  refine go_q0 17 (.load 139 (.tmp 4)) 139 (qv_load rfl .auto (ldv_agg agg139 (extw_Entr x.x) (Nat.le_of_ble_eq_true rfl))) ?_
  refine go_s0 (some 18) (.call { callee := .value (.func 132), args := #[.tmp 17], argTypes := #[139] }) 139 ?_
  refine os_call (Nat.le_of_ble_eq_true rfl) en132 rfl (by exact Sel.skip (Sel.skipA (Sel.skipA (Sel.skip (Sel.skip (Sel.skip (Sel.skip (Sel.skipA (Sel.skipA Sel.all))))))))) (ct_copied (e := x) (hA x hxm) (hI.ew x hxm).rl) ?_
  rintro v18 A18 ⟨p18, c18, A18, rfl, h18, rfl⟩
  try dsimp only [List.nil_append, List.cons_append]
  refine go_s0 (some 19) (.buildSlice 136 1 #[(0, .tmp 18)]) 136 ?_
  refine os_buildSlice (Nat.le_of_ble_eq_true rfl) rfl (bls136_1 _) (fun b19 => ?_)
  refine go_s0 (some 20) (.call { callee := .builtin .append, args := #[.tmp 16, .tmp 19], argTypes := #[136, 136] }) 136 ?_
  refine os_appendK (E := eEntR) (l := es') (l2 := [{ x with p := p18, cap := c18 }]) rfl el136 rfl rfl rfl rfl hO (by exact .auto) .auto (Go.E.holds_one (E := eEntR) _) one_EntR (by simp [maxLen]; omega) (by simp; omega) (fun p20 c20 A20 h20 => ?_)
  have hBn : ∀ e ∈ es' ++ [{ x with p := p18, cap := c18 }], Lst eRec e.p e.recs (A18 ++ B) := fun e he => by rcases List.mem_append.1 he with h | h; exact (hB e h).right; rw [List.mem_singleton.1 h]; exact h18.lst.left
  refine go_q0 2 (.assign (.tmp 20)) 136 (qv_assign rfl) ?_
  refine go_nil ?_
  change G _ _ _ _
  refine p_weaken [2, 10, 11, 12] rfl ?_
  refine p_plain0 (0 :: 1 :: []) ?_
  refine go_q0 21 (.binOp .add 3 (.tmp 12) (.const (.int .i64 1)) 3) 3 (qv_add rfl rfl (by first | exact IntWalk.i64_in _ (by omega) | exact IntWalk.i64_in _ (by dsimp only; omega) | rfl)) ?_
  refine go_q0 12 (.move (.tmp 21)) 3 (qv_move rfl) ?_
  refine go_nil ?_
  exact ⟨_, ⟨i + 1, _, _, _, _, _, by omega, hmv.snoc hx _ _, h20, hBn, ⟨rfl, ⟨[2, 10, 11, 12], rfl⟩, .auto⟩, rfl⟩, by omega⟩
end Go.Proofs.Ytobmcpoejhhemaa
