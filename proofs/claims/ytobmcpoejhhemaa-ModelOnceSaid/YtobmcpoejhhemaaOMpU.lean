import Derived.Test.YtobmcpoejhhemaaOMpT
import Derived.Test.YtobmcpoejhhemaaOMpRd
import Derived.Test.YtobmcpoejhhemaaOMpS
import Derived.Test.YtobmcpoejhhemaaOMpP
namespace Go.Proofs.Ytobmcpoejhhemaa
open Go.E

def lawRec (k : Key) (t : Tot) (r : Rec) : Tot := if r.key = k then t.plus ⟨r.packets, r.bytes⟩ else t
def lawEnt (k : Key) (t : Tot) (e : EntR) : Tot := if e.credited = true then e.recs.foldl (lawRec k) t else t
theorem ofRec_credited (k : Key) (e : EntR) (P : Parts) (r : Rec) : (ofRec k e P r).credited = if e.credited = true then lawRec k P.credited r else P.credited := by
  unfold ofRec lawRec
  by_cases hk : r.key = k
  · rw [if_pos hk, if_pos hk]
    cases hc : e.credited with
    | true => rw [if_pos rfl, show ix e = 5 by unfold ix; rw [if_pos hc]]; rfl
    | false =>
      rw [if_neg (by decide)]
      have : ix e = 2 ∨ ix e = 3 ∨ ix e = 4 := by
        unfold ix
        rw [hc, if_neg (by decide)]
        split
        · split <;> simp
        · simp
      rcases this with h | h | h <;> rw [h] <;> rfl
  · rw [if_neg hk, if_neg hk, ite_self]
theorem ofEnt_credited (k : Key) (P : Parts) (e : EntR) : (ofEnt k P e).credited = lawEnt k P.credited e := by
  have h : ∀ (rs : List Rec) (P : Parts), (rs.foldl (ofRec k e) P).credited = if e.credited = true then rs.foldl (lawRec k) P.credited else P.credited := by
    intro rs
    induction rs with
    | nil => intro P; simp
    | cons r rs ih =>
      intro P
      rw [List.foldl_cons, ih, ofRec_credited]
      cases e.credited with
      | true => rw [if_pos rfl, if_pos rfl, if_pos rfl]; rfl
      | false => rw [if_neg (by decide), if_neg (by decide)]; simp
  exact h e.recs P
theorem ofAll_credited (k : Key) : ∀ (es : List EntR) (P : Parts), (ofAll k P es).credited = es.foldl (lawEnt k) P.credited
  | [], _ => rfl
  | e :: es, P => by
    show (ofAll k (ofEnt k P e) es).credited = es.foldl (lawEnt k) (lawEnt k P.credited e)
    rw [ofAll_credited k es, ofEnt_credited]
theorem law_moved (k : Key) : ∀ (es es' : List EntR) (t : Tot), Moved es es' → es'.foldl (lawEnt k) t = es.foldl (lawEnt k) t
  | [], es', t, h => by rw [List.length_eq_zero_iff.1 h.1]
  | e :: es, es', t, h => by
    cases es' with
    | nil => cases h.1
    | cons e' es' =>
      have h0 := h.2 0 e e' rfl rfl
      have ht : Moved es es' := ⟨by have := h.1; simpa using this, fun j a a' h1 h2 => h.2 (j + 1) a a' h1 h2⟩
      show es'.foldl (lawEnt k) (lawEnt k t e') = es.foldl (lawEnt k) (lawEnt k t e)
      rw [law_moved k es es' _ ht, show lawEnt k t e' = lawEnt k t e by rw [h0]; rfl]
theorem of_law {S : MS} {es' : List EntR} (k : Key) (h : Moved S.es es') : (ofAll k (parts0 S k) S.es).credited = es'.foldl (lawEnt k) ⟨0, 0⟩ := by
  rw [ofAll_credited, law_moved k _ _ _ h]
  rfl
theorem lawRec_succ {k : Key} {t : Tot} {rs : List Rec} {j : Nat} {r : Rec} (h : rs[j]? = some r) : (rs.take (j + 1)).foldl (lawRec k) t = lawRec k ((rs.take j).foldl (lawRec k) t) r := by
  rw [List.take_add_one, h, List.foldl_append]
  rfl
theorem lawEnt_succ {k : Key} {t : Tot} {es : List EntR} {j : Nat} {e : EntR} (h : es[j]? = some e) : (es.take (j + 1)).foldl (lawEnt k) t = lawEnt k ((es.take j).foldl (lawEnt k) t) e := by
  rw [List.take_add_one, h, List.foldl_append]
  rfl
theorem cntC_succ {es : List EntR} {j : Nat} {e : EntR} (h : es[j]? = some e) : cntC (es.take (j + 1)) = cntC (es.take j) + if e.credited = true then 1 else 0 := by
  unfold cntC
  rw [List.take_add_one, h, List.countP_append]
  cases hc : e.credited <;> simp [hc]
theorem cntC_le (es : List EntR) (j : Nat) : cntC (es.take j) ≤ j := Nat.le_trans List.countP_le_length (by simp; omega)
theorem ct_MBootM {bm : Nat} {S : MS} {M : Mem} (hM : ModM bm S M) : Ct Try.prog 76 [.pointer (some ⟨bm, 0, none⟩)].toArray M (fun v M' => v = .int .u32 S.boot ∧ M' = M) := by
  obtain ⟨bf, bc, bl, pe, ce, pl, cl, Ae, Al, Ar, hI, hE, hL, hA, rfl⟩ := hM
  exact Ct.frame (Sel.cons .here .nil) ct_MBoot
theorem ct_few {l : List NoteR} {R : Mem} {p : Option Addr} {c : Nat} (hl : Lst eNoteR p l R) (hm : l.length ≤ maxLen) (hr : ∀ t ∈ l, t.recs.length ≤ maxLen) :
    Ct Try.prog 70 [.slice p l.length c].toArray R (fun v M' => ∃ z, v = .bool z ∧ (z = true → l.length ≤ 30 ∧ ∀ t ∈ l, t.recs.length ≤ 10) ∧ M' = R) := by
  have hm' : l.length ≤ 9223372036854775807 := hm
  refine ct_body (rv := [.tmp 2]) [(0, _)] Try.func70 (by kernel_rfl) Try.ntmps70 Try.results70 rfl rfl (fun w0 => ?_)
  refine p_seq0 ?_
  refine p_plain0 (0 :: []) ?_
  refine go_q0 2 (.assign (.const (.bool false))) 4 (qv_assign rfl) ?_
  refine go_nil ?_
  change G _ _ _ _
  refine p_seq0 ?_
  refine p_seq0 ?_
  refine p_plain0 (0 :: []) ?_
  refine go_q0 3 (.assign (.const (.int .i64 0))) 3 (qv_assign rfl) ?_
  refine go_nil ?_
  change G _ _ _ _
  refine p_block 0 (by kernel_rfl) ?_
  refine p_loopE (by kernel_rfl) (fun s m => ∃ (i : Nat), (i ≤ l.length) ∧ (i ≤ 31) ∧ (∀ t ∈ l.take i, t.recs.length ≤ 10) ∧ Ge s ⟨[], [(0, .slice p l.length c), (3, .int .i64 i)], R⟩ ∧ m = l.length + 1 - i) ?_ ?_
  · exact ⟨_, ⟨0, by omega, by omega, fun t h => (by rw [List.take_zero] at h; cases h), ⟨rfl, ⟨[0, 3], rfl⟩, .auto⟩, rfl⟩⟩
  rintro s m ⟨i, hi, hi2, ht, hs, rfl⟩
  refine ge_ok hs ?_
  refine p_seq0 ?_
  refine p_seqK [0, 3] rfl (fun frk Mk s => ∃ (z : Bool), (z = (decide ((i : Int) < (l.length : Int)) && decide ((i : Int) < 31))) ∧ Ge s ⟨[], (11, .bool z) :: frk, R⟩) (by kernel_rfl) ?_ ?_
  · refine p_plain0 (0 :: 1 :: 2 :: 3 :: 4 :: 5 :: 6 :: 7 :: []) ?_
    refine go_q0 4 (.move (.tmp 3)) 3 (qv_move rfl) ?_
    refine go_q0 5 (.move (.tmp 0)) 129 (qv_move rfl) ?_
    refine go_q0 6 (.call { callee := .builtin .len, args := #[.tmp 5], argTypes := #[129] }) 3 (qv_lenS un129 rfl) ?_
    refine go_q0 7 (.binOp .lss 3 (.tmp 4) (.tmp 6) 3) 4 (qv_lss rfl rfl rfl) ?_
    refine go_q0 8 (.move (.tmp 7)) 4 (qv_move rfl) ?_
    refine go_case (d := 8) rfl (fun g8 => ?_) (fun g8 => ?_)
    · replace g8 := kn g8
      refine go_q (d := 9) (op := .move (.tmp 3)) (ty := 3) (g := some (4, true)) (by kernel_rfl) ⟨8, by kernel_rfl, rfl⟩ rfl (qv_move rfl) ?_
      refine go_q (d := 10) (op := .binOp .lss 3 (.tmp 9) (.const (.int .i64 31)) 3) (ty := 4) (g := some (4, true)) (by kernel_rfl) ⟨8, by kernel_rfl, rfl⟩ rfl (qv_lss rfl rfl rfl) ?_
      refine go_q0 11 (.pick (.tmp 8) (.tmp 10) (.const (.bool false))) 4 (qv_pick_t rfl rfl) ?_
      refine go_nil ?_
      exact ⟨_, by first | (rw [decide_eq_true g8]; rfl) | (rw [decide_eq_false g8]; rfl), ⟨rfl, ⟨[11, 0, 3], rfl⟩, .auto⟩⟩
    replace g8 := kn g8
    refine go_n (d := 9) (op := .move (.tmp 3)) (ty := 3) (g := some (4, true)) (by kernel_rfl) ⟨8, _, by kernel_rfl, rfl, rfl⟩ rfl ?_
    refine go_n (d := 10) (op := .binOp .lss 3 (.tmp 9) (.const (.int .i64 31)) 3) (ty := 4) (g := some (4, true)) (by kernel_rfl) ⟨8, _, by kernel_rfl, rfl, rfl⟩ rfl ?_
    refine go_q0 11 (.pick (.tmp 8) (.tmp 10) (.const (.bool false))) 4 (qv_pick_f rfl rfl) ?_
    refine go_nil ?_
    exact ⟨_, by first | (rw [decide_eq_true g8]; rfl) | (rw [decide_eq_false g8]; rfl), ⟨rfl, ⟨[11, 0, 3], rfl⟩, .auto⟩⟩
  rintro s ⟨z, hz, hs⟩
  refine ge_ok hs ?_
  refine p_cond (.tmp 11) (by kernel_rfl) rfl (fun h11 => ?_) (fun h11 => ?_)
  rotate_left
  · replace h11 := kn h11
    rw [h11] at hz
    have hz2 : ¬ ((i : Int) < (l.length : Int) ∧ (i : Int) < 31) := fun h => by rw [decide_eq_true h.1, decide_eq_true h.2] at hz; cases hz
    refine p_exit 0 (by kernel_rfl) ?_
    change G _ _ _ _
    refine p_weaken [0] rfl ?_
    refine p_seq0 ?_
    refine p_plain0 (0 :: 1 :: 2 :: 3 :: []) ?_
    refine go_q0 21 (.move (.tmp 0)) 129 (qv_move rfl) ?_
    refine go_q0 22 (.call { callee := .builtin .len, args := #[.tmp 21], argTypes := #[129] }) 3 (qv_lenS un129 rfl) ?_
    refine go_q0 23 (.binOp .leq 3 (.tmp 22) (.const (.int .i64 30)) 3) 4 (qv_leq rfl rfl rfl) ?_
    refine go_q0 2 (.assign (.tmp 23)) 4 (qv_assign rfl) ?_
    refine go_nil ?_
    change G _ _ _ _
    refine p_weaken [2] rfl ?_
    refine p_ret0 ?_
    try dsimp only [thenQ, inBlockQ]
    try rw [if_pos rfl]
    refine ret_left (R) (.inr rfl) (.cons (res_tmp rfl) .nil) .auto ?_
    refine ⟨_, rfl, fun h => ?_, rfl⟩
    have hle : l.length ≤ 30 := by have := of_decide_eq_true h; omega
    have hie : i = l.length := by omega
    rw [hie, List.take_length] at ht
    exact ⟨hle, ht⟩
  replace h11 := kn h11
  rw [h11] at hz
  have hz2 := hz.symm
  simp only [Bool.and_eq_true, decide_eq_true_eq] at hz2
  obtain ⟨hil, hi31⟩ := hz2
  refine p_skip0 ?_
  change G _ _ _ _
  refine p_weaken [0, 3] rfl ?_
  refine p_seq0 ?_
  refine p_block 1 (by kernel_rfl) ?_
  refine p_seq0 ?_
  obtain ⟨bb, oo, cu, ee, ff, hpe, mm, H⟩ := hl.at_ (i := i) (by omega)
  obtain ⟨x, hx⟩ : ∃ x, l[i]? = some x := ⟨_, List.getElem?_eq_getElem (by omega)⟩
  have hxr : x.recs.length ≤ 9223372036854775807 := hr x (List.mem_of_getElem? hx)
  subst hpe
  refine p_plain0 (0 :: 1 :: 2 :: 3 :: 4 :: 5 :: 6 :: []) ?_
  refine go_q0 14 (.move (.tmp 0)) 129 (qv_move rfl) ?_
  refine go_q0 15 (.move (.tmp 3)) 3 (qv_move rfl) ?_
  refine go_q0 16 (.indexAddr 129 (.tmp 14) (.tmp 15)) 0 (qv_index un129 sz135 rfl rfl rfl (by omega)) ?_
  refine go_q0 17 (.fieldAddr 135 (.tmp 16) 3) 0 (qv_field rfl fd135_3) ?_
  refine go_q0 18 (.load 102 (.tmp 17)) 102 (qv_load rfl (At.of_mem (by repeat first | exact mm | exact List.mem_append_left _ mm | apply List.mem_cons_of_mem | apply List.mem_append_right)) (ldv_el (E := eNoteR) H hx sc102 (get_Note_40 x.x) rfl)) ?_
  refine go_q0 19 (.call { callee := .builtin .len, args := #[.tmp 18], argTypes := #[102] }) 3 (qv_lenS un102 rfl) ?_
  refine go_q0 20 (.binOp .gtr 3 (.tmp 19) (.const (.int .i64 10)) 3) 4 (qv_gtr rfl rfl rfl) ?_
  refine go_nil ?_
  change G _ _ _ _
  refine p_weaken [0, 3, 20] rfl ?_
  refine p_cond (.tmp 20) (by kernel_rfl) rfl (fun h20 => ?_) (fun h20 => ?_)
  · replace h20 := kn h20
    refine p_seq0 ?_
    refine p_plain0 (0 :: []) ?_
    refine go_q0 2 (.assign (.const (.bool false))) 4 (qv_assign rfl) ?_
    refine go_nil ?_
    change G _ _ _ _
    refine p_weaken [0, 2, 3] rfl ?_
    refine p_ret0 ?_
    try dsimp only [thenQ, inBlockQ]
    try rw [if_pos rfl]
    refine ret_left (R) (.inr rfl) (.cons (res_tmp rfl) .nil) .auto ?_
    exact ⟨false, rfl, fun h => (by cases h), rfl⟩
  replace h20 := kn h20
  have htn : ∀ t ∈ l.take (i + 1), t.recs.length ≤ 10 := fun t h => by
    rw [List.take_add_one, hx] at h
    rcases List.mem_append.1 h with h | h
    · exact ht t h
    · rw [show t = x by simpa using h]; omega
  refine p_skip0 ?_
  change G _ _ _ _
  refine p_weaken [0, 3] rfl ?_
  refine p_plain0 (0 :: 1 :: 2 :: []) ?_
  refine go_q0 12 (.move (.tmp 3)) 3 (qv_move rfl) ?_
  refine go_q0 13 (.binOp .add 3 (.tmp 12) (.const (.int .i64 1)) 3) 3 (qv_add rfl rfl (by first | exact IntWalk.i64_in _ (by omega) | exact IntWalk.i64_in _ (by dsimp only; omega) | rfl)) ?_
  refine go_q0 3 (.assign (.tmp 13)) 3 (qv_assign rfl) ?_
  refine go_nil ?_
  exact ⟨_, ⟨i + 1, by omega, by omega, htn, ⟨rfl, ⟨[0, 3], rfl⟩, .auto⟩, rfl⟩, by omega⟩
end Go.Proofs.Ytobmcpoejhhemaa
