import Derived.Test.YtobmcpoejhhemaaTCacI
namespace Go.Proofs.Ytobmcpoejhhemaa
open Go.E

def seenB (p : Pkt) : Bool := decide (p.key.proto = 6) && (!p.fragment && decide (0 < bits .and .u8 p.flags 5))
theorem pu_seen (p : Pkt) : Pu Try.prog 99 [.agg p.c] (.bool (seenB p)) := by
  refine ct_body (rv := [.tmp 2]) [(0, _)] Try.func99 (by kernel_rfl) Try.ntmps99 Try.results99 rfl rfl (fun w0 => ?_)
  refine p_seq0 ?_
  refine p_plain0 (0 :: 1 :: []) ?_
  refine go_s0 (some 1) (.box 39 (.tmp 0)) 0 ?_
  refine os_boxA rfl rfl (fun b1 => ?_)
  refine go_q0 2 (.assign (.const (.bool false))) 4 (qv_assign rfl) ?_
  refine go_nil ?_
  change G _ _ _ _
  refine p_weaken [1, 2] rfl ?_
  refine p_seq0 ?_
  refine p_plain0 (0 :: 1 :: 2 :: 3 :: 4 :: 5 :: 6 :: 7 :: 8 :: 9 :: 10 :: 11 :: 12 :: 13 :: 14 :: 15 :: []) ?_
  refine go_q0 3 (.fieldAddr 39 (.tmp 1) 0) 0 (qv_field rfl fd39_0) ?_
  refine go_q0 4 (.fieldAddr 27 (.tmp 3) 2) 0 (qv_field rfl fd27_2) ?_
  refine go_q0 5 (.load 5 (.tmp 4)) 5 (qv_load rfl .auto (ldv_sca sc5 (get_Pkt_34 _))) ?_
  refine go_q0 6 (.binOp .eql 5 (.tmp 5) (.const (.int .u8 6)) 5) 4 (qv_eql rfl rfl rfl) ?_
  refine go_q0 7 (.move (.tmp 6)) 4 (qv_move rfl) ?_
  refine go_case (d := 7) rfl (fun g7 => ?_) (fun g7 => ?_)
  rotate_left
  · replace g7 := kn g7
    refine go_n (d := 8) (op := .fieldAddr 39 (.tmp 1) 3) (ty := 0) (g := some (4, true)) (by kernel_rfl) ⟨7, _, by kernel_rfl, rfl, rfl⟩ rfl ?_
    refine go_n (d := 9) (op := .load 4 (.tmp 8)) (ty := 4) (g := some (4, true)) (by kernel_rfl) ⟨7, _, by kernel_rfl, rfl, rfl⟩ rfl ?_
    refine go_n (d := 10) (op := .unOp .not 4 (.tmp 9)) (ty := 4) (g := some (4, true)) (by kernel_rfl) ⟨7, _, by kernel_rfl, rfl, rfl⟩ rfl ?_
    refine go_q0 11 (.pick (.tmp 7) (.tmp 10) (.const (.bool false))) 4 (qv_pick_f rfl rfl) ?_
    refine go_q0 12 (.move (.tmp 11)) 4 (qv_move rfl) ?_
    refine go_n (d := 13) (op := .fieldAddr 39 (.tmp 1) 2) (ty := 0) (g := some (9, true)) (by kernel_rfl) ⟨12, _, by kernel_rfl, rfl, rfl⟩ rfl ?_
    refine go_n (d := 14) (op := .load 5 (.tmp 13)) (ty := 5) (g := some (9, true)) (by kernel_rfl) ⟨12, _, by kernel_rfl, rfl, rfl⟩ rfl ?_
    refine go_n (d := 15) (op := .binOp .and 5 (.tmp 14) (.const (.int .u8 5)) 5) (ty := 5) (g := some (9, true)) (by kernel_rfl) ⟨12, _, by kernel_rfl, rfl, rfl⟩ rfl ?_
    refine go_n (d := 16) (op := .binOp .gtr 5 (.tmp 15) (.const (.int .u8 0)) 5) (ty := 4) (g := some (9, true)) (by kernel_rfl) ⟨12, _, by kernel_rfl, rfl, rfl⟩ rfl ?_
    refine go_q0 17 (.pick (.tmp 12) (.tmp 16) (.const (.bool false))) 4 (qv_pick_f rfl rfl) ?_
    refine go_q0 2 (.assign (.tmp 17)) 4 (qv_assign rfl) ?_
    refine go_nil ?_
    change G _ _ _ _
    refine p_weaken [2] rfl ?_
    refine p_ret0 ?_
    try dsimp only [thenQ, inBlockQ]
    try rw [if_pos rfl]
    refine ret_now (.inr rfl) (.cons (res_tmp rfl) .nil) (by repeat constructor) ?_
    exact ⟨by unfold seenB; simp [*, E.valOf], rfl⟩
  replace g7 := kn g7
  refine go_q (d := 8) (op := .fieldAddr 39 (.tmp 1) 3) (ty := 0) (g := some (4, true)) (by kernel_rfl) ⟨7, by kernel_rfl, rfl⟩ rfl (qv_field rfl fd39_3) ?_
  refine go_q (d := 9) (op := .load 4 (.tmp 8)) (ty := 4) (g := some (4, true)) (by kernel_rfl) ⟨7, by kernel_rfl, rfl⟩ rfl (qv_load rfl .auto (ldv_sca sc4 (get_Pkt_39 _))) ?_
  refine go_q (d := 10) (op := .unOp .not 4 (.tmp 9)) (ty := 4) (g := some (4, true)) (by kernel_rfl) ⟨7, by kernel_rfl, rfl⟩ rfl (qv_not rfl) ?_
  refine go_q0 11 (.pick (.tmp 7) (.tmp 10) (.const (.bool false))) 4 (qv_pick_t rfl rfl) ?_
  refine go_q0 12 (.move (.tmp 11)) 4 (qv_move rfl) ?_
  refine go_case (d := 12) rfl (fun g12 => ?_) (fun g12 => ?_)
  · replace g12 := kn g12
    refine go_q (d := 13) (op := .fieldAddr 39 (.tmp 1) 2) (ty := 0) (g := some (9, true)) (by kernel_rfl) ⟨12, by kernel_rfl, rfl⟩ rfl (qv_field rfl fd39_2) ?_
    refine go_q (d := 14) (op := .load 5 (.tmp 13)) (ty := 5) (g := some (9, true)) (by kernel_rfl) ⟨12, by kernel_rfl, rfl⟩ rfl (qv_load rfl .auto (ldv_sca sc5 (get_Pkt_38 _))) ?_
    refine go_q (d := 15) (op := .binOp .and 5 (.tmp 14) (.const (.int .u8 5)) 5) (ty := 5) (g := some (9, true)) (by kernel_rfl) ⟨12, by kernel_rfl, rfl⟩ rfl (qv_and rfl rfl (rfl)) ?_
    refine go_q (d := 16) (op := .binOp .gtr 5 (.tmp 15) (.const (.int .u8 0)) 5) (ty := 4) (g := some (9, true)) (by kernel_rfl) ⟨12, by kernel_rfl, rfl⟩ rfl (qv_gtr rfl rfl rfl) ?_
    refine go_q0 17 (.pick (.tmp 12) (.tmp 16) (.const (.bool false))) 4 (qv_pick_t rfl rfl) ?_
    refine go_q0 2 (.assign (.tmp 17)) 4 (qv_assign rfl) ?_
    refine go_nil ?_
    change G _ _ _ _
    refine p_weaken [2] rfl ?_
    refine p_ret0 ?_
    try dsimp only [thenQ, inBlockQ]
    try rw [if_pos rfl]
    refine ret_now (.inr rfl) (.cons (res_tmp rfl) .nil) (by repeat constructor) ?_
    exact ⟨by unfold seenB; simp [*, E.valOf], rfl⟩
  replace g12 := kn g12
  refine go_n (d := 13) (op := .fieldAddr 39 (.tmp 1) 2) (ty := 0) (g := some (9, true)) (by kernel_rfl) ⟨12, _, by kernel_rfl, rfl, rfl⟩ rfl ?_
  refine go_n (d := 14) (op := .load 5 (.tmp 13)) (ty := 5) (g := some (9, true)) (by kernel_rfl) ⟨12, _, by kernel_rfl, rfl, rfl⟩ rfl ?_
  refine go_n (d := 15) (op := .binOp .and 5 (.tmp 14) (.const (.int .u8 5)) 5) (ty := 5) (g := some (9, true)) (by kernel_rfl) ⟨12, _, by kernel_rfl, rfl, rfl⟩ rfl ?_
  refine go_n (d := 16) (op := .binOp .gtr 5 (.tmp 15) (.const (.int .u8 0)) 5) (ty := 4) (g := some (9, true)) (by kernel_rfl) ⟨12, _, by kernel_rfl, rfl, rfl⟩ rfl ?_
  refine go_q0 17 (.pick (.tmp 12) (.tmp 16) (.const (.bool false))) 4 (qv_pick_f rfl rfl) ?_
  refine go_q0 2 (.assign (.tmp 17)) 4 (qv_assign rfl) ?_
  refine go_nil ?_
  change G _ _ _ _
  refine p_weaken [2] rfl ?_
  refine p_ret0 ?_
  try dsimp only [thenQ, inBlockQ]
  try rw [if_pos rfl]
  refine ret_now (.inr rfl) (.cons (res_tmp rfl) .nil) (by repeat constructor) ?_
  exact ⟨by unfold seenB; simp [*, E.valOf], rfl⟩
def AdvAny (bd : Bnd) (tick tick' : Int) (fl fl1 out : List Rec) : Prop := (tick' < tick ∧ out = [] ∧ fl1 = fl) ∨ (tick ≤ tick' ∧ AdvR bd tick' fl fl1 out)
def tickTo (tick tick' : Int) : Int := if tick ≤ tick' then tick' else tick
theorem ct_AdvanceAny {bc : Nat} {tick : Int} (tick' : Int) {bd : Bnd} {fl : List Rec} {M : Mem} (hM : CacM bc tick bd fl M) :
    Ct Try.prog 51 [.pointer (some ⟨bc, 0, none⟩), .int .u64 tick'].toArray M (fun v M' => ∃ fl' out q cq B M1, AdvAny bd tick tick' fl fl' out ∧ v = .slice q out.length cq ∧ OwnL eRec 35 q cq out B ∧ CacM bc (tickTo tick tick') bd fl' M1 ∧ M' = B ++ M1) := by
  by_cases h : tick ≤ tick'
  · refine (ct_Advance hM h).mono ?_
    rintro v M' ⟨fl', out, q, cq, B, M1, hA, hv, hO, hM1, hM'⟩
    exact ⟨fl', out, q, cq, B, M1, .inr ⟨h, hA⟩, hv, hO, by unfold tickTo; rw [if_pos h]; exact hM1, hM'⟩
  · refine (ct_AdvanceLow hM (by omega)).mono ?_
    rintro v M' ⟨hv, hM'⟩
    exact ⟨fl, [], none, 0, [], M, .inl ⟨by omega, rfl, rfl⟩, hv, OwnL.nil, by unfold tickTo; rw [if_neg h]; exact hM, hM'⟩
theorem Kp.getAny {n : Nat} {L : List Slot} {ks : List Key} {ns : List Int} (hn : Pow n) (h : Kp n L ks ns) (k : Key) : ∃ v, getV L k = .tuple #[.int .u64 v, .bool (decide (k ∈ ks))] ∧ ∀ (i : Nat), ks[i]? = some k → ns[i]? = some v := by
  by_cases hm : k ∈ ks
  · obtain ⟨i, hi, he⟩ := List.getElem_of_mem hm
    have hi' : ks[i]? = some k := by rw [List.getElem?_eq_getElem hi, he]
    obtain ⟨p, v, _, hv, _⟩ := h.at_ hi'
    refine ⟨v, by rw [decide_eq_true hm]; exact h.get hn hi' hv, fun j hj => ?_⟩
    rw [h.inj j i k hj hi']; exact hv
  · refine ⟨0, ?_, fun i hi => absurd (List.mem_of_getElem? hi) hm⟩
    unfold getV
    rw [h.hasNone hn hm, decide_eq_false hm]
def endZ (bd : Bnd) (p : Pkt) (r : Rec) : Int := if seenB p = true then 3 else if bd.packets ≤ r.packets ∨ bd.bytes ≤ r.bytes then 4 else 0
/-- What accounting a packet does. -/
def AccR (bd : Bnd) (tick tick' : Int) (p : Pkt) (cls : Int) (fl fl' out : List Rec) : Prop :=
  ∃ fl1 out1 fl2 out2 i r, AdvAny bd tick tick' fl fl1 out1 ∧
    ((p.key ∈ keysOf fl1 ∧ fl2 = fl1 ∧ out2 = []) ∨ (p.key ∉ keysOf fl1 ∧ ∃ flb, BegR bd fl1 flb out2 ∧ fl2 = flb ++ [startR p.key cls (tickTo tick tick')])) ∧
    fl2[i]? = some r ∧ r.key = p.key ∧
    ((endZ bd p (r.with_ p (tickTo tick tick')) = 0 ∧ fl' = fl2.set i (r.with_ p (tickTo tick tick')) ∧ out = out1 ++ out2) ∨
     (endZ bd p (r.with_ p (tickTo tick tick')) ≠ 0 ∧ fl' = swapOut (fl2.set i (r.with_ p (tickTo tick tick'))) i ∧ out = out1 ++ out2 ++ [{ r.with_ p (tickTo tick tick') with reason := endZ bd p (r.with_ p (tickTo tick tick')) }]))
theorem with_wf {r : Rec} {p : Pkt} {tick : Int} (h : r.Wf) (hp : p.Wf) (ht : InK .u64 tick) : (r.with_ p tick).Wf := by
  obtain ⟨a, b, c, d, e, f, g, i⟩ := h
  obtain ⟨pk, pl, pf⟩ := hp
  have ho : ∀ x y : Int, InK .u8 x → InK .u8 y → InK .u8 (bits .or .u8 x y) := fun x y _ _ => by
    have hw : ∀ z : Int, InK .u8 (IntKind.u8.wrap z) := fun z => by
      have e : IntKind.u8.wrap z = z % 256 := by simp [IntKind.wrap, IntKind.bits, IntKind.signed]
      rw [e]
      exact ⟨Int.emod_nonneg _ (by decide), by have := Int.emod_lt_of_pos z (show (0 : Int) < 256 by decide); simp [IntKind.max, IntKind.bits, IntKind.signed]; omega⟩
    exact hw _
  have hl : U64 (max 0 p.length) := by
    have h1 : p.length ≤ 9223372036854775807 := pl.2
    unfold U64; omega
  refine ⟨a, sat_ok b (by unfold U64; omega), sat_ok c hl, d, ?_, ho _ _ f pf, g, i⟩
  show InK .u64 (max r.last tick)
  rcases Int.le_total r.last tick with h | h
  · rw [Int.max_eq_right h]; exact ht
  · rw [Int.max_eq_left h]; exact e
theorem keysOf_set {fl : List Rec} {i : Nat} {r r' : Rec} (h : fl[i]? = some r) (hk : r'.key = r.key) : keysOf (fl.set i r') = keysOf fl := by
  unfold keysOf
  rw [List.map_set, hk]
  obtain ⟨hi, rfl⟩ := List.getElem?_eq_some_iff.1 h
  have : fl[i].key = (fl.map (·.key))[i]'(by simpa using hi) := by simp
  rw [this, List.set_getElem_self]
theorem CacI.set {bd : Bnd} {n : Nat} {L : List Slot} {fl : List Rec} {i : Nat} {r r' : Rec} (h : CacI bd n L fl) (hi : fl[i]? = some r) (hk : r'.key = r.key) (hw : r'.Wf) : CacI bd n L (fl.set i r') := by
  have hm : ∀ x ∈ fl.set i r', x ∈ fl ∨ x = r' := fun x hx => List.mem_or_eq_of_mem_set hx
  refine ⟨h.pow, h.big, by rw [keysOf_set hi hk, List.length_set]; exact h.kp, fun x hx => ?_, fun x hx => ?_, by rw [List.length_set]; exact h.le, h.bw, h.most, h.least⟩
  · rcases hm x hx with h1 | rfl
    · exact h.wf x h1
    · exact hw
  · rcases hm x hx with h1 | rfl
    · exact h.rt x h1
    · rw [hk]; exact h.rt r (List.mem_of_getElem? hi)
end Go.Proofs.Ytobmcpoejhhemaa
