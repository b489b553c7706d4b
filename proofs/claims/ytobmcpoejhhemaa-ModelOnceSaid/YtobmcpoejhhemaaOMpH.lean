import Derived.Test.YtobmcpoejhhemaaOMpG
namespace Go.E
open Go
theorem Up.same' {M M' : Mem} {b : Nat} {o o' : Obj} (h : Up M b o o' M') : o = o' → M' = M := by
  induction h with
  | here => rintro rfl; rfl
  | next _ ih => intro e; rw [ih e]
end Go.E
namespace Go.Proofs.Ytobmcpoejhhemaa
open Go.E

theorem os_nextS {X : Cx} {ty : TypeId} {d : Nat} {ds : List Deferred} {fr : Fr} {M : Mem} {K : S → Prop} {b i : Nat} {l : List MEnt} {c : Nat} {x : Operand} {since last : Nat} {seen : Array Nat} (M2 : Array Nat → Nat → Mem) (hd : Nat.blt d X.n = true) (hx : evo fr x = some (.pointer (some ⟨i, 0, none⟩))) (hi : At M i (itO i b since seen last).2) (hb : At M b (mapO b l c).2) (hold : ∀ x ∈ l, x.born < since) (hsl : since ≤ last) (hsc : since ≤ c)
    (hu : ∀ sn ls, Up M i (itO i b since seen last).2 (itO i b since sn ls).2 (M2 sn ls))
    (h : ∀ (m : Bool) (tv : Array Value) (sn : Array Nat) (ls : Nat), tv[0]? = some (.bool m) → (m = false → ∀ x ∈ l, x.born ∈ sn) → (m = true → ∃ x ∈ l, x.born ∉ seen ∧ sn = seen.push x.born ∧ ls = c) → since ≤ ls → K ⟨ds, (d, .tuple tv) :: fr, M2 sn ls⟩) :
    OpS X (.next x false) ty (some d) ⟨ds, fr, M⟩ K :=
  os_nextT hd hx hi hb hold hsl (fun h0 => by
    have := h false #[.bool false] seen last rfl (fun _ => h0) (fun e => by cases e) hsl
    rw [(hu seen last).same' rfl] at this
    exact this)
  (fun y hy hys => ⟨_, hu (seen.push y.born) c, h true _ _ _ rfl (fun e => by cases e) (fun _ => ⟨y, hy, hys, rfl, rfl⟩) hsc⟩)
/-- How many are still unseen. -/
def unseen (l : List MEnt) (sn : Array Nat) : Nat := (l.filter fun x => !sn.contains x.born).length
theorem unseen_lt {l : List MEnt} {sn : Array Nat} {x : MEnt} (hx : x ∈ l) (hs : x.born ∉ sn) : unseen l (sn.push x.born) < unseen l sn := by
  unfold unseen
  have h1 : (l.filter fun y => !(sn.push x.born).contains y.born) = (l.filter fun y => !sn.contains y.born).filter fun y => !(y.born == x.born) := by
    rw [List.filter_filter]
    refine List.filter_congr fun y _ => ?_
    rw [Bool.eq_iff_iff]
    simp [Array.mem_push]
    exact And.comm
  rw [h1]
  refine List.length_filter_lt_length_iff_exists.2 ⟨x, List.mem_filter.2 ⟨hx, by simpa using hs⟩, by simp⟩
theorem ct_crash1 {b3 : Nat} {nt : NoteR} (e : EntR) : Ct Try.prog 168 ([Value.agg e.x.c] ++ [Value.pointer (some ⟨b3, 0, none⟩)]).toArray [(b3, .cells nt.x.c 135 (0, 0))] (fun v M' => v = .bool (decide (nt.epoch ≤ e.epoch)) ∧ M' = [(b3, .cells nt.x.c 135 (0, 0))]) := by
  simp only [List.cons_append, List.nil_append]
  refine ct_body (rv := [.tmp 3]) [(0, _), (1, _)] Try.func168 (by kernel_rfl) Try.ntmps168 Try.results168 rfl rfl (fun w0 => ?_)
  refine p_seq0 ?_
  refine p_plain0 (0 :: 1 :: []) ?_
  refine go_s0 (some 2) (.box 139 (.tmp 0)) 0 ?_
  refine os_boxA rfl rfl (fun b2 => ?_)
  refine go_q0 3 (.assign (.const (.bool false))) 4 (qv_assign rfl) ?_
  refine go_nil ?_
  change G _ _ _ _
  refine p_weaken [1, 2, 3] rfl ?_
  refine p_seq0 ?_
  refine p_plain0 (0 :: 1 :: 2 :: 3 :: 4 :: 5 :: []) ?_
  refine go_q0 4 (.fieldAddr 139 (.tmp 2) 0) 0 (qv_field rfl fd139_0) ?_
  refine go_q0 5 (.load 77 (.tmp 4)) 77 (qv_load rfl .auto (ldv_sca sc77 (get_Entr_0 _))) ?_
  refine go_q0 6 (.fieldAddr 135 (.tmp 1) 4) 0 (qv_field rfl fd135_4) ?_
  refine go_q0 7 (.load 77 (.tmp 6)) 77 (qv_load rfl .auto (ldv_sca sc77 (get_Note_41 _))) ?_
  refine go_q0 8 (.binOp .geq 77 (.tmp 5) (.tmp 7) 77) 4 (qv_geq rfl rfl rfl) ?_
  refine go_q0 3 (.assign (.tmp 8)) 4 (qv_assign rfl) ?_
  refine go_nil ?_
  change G _ _ _ _
  refine p_weaken [3] rfl ?_
  refine p_ret0 ?_
  try dsimp only [thenQ, inBlockQ]
  try rw [if_pos rfl]
  refine ret_left ([(b3, .cells nt.x.c 135 (0, 0))]) (.inr rfl) (.cons (res_tmp rfl) .nil) .auto ?_
  exact ⟨rfl, rfl⟩
end Go.Proofs.Ytobmcpoejhhemaa
