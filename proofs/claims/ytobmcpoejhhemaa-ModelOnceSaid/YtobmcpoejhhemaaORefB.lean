import Derived.Test.YtobmcpoejhhemaaOCmp
import Derived.Laws.Externs
namespace Go.Proofs.Ytobmcpoejhhemaa
open Go.E

theorem run_bytesL {P : Program} {w : World} {M : Mem} {p : Option Addr} {l : List Int} {n c : Nat} (hM : Has M w) (h : Lst (eI .u8) p l M) (hn : n = l.length) : (Extern.Bytes.bytesOf (.slice p n c)).run P w = .ok ⟨(Lib.bytesOf l).toArray⟩ w := by
  subst hn
  cases p with
  | none =>
    have hl : l = [] := by
      rcases h with h | ⟨b, off, cur, e, fz, h, _⟩
      · exact h
      · cases h
    subst hl
    rfl
  | some a =>
    rcases h with rfl | ⟨b, off, cur, e, fz, h, hm, hh⟩
    · rfl
    · cases h
      have hl := Lib.run_loadBytesX (P := P) w l ⟨b, off, none⟩ .empty (fun j x hj => by
        have e1 : (⟨b, off, none⟩ : Addr).add j = ⟨b, off + j, none⟩ := by unfold Addr.add; split <;> simp_all
        rw [e1, cell_of_row w b _ cur e fz (hM _ hm)]
        have := hh.cell hj (k := 0) (by decide)
        simpa [eI] using this)
      show (Extern.Bytes.loadBytes ⟨b, off, none⟩ l.length .empty).run P w = _
      rw [hl]
      congr 1
      apply ByteArray.ext
      show (#[] : Array UInt8) ++ (Lib.bytesOf l).toArray = (Lib.bytesOf l).toArray
      simp
theorem run_cmpL {P : Program} {w : World} {M : Mem} {p1 p2 : Option Addr} {l1 l2 : List Int} {c1 c2 : Nat} (hM : Has M w) (h1 : Lst (eI .u8) p1 l1 M) (h2 : Lst (eI .u8) p2 l2 M) :
    ((Extern.BytealgCompare.compare [.slice p1 l1.length c1, .slice p2 l2.length c2].toArray).run P w).andThen (fun v w' => Result.ok (Next.value v) w') = .ok (Next.value (.int .i64 (Lib.compareBytes (Lib.bytesOf l1) (Lib.bytesOf l2)))) w := by
  change (Sem.run P (do pure (goInt (Extern.BytealgCompare.cmp (← Extern.Bytes.bytesOf (.slice p1 l1.length c1)) (← Extern.Bytes.bytesOf (.slice p2 l2.length c2))))) w).andThen _ = _
  simp only [Sem.run_bind, run_bytesL hM h1 rfl, run_bytesL hM h2 rfl, Result.andThen, Sem.run_pure]
  rw [Lib.cmp_eq]
  rfl
theorem ct_bytesCompare {M : Mem} {p1 p2 : Option Addr} {l1 l2 : List Int} {c1 c2 : Nat} (h1 : Lst (eI .u8) p1 l1 M) (h2 : Lst (eI .u8) p2 l2 M) :
    Ct Try.prog 161 [.slice p1 l1.length c1, .slice p2 l2.length c2].toArray M (fun v M' => v = .int .i64 (Lib.compareBytes (Lib.bytesOf l1) (Lib.bytesOf l2)) ∧ M' = M) := by
  refine ct_body (rv := [.tmp 4]) [(0, _), (1, _)] Try.func161 (by kernel_rfl) Try.ntmps161 Try.results161 rfl rfl (fun w0 => ?_)
  refine p_seq0 ?_
  refine p_plain0 (0 :: []) ?_
  refine go_q0 4 (.assign (.const (.int .i64 0))) 3 (qv_assign rfl) ?_
  refine go_nil ?_
  change G _ _ _ _
  refine p_seq0 ?_
  refine p_plain0 (0 :: 1 :: 2 :: 3 :: []) ?_
  refine go_q0 5 (.move (.tmp 0)) 74 (qv_move rfl) ?_
  refine go_q0 6 (.move (.tmp 1)) 74 (qv_move rfl) ?_
  refine go_q0 7 (.call { callee := .value (.func 198), args := #[.tmp 5, .tmp 6], argTypes := #[74, 74] }) 3 (qv_extern (args := [.slice p1 l1.length c1, .slice p2 l2.length c2]) (v := .int .i64 (Lib.compareBytes (Lib.bytesOf l1) (Lib.bytesOf l2))) rfl (fun w hM => by rw [run_callFunc_extern Try.func198 (by kernel_rfl) (by kernel_rfl) (by kernel_rfl) (e := Extern.BytealgCompare.compare) (by kernel_rfl)]; exact run_cmpL hM h1 h2)) ?_
  refine go_q0 4 (.assign (.tmp 7)) 3 (qv_assign rfl) ?_
  refine go_nil ?_
  change G _ _ _ _
  refine p_weaken [4] rfl ?_
  refine p_ret0 ?_
  try dsimp only [thenQ, inBlockQ]
  try rw [if_pos rfl]
  refine ret_left (M) (.inr rfl) (.cons (res_tmp rfl) .nil) .auto ?_
  exact ⟨rfl, rfl⟩
end Go.Proofs.Ytobmcpoejhhemaa
