import Derived.Test.YtobmcpoejhhemaaVEngF
import Derived.RangeFuncIn
import Derived.RangeFuncRecord
import Derived.Laws.MakeOwn
namespace Go.E
open Go

/-- A loop over a function: its record. -/
structure Rg where
  l : Nat
  D : Nat
  fn : FuncId
  tm : Array Value
  ps : Array Tmp
  assign : Code
  body : Code
def Rg.r (g : Rg) (st : LoopState) (pend : Option Code) : Loop := { state := st, pending := pend, fn := g.fn, tmps := g.tm, params := g.ps, assign := g.assign, body := g.body, defers := g.D }
def Rg.o (g : Rg) (st : LoopState) (pend : Option Code) : Nat × Obj := (g.l, .loop (g.r st pend))

theorem Enc.flat_take {α : Type} (E : Enc α) : ∀ (l : List α) (i : Nat), (E.flat l).take (i * E.n) = E.flat (l.take i)
  | [], i => by simp [Enc.flat]
  | x :: l, 0 => by simp [Enc.flat]
  | x :: l, i + 1 => by
    rw [E.flat_cons, List.take_succ_cons, E.flat_cons, Nat.succ_mul, List.take_append, Array.length_toList, E.sz, Nat.add_sub_cancel, E.flat_take l i, List.take_of_length_le (by simp [E.sz])]
theorem Enc.flat_drop {α : Type} (E : Enc α) : ∀ (l : List α) (i : Nat), (E.flat l).drop (i * E.n) = E.flat (l.drop i)
  | [], i => by simp [Enc.flat]
  | x :: l, 0 => by simp [Enc.flat]
  | x :: l, i + 1 => by
    rw [E.flat_cons, List.drop_succ_cons, Nat.succ_mul, List.drop_append, Array.length_toList, E.sz, Nat.add_sub_cancel, E.flat_drop l i, List.drop_eq_nil_of_le (by simp [E.sz]), List.nil_append]
/-- An element is written over. -/
theorem splice_flat {α : Type} (E : Enc α) {l : List α} {i : Nat} (a : α) (hi : i < l.length) : splice (E.flat l).toArray (0 + i * E.n) (E.c a) = (E.flat (l.set i a)).toArray := by
  unfold splice
  rw [Nat.zero_add, E.sz]
  congr 1
  show (E.flat l).take (i * E.n) ++ (E.c a).toList ++ (E.flat l).drop (i * E.n + E.n) = _
  rw [show i * E.n + E.n = (i + 1) * E.n from (Nat.succ_mul i E.n).symm, E.flat_take, E.flat_drop, List.set_eq_take_append_cons_drop, if_pos hi, E.flat_append, E.flat_cons, List.append_assoc]
theorem flat_fit {α : Type} (E : Enc α) {l : List α} {i : Nat} (hi : i < l.length) : 0 + i * E.n + E.n ≤ (E.flat l).toArray.size := by
  have h := E.flat_length l
  have h2 : (i + 1) * E.n ≤ l.length * E.n := Nat.mul_le_mul_right _ hi
  rw [Nat.succ_mul] at h2
  simp [h]
  omega
theorem qv_ix {P : Program} {fr : Fr} {M : Mem} {ty t : TypeId} {x y : Operand} {p q v : Value} (hx : evo fr x = some p) (hy : evo fr y = some q) (hr : ∀ w, (Instr.index t p q).run P w = .ok v w) : QV P (.index t x y) ty fr M v := fun o ho _ a w n ds hf _ =>
  ⟨by simp, by simp only [execOp, ho, hf.ev hx, hf.ev hy, Sem.run_bind, hr w, Result.andThen, Sem.run_pure]⟩
end Go.E
