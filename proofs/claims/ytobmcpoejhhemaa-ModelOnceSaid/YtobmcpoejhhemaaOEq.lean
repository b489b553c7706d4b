import Derived.Test.YtobmcpoejhhemaaOTy
import Derived.ChangeKeysEq
import Derived.Test.YtobmcpoejhhemaaOEngE
namespace Go.Proofs.Ytobmcpoejhhemaa
open Go.E
theorem eqf_nil {P : Program} {d : Nat} {xs ys : Array Value} : ∀ w, (Op.eqFields d xs ys []).run P w = .ok true w := fun _ => rfl
theorem eqf_cons {P : Program} {d : Nat} {xs ys : Array Value} {f : Field} {fs : List Field} {ft off : Nat} {a b : Value} {r r' : Bool} (hn : (f.name != "_") = true) (ht : f.type = ft) (ho : f.offset = off) (ha : ∀ w, (part ft xs off).run P w = .ok a w) (hb : ∀ w, (part ft ys off).run P w = .ok b w)
    (hr : ∀ w, (Op.equalIn d ft a b).run P w = .ok r w) (h : ∀ w, (Op.eqFields d xs ys fs).run P w = .ok r' w) : ∀ w, (Op.eqFields d xs ys (f :: fs)).run P w = .ok (r && r') w := fun w => by
  subst ht ho
  have hn' : f.name ≠ "_" := by simpa using hn
  simp only [Op.eqFields, if_pos hn', Sem.run_bind, ha w, hb w, hr w, Result.andThen]
  cases r <;> simp [h w]
theorem eqi_nil {P : Program} {d : Nat} {e : TypeId} {c : Nat} {xs ys : Array Value} : ∀ w, (Op.eqItems d e c xs ys []).run P w = .ok true w := fun _ => rfl
theorem eqi_cons {P : Program} {d : Nat} {e : TypeId} {c i : Nat} {xs ys : Array Value} {is : List Nat} {a b : Value} {r r' : Bool} (ha : ∀ w, (part e xs (i * c)).run P w = .ok a w) (hb : ∀ w, (part e ys (i * c)).run P w = .ok b w)
    (hr : ∀ w, (Op.equalIn d e a b).run P w = .ok r w) (h : ∀ w, (Op.eqItems d e c xs ys is).run P w = .ok r' w) : ∀ w, (Op.eqItems d e c xs ys (i :: is)).run P w = .ok (r && r') w := fun w => by
  simp only [Op.eqItems, Sem.run_bind, ha w, hb w, hr w, Result.andThen]
  cases r <;> simp [h w]
theorem eqv_int {P : Program} {t : TypeId} {k k' : IntKind} (h : P.underlying t = some (.int k')) (d : Nat) (a b : Int) : ∀ w, (Op.equalIn (d + 1) t (.int k a) (.int k b)).run P w = .ok (decide (a = b)) w := fun w => run_equalIn_int w d t k k' a b h
theorem eqv_bool {P : Program} {t : TypeId} (h : P.underlying t = some .bool) (d : Nat) (a b : Bool) : ∀ w, (Op.equalIn (d + 1) t (.bool a) (.bool b)).run P w = .ok (decide (a = b)) w := fun w => by
  have := run_equalIn_bool' (P := P) w d t a b h
  rw [this]
  cases a <;> cases b <;> rfl
theorem qv_eqlA {P : Program} {fr : Fr} {M : Mem} {ty t u : TypeId} {x y : Operand} {xs ys : Array Value} {b : Bool} {k : Nat} (hx : evo fr x = some (.agg xs)) (hy : evo fr y = some (.agg ys)) (hm : P.eqGuardType P.depth t = false)
    (he : ∀ d w, (Op.equalIn (d + k + 1) t (.agg xs) (.agg ys)).run P w = .ok b w) (hk : k ≤ 9999) : QV P (.binOp .eql t x y u) ty fr M (.bool b) :=
  qv_bin hx hy (fun w => run_eqGuard_agg w .eql t x y xs ys hm) fun w => by
    rw [run_eql_struct]
    have := he (9999 - k) w
    rw [show 9999 - k + k + 1 = 10000 by omega] at this
    simp only [this, Result.andThen]
theorem qv_neqA {P : Program} {fr : Fr} {M : Mem} {ty t u : TypeId} {x y : Operand} {xs ys : Array Value} {b : Bool} {k : Nat} (hx : evo fr x = some (.agg xs)) (hy : evo fr y = some (.agg ys)) (hm : P.eqGuardType P.depth t = false)
    (he : ∀ d w, (Op.equalIn (d + k + 1) t (.agg xs) (.agg ys)).run P w = .ok b w) (hk : k ≤ 9999) : QV P (.binOp .neq t x y u) ty fr M (.bool !b) :=
  qv_bin hx hy (fun w => run_eqGuard_agg w .neq t x y xs ys hm) fun w => by
    rw [run_neq_struct]
    have := he (9999 - k) w
    rw [show 9999 - k + k + 1 = 10000 by omega] at this
    simp only [this, Result.andThen]

theorem eu5 : Try.prog.underlying 5 = some (.int .u8) := by kernel_rfl
theorem eqv_22 (d : Nat) (s t : B16) : ∀ w, (Op.equalIn (d + 1 + 1) 22 (.agg s.c) (.agg t.c)).run Try.prog w = .ok (decide (s = t)) w := by
  have key := eqi_cons (P := Try.prog) (e := 5) (c := 1) (xs := s.c) (ys := t.c) (i := 0) (fun w => by kernel_rfl) (fun w => by kernel_rfl) (eqv_int (k := .u8) eu5 d s.x0 t.x0) (eqi_cons (P := Try.prog) (e := 5) (c := 1) (xs := s.c) (ys := t.c) (i := 1) (fun w => by kernel_rfl) (fun w => by kernel_rfl) (eqv_int (k := .u8) eu5 d s.x1 t.x1) (eqi_cons (P := Try.prog) (e := 5) (c := 1) (xs := s.c) (ys := t.c) (i := 2) (fun w => by kernel_rfl) (fun w => by kernel_rfl) (eqv_int (k := .u8) eu5 d s.x2 t.x2) (eqi_cons (P := Try.prog) (e := 5) (c := 1) (xs := s.c) (ys := t.c) (i := 3) (fun w => by kernel_rfl) (fun w => by kernel_rfl) (eqv_int (k := .u8) eu5 d s.x3 t.x3) (eqi_cons (P := Try.prog) (e := 5) (c := 1) (xs := s.c) (ys := t.c) (i := 4) (fun w => by kernel_rfl) (fun w => by kernel_rfl) (eqv_int (k := .u8) eu5 d s.x4 t.x4) (eqi_cons (P := Try.prog) (e := 5) (c := 1) (xs := s.c) (ys := t.c) (i := 5) (fun w => by kernel_rfl) (fun w => by kernel_rfl) (eqv_int (k := .u8) eu5 d s.x5 t.x5) (eqi_cons (P := Try.prog) (e := 5) (c := 1) (xs := s.c) (ys := t.c) (i := 6) (fun w => by kernel_rfl) (fun w => by kernel_rfl) (eqv_int (k := .u8) eu5 d s.x6 t.x6) (eqi_cons (P := Try.prog) (e := 5) (c := 1) (xs := s.c) (ys := t.c) (i := 7) (fun w => by kernel_rfl) (fun w => by kernel_rfl) (eqv_int (k := .u8) eu5 d s.x7 t.x7) (eqi_cons (P := Try.prog) (e := 5) (c := 1) (xs := s.c) (ys := t.c) (i := 8) (fun w => by kernel_rfl) (fun w => by kernel_rfl) (eqv_int (k := .u8) eu5 d s.x8 t.x8) (eqi_cons (P := Try.prog) (e := 5) (c := 1) (xs := s.c) (ys := t.c) (i := 9) (fun w => by kernel_rfl) (fun w => by kernel_rfl) (eqv_int (k := .u8) eu5 d s.x9 t.x9) (eqi_cons (P := Try.prog) (e := 5) (c := 1) (xs := s.c) (ys := t.c) (i := 10) (fun w => by kernel_rfl) (fun w => by kernel_rfl) (eqv_int (k := .u8) eu5 d s.x10 t.x10) (eqi_cons (P := Try.prog) (e := 5) (c := 1) (xs := s.c) (ys := t.c) (i := 11) (fun w => by kernel_rfl) (fun w => by kernel_rfl) (eqv_int (k := .u8) eu5 d s.x11 t.x11) (eqi_cons (P := Try.prog) (e := 5) (c := 1) (xs := s.c) (ys := t.c) (i := 12) (fun w => by kernel_rfl) (fun w => by kernel_rfl) (eqv_int (k := .u8) eu5 d s.x12 t.x12) (eqi_cons (P := Try.prog) (e := 5) (c := 1) (xs := s.c) (ys := t.c) (i := 13) (fun w => by kernel_rfl) (fun w => by kernel_rfl) (eqv_int (k := .u8) eu5 d s.x13 t.x13) (eqi_cons (P := Try.prog) (e := 5) (c := 1) (xs := s.c) (ys := t.c) (i := 14) (fun w => by kernel_rfl) (fun w => by kernel_rfl) (eqv_int (k := .u8) eu5 d s.x14 t.x14) (eqi_cons (P := Try.prog) (e := 5) (c := 1) (xs := s.c) (ys := t.c) (i := 15) (fun w => by kernel_rfl) (fun w => by kernel_rfl) (eqv_int (k := .u8) eu5 d s.x15 t.x15) (eqi_nil))))))))))))))))
  intro w
  have h2 := run_equalIn_array (P := Try.prog) w (d + 1) (t := 22) (e := 5) (n := 16) s.c t.c (by kernel_rfl) (i := (Try.prog.info? 5).get (by kernel_rfl)) (by kernel_rfl)
  rw [show d + 1 + 1 = d + 1 + 1 from rfl, h2, show Try.prog.cellsOf 5 = 1 by kernel_rfl]
  refine (key w).trans ?_
  refine congrArg (fun b => Result.ok b w) ?_
  cases s; cases t
  simp only [B16.mk.injEq, Bool.decide_and, Bool.and_true]
theorem qv_eql_22 {fr : Fr} {M : Mem} {ty u : TypeId} {x y : Operand} {s t : B16} {b : Bool} (hx : evo fr x = some (.agg s.c)) (hy : evo fr y = some (.agg t.c)) (hb : decide (s = t) = b) : QV Try.prog (.binOp .eql 22 x y u) ty fr M (.bool b) := hb ▸ qv_eqlA (k := 1) hx hy (by kernel_rfl) (fun d => eqv_22 d s t) (Nat.le_of_ble_eq_true rfl)
theorem eu4 : Try.prog.underlying 4 = some .bool := by kernel_rfl
theorem fl_24 : (Try.prog.fieldsOf 24).toList = [(Try.prog.fieldsOf 24).toList.getD 0 default, (Try.prog.fieldsOf 24).toList.getD 1 default] := by kernel_rfl
theorem eqv_24 (d : Nat) (s t : Adr) : ∀ w, (Op.equalIn (d + 2 + 1) 24 (.agg s.c) (.agg t.c)).run Try.prog w = .ok (decide (s = t)) w := by
  intro w
  rw [run_equalIn_struct (P := Try.prog) w (d + 2) 24 s.c t.c (by kernel_rfl) (by kernel_rfl), fl_24]
  refine ((eqf_cons (P := Try.prog) (xs := s.c) (ys := t.c) (f := (Try.prog.fieldsOf 24).toList.getD 0 default) (ft := 4) (off := 0) (by kernel_rfl) (by kernel_rfl) (by kernel_rfl) (fun w => by kernel_rfl) (fun w => by kernel_rfl) (eqv_bool eu4 (d + 1) s.six t.six) (eqf_cons (P := Try.prog) (xs := s.c) (ys := t.c) (f := (Try.prog.fieldsOf 24).toList.getD 1 default) (ft := 22) (off := 1) (by kernel_rfl) (by kernel_rfl) (by kernel_rfl) (fun w => by kernel_rfl) (fun w => by kernel_rfl) (fun w => eqv_22 (d + 0) s.b t.b w) (eqf_nil))) w).trans ?_
  refine congrArg (fun b => Result.ok b w) ?_
  cases s; cases t
  simp only [Adr.mk.injEq, Bool.decide_and, Bool.and_true]
theorem eu25 : Try.prog.underlying 25 = some (.int .u16) := by kernel_rfl
theorem fl_27 : (Try.prog.fieldsOf 27).toList = [(Try.prog.fieldsOf 27).toList.getD 0 default, (Try.prog.fieldsOf 27).toList.getD 1 default, (Try.prog.fieldsOf 27).toList.getD 2 default, (Try.prog.fieldsOf 27).toList.getD 3 default, (Try.prog.fieldsOf 27).toList.getD 4 default] := by kernel_rfl
theorem eqv_27 (d : Nat) (s t : Key) : ∀ w, (Op.equalIn (d + 3 + 1) 27 (.agg s.c) (.agg t.c)).run Try.prog w = .ok (decide (s = t)) w := by
  intro w
  rw [run_equalIn_struct (P := Try.prog) w (d + 3) 27 s.c t.c (by kernel_rfl) (by kernel_rfl), fl_27]
  refine ((eqf_cons (P := Try.prog) (xs := s.c) (ys := t.c) (f := (Try.prog.fieldsOf 27).toList.getD 0 default) (ft := 24) (off := 0) (by kernel_rfl) (by kernel_rfl) (by kernel_rfl) (fun w => by kernel_rfl) (fun w => by kernel_rfl) (fun w => eqv_24 (d + 0) s.src t.src w) (eqf_cons (P := Try.prog) (xs := s.c) (ys := t.c) (f := (Try.prog.fieldsOf 27).toList.getD 1 default) (ft := 24) (off := 17) (by kernel_rfl) (by kernel_rfl) (by kernel_rfl) (fun w => by kernel_rfl) (fun w => by kernel_rfl) (fun w => eqv_24 (d + 0) s.dst t.dst w) (eqf_cons (P := Try.prog) (xs := s.c) (ys := t.c) (f := (Try.prog.fieldsOf 27).toList.getD 2 default) (ft := 5) (off := 34) (by kernel_rfl) (by kernel_rfl) (by kernel_rfl) (fun w => by kernel_rfl) (fun w => by kernel_rfl) (eqv_int (k := .u8) eu5 (d + 2) s.proto t.proto) (eqf_cons (P := Try.prog) (xs := s.c) (ys := t.c) (f := (Try.prog.fieldsOf 27).toList.getD 3 default) (ft := 25) (off := 35) (by kernel_rfl) (by kernel_rfl) (by kernel_rfl) (fun w => by kernel_rfl) (fun w => by kernel_rfl) (eqv_int (k := .u16) eu25 (d + 2) s.srcPort t.srcPort) (eqf_cons (P := Try.prog) (xs := s.c) (ys := t.c) (f := (Try.prog.fieldsOf 27).toList.getD 4 default) (ft := 25) (off := 36) (by kernel_rfl) (by kernel_rfl) (by kernel_rfl) (fun w => by kernel_rfl) (fun w => by kernel_rfl) (eqv_int (k := .u16) eu25 (d + 2) s.dstPort t.dstPort) (eqf_nil)))))) w).trans ?_
  refine congrArg (fun b => Result.ok b w) ?_
  cases s; cases t
  simp only [Key.mk.injEq, Bool.decide_and, Bool.and_true]
theorem qv_eql_27 {fr : Fr} {M : Mem} {ty u : TypeId} {x y : Operand} {s t : Key} {b : Bool} (hx : evo fr x = some (.agg s.c)) (hy : evo fr y = some (.agg t.c)) (hb : decide (s = t) = b) : QV Try.prog (.binOp .eql 27 x y u) ty fr M (.bool b) := hb ▸ qv_eqlA (k := 3) hx hy (by kernel_rfl) (fun d => eqv_27 d s t) (Nat.le_of_ble_eq_true rfl)
theorem eu30 : Try.prog.underlying 30 = some (.int .u64) := by kernel_rfl
theorem fl_32 : (Try.prog.fieldsOf 32).toList = [(Try.prog.fieldsOf 32).toList.getD 0 default, (Try.prog.fieldsOf 32).toList.getD 1 default] := by kernel_rfl
theorem eqv_32 (d : Nat) (s t : Tot) : ∀ w, (Op.equalIn (d + 1 + 1) 32 (.agg s.c) (.agg t.c)).run Try.prog w = .ok (decide (s = t)) w := by
  intro w
  rw [run_equalIn_struct (P := Try.prog) w (d + 1) 32 s.c t.c (by kernel_rfl) (by kernel_rfl), fl_32]
  refine ((eqf_cons (P := Try.prog) (xs := s.c) (ys := t.c) (f := (Try.prog.fieldsOf 32).toList.getD 0 default) (ft := 30) (off := 0) (by kernel_rfl) (by kernel_rfl) (by kernel_rfl) (fun w => by kernel_rfl) (fun w => by kernel_rfl) (eqv_int (k := .u64) eu30 (d + 0) s.packets t.packets) (eqf_cons (P := Try.prog) (xs := s.c) (ys := t.c) (f := (Try.prog.fieldsOf 32).toList.getD 1 default) (ft := 30) (off := 1) (by kernel_rfl) (by kernel_rfl) (by kernel_rfl) (fun w => by kernel_rfl) (fun w => by kernel_rfl) (eqv_int (k := .u64) eu30 (d + 0) s.bytes t.bytes) (eqf_nil))) w).trans ?_
  refine congrArg (fun b => Result.ok b w) ?_
  cases s; cases t
  simp only [Tot.mk.injEq, Bool.decide_and, Bool.and_true]
theorem qv_eql_32 {fr : Fr} {M : Mem} {ty u : TypeId} {x y : Operand} {s t : Tot} {b : Bool} (hx : evo fr x = some (.agg s.c)) (hy : evo fr y = some (.agg t.c)) (hb : decide (s = t) = b) : QV Try.prog (.binOp .eql 32 x y u) ty fr M (.bool b) := hb ▸ qv_eqlA (k := 1) hx hy (by kernel_rfl) (fun d => eqv_32 d s t) (Nat.le_of_ble_eq_true rfl)
theorem qv_neq_32 {fr : Fr} {M : Mem} {ty u : TypeId} {x y : Operand} {s t : Tot} {b : Bool} (hx : evo fr x = some (.agg s.c)) (hy : evo fr y = some (.agg t.c)) (hb : (!(decide (s = t))) = b) : QV Try.prog (.binOp .neq 32 x y u) ty fr M (.bool b) := hb ▸ qv_neqA (k := 1) hx hy (by kernel_rfl) (fun d => eqv_32 d s t) (Nat.le_of_ble_eq_true rfl)
def eB16 : Enc B16 := ⟨B16.c, 16, siz_B16⟩
def eAdr : Enc Adr := ⟨Adr.c, 17, siz_Adr⟩
def eKey : Enc Key := ⟨Key.c, 37, siz_Key⟩
def eTot : Enc Tot := ⟨Tot.c, 2, siz_Tot⟩
def eRec : Enc Rec := ⟨Rec.c, 44, siz_Rec⟩
theorem el74 : ElT Try.prog 74 5 1 1 := ⟨by kernel_rfl, ⟨(Try.prog.info? 5).get (by kernel_rfl), (((Try.prog.info? 5).get (by kernel_rfl)).zero).get (by kernel_rfl), by kernel_rfl, by kernel_rfl, by kernel_rfl, by kernel_rfl, by kernel_rfl⟩, by decide⟩
theorem el86 : ElT Try.prog 86 27 37 40 := ⟨by kernel_rfl, ⟨(Try.prog.info? 27).get (by kernel_rfl), (((Try.prog.info? 27).get (by kernel_rfl)).zero).get (by kernel_rfl), by kernel_rfl, by kernel_rfl, by kernel_rfl, by kernel_rfl, by kernel_rfl⟩, by decide⟩
theorem el89 : ElT Try.prog 89 3 1 8 := ⟨by kernel_rfl, ⟨(Try.prog.info? 3).get (by kernel_rfl), (((Try.prog.info? 3).get (by kernel_rfl)).zero).get (by kernel_rfl), by kernel_rfl, by kernel_rfl, by kernel_rfl, by kernel_rfl, by kernel_rfl⟩, by decide⟩
theorem el102 : ElT Try.prog 102 35 44 80 := ⟨by kernel_rfl, ⟨(Try.prog.info? 35).get (by kernel_rfl), (((Try.prog.info? 35).get (by kernel_rfl)).zero).get (by kernel_rfl), by kernel_rfl, by kernel_rfl, by kernel_rfl, by kernel_rfl, by kernel_rfl⟩, by decide⟩
theorem el136 : ElT Try.prog 136 139 6 48 := ⟨by kernel_rfl, ⟨(Try.prog.info? 139).get (by kernel_rfl), (((Try.prog.info? 139).get (by kernel_rfl)).zero).get (by kernel_rfl), by kernel_rfl, by kernel_rfl, by kernel_rfl, by kernel_rfl, by kernel_rfl⟩, by decide⟩
theorem bls74_0 : ∀ w, (Instr.buildSlice 74 0 [].toArray).run Try.prog w = .ok (.slice (some ⟨w.heap.size, 0, none⟩) 0 0) (w.alloc (.cells #[] 5 (0, 0))) := fun _ => by kernel_rfl
theorem bls89_0 : ∀ w, (Instr.buildSlice 89 0 [].toArray).run Try.prog w = .ok (.slice (some ⟨w.heap.size, 0, none⟩) 0 0) (w.alloc (.cells #[] 3 (0, 0))) := fun _ => by kernel_rfl
theorem bls102_0 : ∀ w, (Instr.buildSlice 102 0 [].toArray).run Try.prog w = .ok (.slice (some ⟨w.heap.size, 0, none⟩) 0 0) (w.alloc (.cells #[] 35 (0, 0))) := fun _ => by kernel_rfl
theorem mixed : Try.prog.follows .mixedOrders = true := by kernel_rfl
end Go.Proofs.Ytobmcpoejhhemaa
