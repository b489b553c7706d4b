import Derived.Test.YtobmcpoejhhemaaGreatKTy
import Derived.ChangeKeysEq
import Derived.Test.YtobmcpoejhhemaaGreatKEngE
namespace Go.Proofs.YtobmcpoejhhemaaGreat
open Go.E
theorem eqf_nil {P : Program} {d : Nat} {xs ys : Array Value} : ∀ w, (Op.eqFields d xs ys []).run P w = .ok true w := fun _ => rfl
theorem eqf_cons {P : Program} {d : Nat} {xs ys : Array Value} {f : Field} {fs : List Field} {ft off : Nat} {a b : Value} {r r' : Bool} (hn : (f.name != "_") = true) (ht : f.type = ft) (ho : f.offset = off) (ha : ∀ w, (part ft xs off).run P w = .ok a w) (hb : ∀ w, (part ft ys off).run P w = .ok b w)
    (hr : ∀ w, (Op.equalIn d ft a b).run P w = .ok r w) (h : ∀ w, (Op.eqFields d xs ys fs).run P w = .ok r' w) : ∀ w, (Op.eqFields d xs ys (f :: fs)).run P w = .ok (r && r') w := fun w => by
  subst ht ho
  have hn' : f.name ≠ "_" := by simpa using hn
  simp only [Op.eqFields, if_pos hn', Sem.run_bind, ha w, hb w, hr w, Result.andThen]
  cases r <;> simp [h w]
theorem eqi_nil {P : Program} {d : Nat} {e : TypeId} {c : Nat} {xs ys : Array Value} : ∀ w, (Op.eqItems d e c xs ys []).run P w = .ok true w := fun _ => rfl
theorem eqi_cons {P : Program} {d : Nat} {e : TypeId} {c i : Nat} {xs ys : Array Value} {is : List Nat} {a b : Value} {r r' : Bool} (ha : ∀ w, (part e xs (i * c)).run P w = .ok a w) (hb : ∀ w, (part e ys (i * c)).run P w = .ok b w)
    (hr : ∀ w, (Op.equalIn d e a b).run P w = .ok r w) (h : ∀ w, (Op.eqItems d e c xs ys is).run P w = .ok r' w) : ∀ w, (Op.eqItems d e c xs ys (i :: is)).run P w = .ok (r && r') w := fun w => by
  simp only [Op.eqItems, Sem.run_bind, ha w, hb w, hr w, Result.andThen]
  cases r <;> simp [h w]
theorem eqv_int {P : Program} {t : TypeId} {k k' : IntKind} (h : P.underlying t = some (.int k')) (d : Nat) (a b : Int) : ∀ w, (Op.equalIn (d + 1) t (.int k a) (.int k b)).run P w = .ok (decide (a = b)) w := fun w => run_equalIn_int w d t k k' a b h
theorem eqv_bool {P : Program} {t : TypeId} (h : P.underlying t = some .bool) (d : Nat) (a b : Bool) : ∀ w, (Op.equalIn (d + 1) t (.bool a) (.bool b)).run P w = .ok (decide (a = b)) w := fun w => by
  have := run_equalIn_bool' (P := P) w d t a b h
  rw [this]
  cases a <;> cases b <;> rfl
theorem qv_eqlA {P : Program} {fr : Fr} {M : Mem} {ty t u : TypeId} {x y : Operand} {xs ys : Array Value} {b : Bool} {k : Nat} (hx : evo fr x = some (.agg xs)) (hy : evo fr y = some (.agg ys)) (hm : P.eqGuardType P.depth t = false)
    (he : ∀ d w, (Op.equalIn (d + k + 1) t (.agg xs) (.agg ys)).run P w = .ok b w) (hk : k ≤ 9999) : QV P (.binOp .eql t x y u) ty fr M (.bool b) :=
  qv_bin hx hy (fun w => run_eqGuard_agg w .eql t x y xs ys hm) fun w => by
    rw [run_eql_struct]
    have := he (9999 - k) w
    rw [show 9999 - k + k + 1 = 10000 by omega] at this
    simp only [this, Result.andThen]
theorem qv_neqA {P : Program} {fr : Fr} {M : Mem} {ty t u : TypeId} {x y : Operand} {xs ys : Array Value} {b : Bool} {k : Nat} (hx : evo fr x = some (.agg xs)) (hy : evo fr y = some (.agg ys)) (hm : P.eqGuardType P.depth t = false)
    (he : ∀ d w, (Op.equalIn (d + k + 1) t (.agg xs) (.agg ys)).run P w = .ok b w) (hk : k ≤ 9999) : QV P (.binOp .neq t x y u) ty fr M (.bool !b) :=
  qv_bin hx hy (fun w => run_eqGuard_agg w .neq t x y xs ys hm) fun w => by
    rw [run_neq_struct]
    have := he (9999 - k) w
    rw [show 9999 - k + k + 1 = 10000 by omega] at this
    simp only [this, Result.andThen]

theorem eu5 : Tryz.prog.underlying 5 = some (.int .u8) := by kernel_rfl
theorem eqv_24 (d : Nat) (s t : B16) : ∀ w, (Op.equalIn (d + 1 + 1) 24 (.agg s.c) (.agg t.c)).run Tryz.prog w = .ok (decide (s = t)) w := by
  have key := eqi_cons (P := Tryz.prog) (e := 5) (c := 1) (xs := s.c) (ys := t.c) (i := 0) (fun w => by kernel_rfl) (fun w => by kernel_rfl) (eqv_int (k := .u8) eu5 d s.x0 t.x0) (eqi_cons (P := Tryz.prog) (e := 5) (c := 1) (xs := s.c) (ys := t.c) (i := 1) (fun w => by kernel_rfl) (fun w => by kernel_rfl) (eqv_int (k := .u8) eu5 d s.x1 t.x1) (eqi_cons (P := Tryz.prog) (e := 5) (c := 1) (xs := s.c) (ys := t.c) (i := 2) (fun w => by kernel_rfl) (fun w => by kernel_rfl) (eqv_int (k := .u8) eu5 d s.x2 t.x2) (eqi_cons (P := Tryz.prog) (e := 5) (c := 1) (xs := s.c) (ys := t.c) (i := 3) (fun w => by kernel_rfl) (fun w => by kernel_rfl) (eqv_int (k := .u8) eu5 d s.x3 t.x3) (eqi_cons (P := Tryz.prog) (e := 5) (c := 1) (xs := s.c) (ys := t.c) (i := 4) (fun w => by kernel_rfl) (fun w => by kernel_rfl) (eqv_int (k := .u8) eu5 d s.x4 t.x4) (eqi_cons (P := Tryz.prog) (e := 5) (c := 1) (xs := s.c) (ys := t.c) (i := 5) (fun w => by kernel_rfl) (fun w => by kernel_rfl) (eqv_int (k := .u8) eu5 d s.x5 t.x5) (eqi_cons (P := Tryz.prog) (e := 5) (c := 1) (xs := s.c) (ys := t.c) (i := 6) (fun w => by kernel_rfl) (fun w => by kernel_rfl) (eqv_int (k := .u8) eu5 d s.x6 t.x6) (eqi_cons (P := Tryz.prog) (e := 5) (c := 1) (xs := s.c) (ys := t.c) (i := 7) (fun w => by kernel_rfl) (fun w => by kernel_rfl) (eqv_int (k := .u8) eu5 d s.x7 t.x7) (eqi_cons (P := Tryz.prog) (e := 5) (c := 1) (xs := s.c) (ys := t.c) (i := 8) (fun w => by kernel_rfl) (fun w => by kernel_rfl) (eqv_int (k := .u8) eu5 d s.x8 t.x8) (eqi_cons (P := Tryz.prog) (e := 5) (c := 1) (xs := s.c) (ys := t.c) (i := 9) (fun w => by kernel_rfl) (fun w => by kernel_rfl) (eqv_int (k := .u8) eu5 d s.x9 t.x9) (eqi_cons (P := Tryz.prog) (e := 5) (c := 1) (xs := s.c) (ys := t.c) (i := 10) (fun w => by kernel_rfl) (fun w => by kernel_rfl) (eqv_int (k := .u8) eu5 d s.x10 t.x10) (eqi_cons (P := Tryz.prog) (e := 5) (c := 1) (xs := s.c) (ys := t.c) (i := 11) (fun w => by kernel_rfl) (fun w => by kernel_rfl) (eqv_int (k := .u8) eu5 d s.x11 t.x11) (eqi_cons (P := Tryz.prog) (e := 5) (c := 1) (xs := s.c) (ys := t.c) (i := 12) (fun w => by kernel_rfl) (fun w => by kernel_rfl) (eqv_int (k := .u8) eu5 d s.x12 t.x12) (eqi_cons (P := Tryz.prog) (e := 5) (c := 1) (xs := s.c) (ys := t.c) (i := 13) (fun w => by kernel_rfl) (fun w => by kernel_rfl) (eqv_int (k := .u8) eu5 d s.x13 t.x13) (eqi_cons (P := Tryz.prog) (e := 5) (c := 1) (xs := s.c) (ys := t.c) (i := 14) (fun w => by kernel_rfl) (fun w => by kernel_rfl) (eqv_int (k := .u8) eu5 d s.x14 t.x14) (eqi_cons (P := Tryz.prog) (e := 5) (c := 1) (xs := s.c) (ys := t.c) (i := 15) (fun w => by kernel_rfl) (fun w => by kernel_rfl) (eqv_int (k := .u8) eu5 d s.x15 t.x15) (eqi_nil))))))))))))))))
  intro w
  have h2 := run_equalIn_array (P := Tryz.prog) w (d + 1) (t := 24) (e := 5) (n := 16) s.c t.c (by kernel_rfl) (i := (Tryz.prog.info? 5).get (by kernel_rfl)) (by kernel_rfl)
  rw [show d + 1 + 1 = d + 1 + 1 from rfl, h2, show Tryz.prog.cellsOf 5 = 1 by kernel_rfl]
  refine (key w).trans ?_
  refine congrArg (fun b => Result.ok b w) ?_
  cases s; cases t
  simp only [B16.mk.injEq, Bool.decide_and, Bool.and_true]
theorem qv_eql_24 {fr : Fr} {M : Mem} {ty u : TypeId} {x y : Operand} {s t : B16} {b : Bool} (hx : evo fr x = some (.agg s.c)) (hy : evo fr y = some (.agg t.c)) (hb : decide (s = t) = b) : QV Tryz.prog (.binOp .eql 24 x y u) ty fr M (.bool b) := hb ▸ qv_eqlA (k := 1) hx hy (by kernel_rfl) (fun d => eqv_24 d s t) (Nat.le_of_ble_eq_true rfl)
theorem eu4 : Tryz.prog.underlying 4 = some .bool := by kernel_rfl
theorem fl_26 : (Tryz.prog.fieldsOf 26).toList = [(Tryz.prog.fieldsOf 26).toList.getD 0 default, (Tryz.prog.fieldsOf 26).toList.getD 1 default] := by kernel_rfl
theorem eqv_26 (d : Nat) (s t : Adr) : ∀ w, (Op.equalIn (d + 2 + 1) 26 (.agg s.c) (.agg t.c)).run Tryz.prog w = .ok (decide (s = t)) w := by
  intro w
  rw [run_equalIn_struct (P := Tryz.prog) w (d + 2) 26 s.c t.c (by kernel_rfl) (by kernel_rfl), fl_26]
  refine ((eqf_cons (P := Tryz.prog) (xs := s.c) (ys := t.c) (f := (Tryz.prog.fieldsOf 26).toList.getD 0 default) (ft := 4) (off := 0) (by kernel_rfl) (by kernel_rfl) (by kernel_rfl) (fun w => by kernel_rfl) (fun w => by kernel_rfl) (eqv_bool eu4 (d + 1) s.six t.six) (eqf_cons (P := Tryz.prog) (xs := s.c) (ys := t.c) (f := (Tryz.prog.fieldsOf 26).toList.getD 1 default) (ft := 24) (off := 1) (by kernel_rfl) (by kernel_rfl) (by kernel_rfl) (fun w => by kernel_rfl) (fun w => by kernel_rfl) (fun w => eqv_24 (d + 0) s.b t.b w) (eqf_nil))) w).trans ?_
  refine congrArg (fun b => Result.ok b w) ?_
  cases s; cases t
  simp only [Adr.mk.injEq, Bool.decide_and, Bool.and_true]
theorem eu27 : Tryz.prog.underlying 27 = some (.int .u16) := by kernel_rfl
theorem fl_29 : (Tryz.prog.fieldsOf 29).toList = [(Tryz.prog.fieldsOf 29).toList.getD 0 default, (Tryz.prog.fieldsOf 29).toList.getD 1 default, (Tryz.prog.fieldsOf 29).toList.getD 2 default, (Tryz.prog.fieldsOf 29).toList.getD 3 default, (Tryz.prog.fieldsOf 29).toList.getD 4 default] := by kernel_rfl
theorem eqv_29 (d : Nat) (s t : Key) : ∀ w, (Op.equalIn (d + 3 + 1) 29 (.agg s.c) (.agg t.c)).run Tryz.prog w = .ok (decide (s = t)) w := by
  intro w
  rw [run_equalIn_struct (P := Tryz.prog) w (d + 3) 29 s.c t.c (by kernel_rfl) (by kernel_rfl), fl_29]
  refine ((eqf_cons (P := Tryz.prog) (xs := s.c) (ys := t.c) (f := (Tryz.prog.fieldsOf 29).toList.getD 0 default) (ft := 26) (off := 0) (by kernel_rfl) (by kernel_rfl) (by kernel_rfl) (fun w => by kernel_rfl) (fun w => by kernel_rfl) (fun w => eqv_26 (d + 0) s.src t.src w) (eqf_cons (P := Tryz.prog) (xs := s.c) (ys := t.c) (f := (Tryz.prog.fieldsOf 29).toList.getD 1 default) (ft := 26) (off := 17) (by kernel_rfl) (by kernel_rfl) (by kernel_rfl) (fun w => by kernel_rfl) (fun w => by kernel_rfl) (fun w => eqv_26 (d + 0) s.dst t.dst w) (eqf_cons (P := Tryz.prog) (xs := s.c) (ys := t.c) (f := (Tryz.prog.fieldsOf 29).toList.getD 2 default) (ft := 5) (off := 34) (by kernel_rfl) (by kernel_rfl) (by kernel_rfl) (fun w => by kernel_rfl) (fun w => by kernel_rfl) (eqv_int (k := .u8) eu5 (d + 2) s.proto t.proto) (eqf_cons (P := Tryz.prog) (xs := s.c) (ys := t.c) (f := (Tryz.prog.fieldsOf 29).toList.getD 3 default) (ft := 27) (off := 35) (by kernel_rfl) (by kernel_rfl) (by kernel_rfl) (fun w => by kernel_rfl) (fun w => by kernel_rfl) (eqv_int (k := .u16) eu27 (d + 2) s.srcPort t.srcPort) (eqf_cons (P := Tryz.prog) (xs := s.c) (ys := t.c) (f := (Tryz.prog.fieldsOf 29).toList.getD 4 default) (ft := 27) (off := 36) (by kernel_rfl) (by kernel_rfl) (by kernel_rfl) (fun w => by kernel_rfl) (fun w => by kernel_rfl) (eqv_int (k := .u16) eu27 (d + 2) s.dstPort t.dstPort) (eqf_nil)))))) w).trans ?_
  refine congrArg (fun b => Result.ok b w) ?_
  cases s; cases t
  simp only [Key.mk.injEq, Bool.decide_and, Bool.and_true]
theorem qv_eql_29 {fr : Fr} {M : Mem} {ty u : TypeId} {x y : Operand} {s t : Key} {b : Bool} (hx : evo fr x = some (.agg s.c)) (hy : evo fr y = some (.agg t.c)) (hb : decide (s = t) = b) : QV Tryz.prog (.binOp .eql 29 x y u) ty fr M (.bool b) := hb ▸ qv_eqlA (k := 3) hx hy (by kernel_rfl) (fun d => eqv_29 d s t) (Nat.le_of_ble_eq_true rfl)
theorem eu23 : Tryz.prog.underlying 23 = some (.int .u64) := by kernel_rfl
theorem fl_65 : (Tryz.prog.fieldsOf 65).toList = [(Tryz.prog.fieldsOf 65).toList.getD 0 default, (Tryz.prog.fieldsOf 65).toList.getD 1 default] := by kernel_rfl
theorem eqv_65 (d : Nat) (s t : Tot) : ∀ w, (Op.equalIn (d + 1 + 1) 65 (.agg s.c) (.agg t.c)).run Tryz.prog w = .ok (decide (s = t)) w := by
  intro w
  rw [run_equalIn_struct (P := Tryz.prog) w (d + 1) 65 s.c t.c (by kernel_rfl) (by kernel_rfl), fl_65]
  refine ((eqf_cons (P := Tryz.prog) (xs := s.c) (ys := t.c) (f := (Tryz.prog.fieldsOf 65).toList.getD 0 default) (ft := 23) (off := 0) (by kernel_rfl) (by kernel_rfl) (by kernel_rfl) (fun w => by kernel_rfl) (fun w => by kernel_rfl) (eqv_int (k := .u64) eu23 (d + 0) s.packets t.packets) (eqf_cons (P := Tryz.prog) (xs := s.c) (ys := t.c) (f := (Tryz.prog.fieldsOf 65).toList.getD 1 default) (ft := 23) (off := 1) (by kernel_rfl) (by kernel_rfl) (by kernel_rfl) (fun w => by kernel_rfl) (fun w => by kernel_rfl) (eqv_int (k := .u64) eu23 (d + 0) s.bytes t.bytes) (eqf_nil))) w).trans ?_
  refine congrArg (fun b => Result.ok b w) ?_
  cases s; cases t
  simp only [Tot.mk.injEq, Bool.decide_and, Bool.and_true]
theorem qv_eql_65 {fr : Fr} {M : Mem} {ty u : TypeId} {x y : Operand} {s t : Tot} {b : Bool} (hx : evo fr x = some (.agg s.c)) (hy : evo fr y = some (.agg t.c)) (hb : decide (s = t) = b) : QV Tryz.prog (.binOp .eql 65 x y u) ty fr M (.bool b) := hb ▸ qv_eqlA (k := 1) hx hy (by kernel_rfl) (fun d => eqv_65 d s t) (Nat.le_of_ble_eq_true rfl)
theorem fl_69 : (Tryz.prog.fieldsOf 69).toList = [(Tryz.prog.fieldsOf 69).toList.getD 0 default, (Tryz.prog.fieldsOf 69).toList.getD 1 default, (Tryz.prog.fieldsOf 69).toList.getD 2 default, (Tryz.prog.fieldsOf 69).toList.getD 3 default, (Tryz.prog.fieldsOf 69).toList.getD 4 default, (Tryz.prog.fieldsOf 69).toList.getD 5 default, (Tryz.prog.fieldsOf 69).toList.getD 6 default, (Tryz.prog.fieldsOf 69).toList.getD 7 default] := by kernel_rfl
theorem eqv_69 (d : Nat) (s t : Rec) : ∀ w, (Op.equalIn (d + 4 + 1) 69 (.agg s.c) (.agg t.c)).run Tryz.prog w = .ok (decide (s = t)) w := by
  intro w
  rw [run_equalIn_struct (P := Tryz.prog) w (d + 4) 69 s.c t.c (by kernel_rfl) (by kernel_rfl), fl_69]
  refine ((eqf_cons (P := Tryz.prog) (xs := s.c) (ys := t.c) (f := (Tryz.prog.fieldsOf 69).toList.getD 0 default) (ft := 29) (off := 0) (by kernel_rfl) (by kernel_rfl) (by kernel_rfl) (fun w => by kernel_rfl) (fun w => by kernel_rfl) (fun w => eqv_29 (d + 0) s.key t.key w) (eqf_cons (P := Tryz.prog) (xs := s.c) (ys := t.c) (f := (Tryz.prog.fieldsOf 69).toList.getD 1 default) (ft := 23) (off := 37) (by kernel_rfl) (by kernel_rfl) (by kernel_rfl) (fun w => by kernel_rfl) (fun w => by kernel_rfl) (eqv_int (k := .u64) eu23 (d + 3) s.packets t.packets) (eqf_cons (P := Tryz.prog) (xs := s.c) (ys := t.c) (f := (Tryz.prog.fieldsOf 69).toList.getD 2 default) (ft := 23) (off := 38) (by kernel_rfl) (by kernel_rfl) (by kernel_rfl) (fun w => by kernel_rfl) (fun w => by kernel_rfl) (eqv_int (k := .u64) eu23 (d + 3) s.bytes t.bytes) (eqf_cons (P := Tryz.prog) (xs := s.c) (ys := t.c) (f := (Tryz.prog.fieldsOf 69).toList.getD 3 default) (ft := 23) (off := 39) (by kernel_rfl) (by kernel_rfl) (by kernel_rfl) (fun w => by kernel_rfl) (fun w => by kernel_rfl) (eqv_int (k := .u64) eu23 (d + 3) s.first t.first) (eqf_cons (P := Tryz.prog) (xs := s.c) (ys := t.c) (f := (Tryz.prog.fieldsOf 69).toList.getD 4 default) (ft := 23) (off := 40) (by kernel_rfl) (by kernel_rfl) (by kernel_rfl) (fun w => by kernel_rfl) (fun w => by kernel_rfl) (eqv_int (k := .u64) eu23 (d + 3) s.last t.last) (eqf_cons (P := Tryz.prog) (xs := s.c) (ys := t.c) (f := (Tryz.prog.fieldsOf 69).toList.getD 5 default) (ft := 5) (off := 41) (by kernel_rfl) (by kernel_rfl) (by kernel_rfl) (fun w => by kernel_rfl) (fun w => by kernel_rfl) (eqv_int (k := .u8) eu5 (d + 3) s.flags t.flags) (eqf_cons (P := Tryz.prog) (xs := s.c) (ys := t.c) (f := (Tryz.prog.fieldsOf 69).toList.getD 6 default) (ft := 5) (off := 42) (by kernel_rfl) (by kernel_rfl) (by kernel_rfl) (fun w => by kernel_rfl) (fun w => by kernel_rfl) (eqv_int (k := .u8) eu5 (d + 3) s.reason t.reason) (eqf_cons (P := Tryz.prog) (xs := s.c) (ys := t.c) (f := (Tryz.prog.fieldsOf 69).toList.getD 7 default) (ft := 5) (off := 43) (by kernel_rfl) (by kernel_rfl) (by kernel_rfl) (fun w => by kernel_rfl) (fun w => by kernel_rfl) (eqv_int (k := .u8) eu5 (d + 3) s.cls t.cls) (eqf_nil))))))))) w).trans ?_
  refine congrArg (fun b => Result.ok b w) ?_
  cases s; cases t
  simp only [Rec.mk.injEq, Bool.decide_and, Bool.and_true]
theorem qv_eql_69 {fr : Fr} {M : Mem} {ty u : TypeId} {x y : Operand} {s t : Rec} {b : Bool} (hx : evo fr x = some (.agg s.c)) (hy : evo fr y = some (.agg t.c)) (hb : decide (s = t) = b) : QV Tryz.prog (.binOp .eql 69 x y u) ty fr M (.bool b) := hb ▸ qv_eqlA (k := 4) hx hy (by kernel_rfl) (fun d => eqv_69 d s t) (Nat.le_of_ble_eq_true rfl)
theorem qv_neq_69 {fr : Fr} {M : Mem} {ty u : TypeId} {x y : Operand} {s t : Rec} {b : Bool} (hx : evo fr x = some (.agg s.c)) (hy : evo fr y = some (.agg t.c)) (hb : (!(decide (s = t))) = b) : QV Tryz.prog (.binOp .neq 69 x y u) ty fr M (.bool b) := hb ▸ qv_neqA (k := 4) hx hy (by kernel_rfl) (fun d => eqv_69 d s t) (Nat.le_of_ble_eq_true rfl)
theorem fl_90 : (Tryz.prog.fieldsOf 90).toList = [(Tryz.prog.fieldsOf 90).toList.getD 0 default, (Tryz.prog.fieldsOf 90).toList.getD 1 default] := by kernel_rfl
theorem eqv_90 (d : Nat) (s t : Adr) : ∀ w, (Op.equalIn (d + 2 + 1) 90 (.agg s.c) (.agg t.c)).run Tryz.prog w = .ok (decide (s = t)) w := by
  intro w
  rw [run_equalIn_struct (P := Tryz.prog) w (d + 2) 90 s.c t.c (by kernel_rfl) (by kernel_rfl), fl_90]
  refine ((eqf_cons (P := Tryz.prog) (xs := s.c) (ys := t.c) (f := (Tryz.prog.fieldsOf 90).toList.getD 0 default) (ft := 4) (off := 0) (by kernel_rfl) (by kernel_rfl) (by kernel_rfl) (fun w => by kernel_rfl) (fun w => by kernel_rfl) (eqv_bool eu4 (d + 1) s.six t.six) (eqf_cons (P := Tryz.prog) (xs := s.c) (ys := t.c) (f := (Tryz.prog.fieldsOf 90).toList.getD 1 default) (ft := 24) (off := 1) (by kernel_rfl) (by kernel_rfl) (by kernel_rfl) (fun w => by kernel_rfl) (fun w => by kernel_rfl) (fun w => eqv_24 (d + 0) s.b t.b w) (eqf_nil))) w).trans ?_
  refine congrArg (fun b => Result.ok b w) ?_
  cases s; cases t
  simp only [Adr.mk.injEq, Bool.decide_and, Bool.and_true]
theorem fl_92 : (Tryz.prog.fieldsOf 92).toList = [(Tryz.prog.fieldsOf 92).toList.getD 0 default, (Tryz.prog.fieldsOf 92).toList.getD 1 default, (Tryz.prog.fieldsOf 92).toList.getD 2 default, (Tryz.prog.fieldsOf 92).toList.getD 3 default, (Tryz.prog.fieldsOf 92).toList.getD 4 default] := by kernel_rfl
theorem eqv_92 (d : Nat) (s t : Key) : ∀ w, (Op.equalIn (d + 3 + 1) 92 (.agg s.c) (.agg t.c)).run Tryz.prog w = .ok (decide (s = t)) w := by
  intro w
  rw [run_equalIn_struct (P := Tryz.prog) w (d + 3) 92 s.c t.c (by kernel_rfl) (by kernel_rfl), fl_92]
  refine ((eqf_cons (P := Tryz.prog) (xs := s.c) (ys := t.c) (f := (Tryz.prog.fieldsOf 92).toList.getD 0 default) (ft := 90) (off := 0) (by kernel_rfl) (by kernel_rfl) (by kernel_rfl) (fun w => by kernel_rfl) (fun w => by kernel_rfl) (fun w => eqv_90 (d + 0) s.src t.src w) (eqf_cons (P := Tryz.prog) (xs := s.c) (ys := t.c) (f := (Tryz.prog.fieldsOf 92).toList.getD 1 default) (ft := 90) (off := 17) (by kernel_rfl) (by kernel_rfl) (by kernel_rfl) (fun w => by kernel_rfl) (fun w => by kernel_rfl) (fun w => eqv_90 (d + 0) s.dst t.dst w) (eqf_cons (P := Tryz.prog) (xs := s.c) (ys := t.c) (f := (Tryz.prog.fieldsOf 92).toList.getD 2 default) (ft := 5) (off := 34) (by kernel_rfl) (by kernel_rfl) (by kernel_rfl) (fun w => by kernel_rfl) (fun w => by kernel_rfl) (eqv_int (k := .u8) eu5 (d + 2) s.proto t.proto) (eqf_cons (P := Tryz.prog) (xs := s.c) (ys := t.c) (f := (Tryz.prog.fieldsOf 92).toList.getD 3 default) (ft := 27) (off := 35) (by kernel_rfl) (by kernel_rfl) (by kernel_rfl) (fun w => by kernel_rfl) (fun w => by kernel_rfl) (eqv_int (k := .u16) eu27 (d + 2) s.srcPort t.srcPort) (eqf_cons (P := Tryz.prog) (xs := s.c) (ys := t.c) (f := (Tryz.prog.fieldsOf 92).toList.getD 4 default) (ft := 27) (off := 36) (by kernel_rfl) (by kernel_rfl) (by kernel_rfl) (fun w => by kernel_rfl) (fun w => by kernel_rfl) (eqv_int (k := .u16) eu27 (d + 2) s.dstPort t.dstPort) (eqf_nil)))))) w).trans ?_
  refine congrArg (fun b => Result.ok b w) ?_
  cases s; cases t
  simp only [Key.mk.injEq, Bool.decide_and, Bool.and_true]
theorem qv_eql_92 {fr : Fr} {M : Mem} {ty u : TypeId} {x y : Operand} {s t : Key} {b : Bool} (hx : evo fr x = some (.agg s.c)) (hy : evo fr y = some (.agg t.c)) (hb : decide (s = t) = b) : QV Tryz.prog (.binOp .eql 92 x y u) ty fr M (.bool b) := hb ▸ qv_eqlA (k := 3) hx hy (by kernel_rfl) (fun d => eqv_92 d s t) (Nat.le_of_ble_eq_true rfl)
theorem fl_100 : (Tryz.prog.fieldsOf 100).toList = [(Tryz.prog.fieldsOf 100).toList.getD 0 default, (Tryz.prog.fieldsOf 100).toList.getD 1 default, (Tryz.prog.fieldsOf 100).toList.getD 2 default, (Tryz.prog.fieldsOf 100).toList.getD 3 default, (Tryz.prog.fieldsOf 100).toList.getD 4 default, (Tryz.prog.fieldsOf 100).toList.getD 5 default, (Tryz.prog.fieldsOf 100).toList.getD 6 default, (Tryz.prog.fieldsOf 100).toList.getD 7 default] := by kernel_rfl
theorem eqv_100 (d : Nat) (s t : Rec) : ∀ w, (Op.equalIn (d + 4 + 1) 100 (.agg s.c) (.agg t.c)).run Tryz.prog w = .ok (decide (s = t)) w := by
  intro w
  rw [run_equalIn_struct (P := Tryz.prog) w (d + 4) 100 s.c t.c (by kernel_rfl) (by kernel_rfl), fl_100]
  refine ((eqf_cons (P := Tryz.prog) (xs := s.c) (ys := t.c) (f := (Tryz.prog.fieldsOf 100).toList.getD 0 default) (ft := 92) (off := 0) (by kernel_rfl) (by kernel_rfl) (by kernel_rfl) (fun w => by kernel_rfl) (fun w => by kernel_rfl) (fun w => eqv_92 (d + 0) s.key t.key w) (eqf_cons (P := Tryz.prog) (xs := s.c) (ys := t.c) (f := (Tryz.prog.fieldsOf 100).toList.getD 1 default) (ft := 23) (off := 37) (by kernel_rfl) (by kernel_rfl) (by kernel_rfl) (fun w => by kernel_rfl) (fun w => by kernel_rfl) (eqv_int (k := .u64) eu23 (d + 3) s.packets t.packets) (eqf_cons (P := Tryz.prog) (xs := s.c) (ys := t.c) (f := (Tryz.prog.fieldsOf 100).toList.getD 2 default) (ft := 23) (off := 38) (by kernel_rfl) (by kernel_rfl) (by kernel_rfl) (fun w => by kernel_rfl) (fun w => by kernel_rfl) (eqv_int (k := .u64) eu23 (d + 3) s.bytes t.bytes) (eqf_cons (P := Tryz.prog) (xs := s.c) (ys := t.c) (f := (Tryz.prog.fieldsOf 100).toList.getD 3 default) (ft := 23) (off := 39) (by kernel_rfl) (by kernel_rfl) (by kernel_rfl) (fun w => by kernel_rfl) (fun w => by kernel_rfl) (eqv_int (k := .u64) eu23 (d + 3) s.first t.first) (eqf_cons (P := Tryz.prog) (xs := s.c) (ys := t.c) (f := (Tryz.prog.fieldsOf 100).toList.getD 4 default) (ft := 23) (off := 40) (by kernel_rfl) (by kernel_rfl) (by kernel_rfl) (fun w => by kernel_rfl) (fun w => by kernel_rfl) (eqv_int (k := .u64) eu23 (d + 3) s.last t.last) (eqf_cons (P := Tryz.prog) (xs := s.c) (ys := t.c) (f := (Tryz.prog.fieldsOf 100).toList.getD 5 default) (ft := 5) (off := 41) (by kernel_rfl) (by kernel_rfl) (by kernel_rfl) (fun w => by kernel_rfl) (fun w => by kernel_rfl) (eqv_int (k := .u8) eu5 (d + 3) s.flags t.flags) (eqf_cons (P := Tryz.prog) (xs := s.c) (ys := t.c) (f := (Tryz.prog.fieldsOf 100).toList.getD 6 default) (ft := 5) (off := 42) (by kernel_rfl) (by kernel_rfl) (by kernel_rfl) (fun w => by kernel_rfl) (fun w => by kernel_rfl) (eqv_int (k := .u8) eu5 (d + 3) s.reason t.reason) (eqf_cons (P := Tryz.prog) (xs := s.c) (ys := t.c) (f := (Tryz.prog.fieldsOf 100).toList.getD 7 default) (ft := 5) (off := 43) (by kernel_rfl) (by kernel_rfl) (by kernel_rfl) (fun w => by kernel_rfl) (fun w => by kernel_rfl) (eqv_int (k := .u8) eu5 (d + 3) s.cls t.cls) (eqf_nil))))))))) w).trans ?_
  refine congrArg (fun b => Result.ok b w) ?_
  cases s; cases t
  simp only [Rec.mk.injEq, Bool.decide_and, Bool.and_true]
theorem qv_eql_100 {fr : Fr} {M : Mem} {ty u : TypeId} {x y : Operand} {s t : Rec} {b : Bool} (hx : evo fr x = some (.agg s.c)) (hy : evo fr y = some (.agg t.c)) (hb : decide (s = t) = b) : QV Tryz.prog (.binOp .eql 100 x y u) ty fr M (.bool b) := hb ▸ qv_eqlA (k := 4) hx hy (by kernel_rfl) (fun d => eqv_100 d s t) (Nat.le_of_ble_eq_true rfl)
theorem qv_neq_100 {fr : Fr} {M : Mem} {ty u : TypeId} {x y : Operand} {s t : Rec} {b : Bool} (hx : evo fr x = some (.agg s.c)) (hy : evo fr y = some (.agg t.c)) (hb : (!(decide (s = t))) = b) : QV Tryz.prog (.binOp .neq 100 x y u) ty fr M (.bool b) := hb ▸ qv_neqA (k := 4) hx hy (by kernel_rfl) (fun d => eqv_100 d s t) (Nat.le_of_ble_eq_true rfl)
theorem fl_119 : (Tryz.prog.fieldsOf 119).toList = [(Tryz.prog.fieldsOf 119).toList.getD 0 default, (Tryz.prog.fieldsOf 119).toList.getD 1 default] := by kernel_rfl
theorem eqv_119 (d : Nat) (s t : Sum24) : ∀ w, (Op.equalIn (d + 4 + 1) 119 (.agg s.c) (.agg t.c)).run Tryz.prog w = .ok (decide (s = t)) w := by
  intro w
  rw [run_equalIn_struct (P := Tryz.prog) w (d + 4) 119 s.c t.c (by kernel_rfl) (by kernel_rfl), fl_119]
  refine ((eqf_cons (P := Tryz.prog) (xs := s.c) (ys := t.c) (f := (Tryz.prog.fieldsOf 119).toList.getD 0 default) (ft := 29) (off := 0) (by kernel_rfl) (by kernel_rfl) (by kernel_rfl) (fun w => by kernel_rfl) (fun w => by kernel_rfl) (fun w => eqv_29 (d + 0) s.key t.key w) (eqf_cons (P := Tryz.prog) (xs := s.c) (ys := t.c) (f := (Tryz.prog.fieldsOf 119).toList.getD 1 default) (ft := 65) (off := 37) (by kernel_rfl) (by kernel_rfl) (by kernel_rfl) (fun w => by kernel_rfl) (fun w => by kernel_rfl) (fun w => eqv_65 (d + 2) s.total t.total w) (eqf_nil))) w).trans ?_
  refine congrArg (fun b => Result.ok b w) ?_
  cases s; cases t
  simp only [Sum24.mk.injEq, Bool.decide_and, Bool.and_true]
theorem qv_eql_119 {fr : Fr} {M : Mem} {ty u : TypeId} {x y : Operand} {s t : Sum24} {b : Bool} (hx : evo fr x = some (.agg s.c)) (hy : evo fr y = some (.agg t.c)) (hb : decide (s = t) = b) : QV Tryz.prog (.binOp .eql 119 x y u) ty fr M (.bool b) := hb ▸ qv_eqlA (k := 4) hx hy (by kernel_rfl) (fun d => eqv_119 d s t) (Nat.le_of_ble_eq_true rfl)
def eRec : Enc Rec := ⟨Rec.c, 44, siz_Rec⟩
def eSlot : Enc Slot := ⟨Slot.c, 39, siz_Slot⟩
def eAct24 : Enc Act24 := ⟨Act24.c, 43, siz_Act24⟩
def eBnd : Enc Bnd := ⟨Bnd.c, 5, siz_Bnd⟩
def eSum24 : Enc Sum24 := ⟨Sum24.c, 39, siz_Sum24⟩
theorem el22 : ElT Tryz.prog 22 33 43 80 := ⟨by kernel_rfl, ⟨(Tryz.prog.info? 33).get (by kernel_rfl), (((Tryz.prog.info? 33).get (by kernel_rfl)).zero).get (by kernel_rfl), by kernel_rfl, by kernel_rfl, by kernel_rfl, by kernel_rfl, by kernel_rfl⟩, by decide⟩
theorem el54 : ElT Tryz.prog 54 119 39 56 := ⟨by kernel_rfl, ⟨(Tryz.prog.info? 119).get (by kernel_rfl), (((Tryz.prog.info? 119).get (by kernel_rfl)).zero).get (by kernel_rfl), by kernel_rfl, by kernel_rfl, by kernel_rfl, by kernel_rfl, by kernel_rfl⟩, by decide⟩
theorem el55 : ElT Tryz.prog 55 69 44 80 := ⟨by kernel_rfl, ⟨(Tryz.prog.info? 69).get (by kernel_rfl), (((Tryz.prog.info? 69).get (by kernel_rfl)).zero).get (by kernel_rfl), by kernel_rfl, by kernel_rfl, by kernel_rfl, by kernel_rfl, by kernel_rfl⟩, by decide⟩
theorem el85 : ElT Tryz.prog 85 100 44 80 := ⟨by kernel_rfl, ⟨(Tryz.prog.info? 100).get (by kernel_rfl), (((Tryz.prog.info? 100).get (by kernel_rfl)).zero).get (by kernel_rfl), by kernel_rfl, by kernel_rfl, by kernel_rfl, by kernel_rfl, by kernel_rfl⟩, by decide⟩
theorem el143 : ElT Tryz.prog 143 5 1 1 := ⟨by kernel_rfl, ⟨(Tryz.prog.info? 5).get (by kernel_rfl), (((Tryz.prog.info? 5).get (by kernel_rfl)).zero).get (by kernel_rfl), by kernel_rfl, by kernel_rfl, by kernel_rfl, by kernel_rfl, by kernel_rfl⟩, by decide⟩
theorem bls143_0 : ∀ w, (Instr.buildSlice 143 0 [].toArray).run Tryz.prog w = .ok (.slice (some ⟨w.heap.size, 0, none⟩) 0 0) (w.alloc (.cells #[] 5 (0, 0))) := fun _ => by kernel_rfl
theorem mixed : Tryz.prog.follows .mixedOrders = true := by kernel_rfl
end Go.Proofs.YtobmcpoejhhemaaGreat
