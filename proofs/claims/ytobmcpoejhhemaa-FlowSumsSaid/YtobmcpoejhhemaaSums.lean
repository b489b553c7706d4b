/- The law FlowSums: the walk. -/
import Derived.Test.YtobmcpoejhhemaaFlow
namespace Go.Proofs.Ytobmcpoejhhemaa
open Go.E

def bit (i : Nat) : Int := IntKind.u8.wrap (1 * 2 ^ min ((i : Int) % 8).toNat IntKind.u8.bits)
theorem or_and_bit (f : Int) (i : Nat) : bits .and .u8 (bits .or .u8 f (bit i)) (bit i) ≠ 0 := by
  have h : ∀ F : BitVec 8, ∀ j : Fin 8, bits .and .u8 (IntKind.u8.wrap (F ||| BitVec.ofInt 8 (IntKind.u8.wrap (1 * 2 ^ min j.val IntKind.u8.bits))).toNat) (IntKind.u8.wrap (1 * 2 ^ min j.val IntKind.u8.bits)) ≠ 0 := by decide +kernel
  exact h (BitVec.ofInt 8 f) ⟨((i : Int) % 8).toNat, by omega⟩
theorem sat_assoc {a b c : Int} (ha : U64 a) (hb : U64 b) (hc : U64 c) : sat (sat a b) c = sat a (sat b c) := by unfold sat U64 at *; repeat' split <;> omega
theorem Tot.plus_assoc {t u v : Tot} (ht : t.Ok) (hu : u.Ok) (hv : v.Ok) : (t.plus u).plus v = t.plus (u.plus v) := by
  simp only [Tot.plus, Tot.mk.injEq]
  exact ⟨sat_assoc ht.1 hu.1 hv.1, sat_assoc ht.2 hu.2 hv.2⟩
structure SumsI (k : Key) (i : Nat) (r : Rec) (sm la : Int) : Prop where
  key : r.key = k
  cls : r.cls = 3
  first : r.first = 100
  last : r.last = la
  packets : r.packets = i
  bytes : r.bytes = sm
  s0 : 0 ≤ sm
  s1 : sm ≤ 65535 * i
theorem SumsI.step {k : Key} {i : Nat} {r : Rec} {sm la x y : Int} {p : Pkt} (h : SumsI k i r sm la) (hi : i < 50) (h0 : 0 ≤ x) (h1 : x ≤ 65535) (hp : p.length = x) : SumsI k (i + 1) (r.with_ p y) (sm + x) (max la y) := by
  obtain ⟨a, b, c, d, e, f, g, j⟩ := h
  refine ⟨a, b, c, by simp [Rec.with_, d], ?_, ?_, by omega, by omega⟩
  · simp only [Rec.with_, e, sat]; split <;> omega
  · simp only [Rec.with_, f, sat, hp]; split <;> omega

theorem ct_FlowSums (k : Key) (ls ts : List Int) (t u v : Tot) (ht : t.Ok) (hu : u.Ok) (hv : v.Ok) (hls : ∀ x ∈ ls, 0 ≤ x ∧ x ≤ 65535) (R : Mem) (p1 p2 : Option Addr) (cap1 cap2 : Nat) (h1 : Lst (eI .u16) p1 ls R) (h2 : Lst (eI .u64) p2 ts R) :
    Ct Try.prog 3 [.agg k.c, .slice p1 ls.length cap1, .slice p2 ts.length cap2, .agg t.c, .agg u.c, .agg v.c].toArray R (fun v M' => v = .bool true ∧ M' = R) := by
  refine ct_body (rv := [.tmp 12]) [(0, _), (1, _), (2, _), (3, _), (4, _), (5, _)] Try.func3 (by kernel_rfl) Try.ntmps3 Try.results3 rfl rfl (fun w0 => ?_)
  refine p_seq (by kernel_rfl) ?_
  refine p_plain (by kernel_rfl) [0, 1, 2, 3, 4] (by kernel_rfl) ?_
  refine go_s (d := some 6) (op := .box 27 (.tmp 0)) (ty := 0) (g := none) (by kernel_rfl) trivial ?_
  refine os_boxA rfl rfl (fun b6 => ?_)
  refine go_s (d := some 9) (op := .box 32 (.tmp 3)) (ty := 0) (g := none) (by kernel_rfl) trivial ?_
  refine os_boxA rfl rfl (fun b9 => ?_)
  refine go_s (d := some 10) (op := .box 32 (.tmp 4)) (ty := 0) (g := none) (by kernel_rfl) trivial ?_
  refine os_boxA rfl rfl (fun b10 => ?_)
  refine go_s (d := some 11) (op := .box 32 (.tmp 5)) (ty := 0) (g := none) (by kernel_rfl) trivial ?_
  refine os_boxA rfl rfl (fun b11 => ?_)
  refine go_q (d := 12) (op := .assign (.const (.bool false))) (ty := 4) (g := none) (by kernel_rfl) trivial rfl (qv_assign rfl) ?_
  refine go_nil ?_
  change G _ _ _ _
  refine p_weaken [1, 2, 6, 9, 10, 11, 12] rfl ?_
  refine p_seq (by kernel_rfl) ?_
  refine p_seq (by kernel_rfl) ?_
  refine p_plain (by kernel_rfl) [0, 1, 2, 3, 4, 5, 6, 7] (by kernel_rfl) ?_
  refine go_q (d := 17) (op := .move (.tmp 1)) (ty := 28) (g := none) (by kernel_rfl) trivial rfl (qv_move rfl) ?_
  refine go_q (d := 18) (op := .call { callee := .builtin .len, args := #[.tmp 17], argTypes := #[28] }) (ty := 3) (g := none) (by kernel_rfl) trivial rfl (qv_lenS un28 rfl) ?_
  refine go_q (d := 19) (op := .binOp .gtr 3 (.tmp 18) (.const (.int .i64 50)) 3) (ty := 4) (g := none) (by kernel_rfl) trivial rfl (qv_gtr rfl rfl rfl) ?_
  refine go_q (d := 20) (op := .move (.tmp 19)) (ty := 4) (g := none) (by kernel_rfl) trivial rfl (qv_move rfl) ?_
  refine go_case (d := 20) rfl (fun g20 => ?_) (fun g20 => ?_)
  · try simp only [decide_eq_true_eq, decide_eq_false_iff_not, beq_iff_eq, beq_eq_false_iff_ne, ne_eq, Bool.not_eq_true', Bool.not_eq_false', bne_iff_ne, bne_eq_false_iff_eq] at g20
    refine go_n (d := 21) (op := .move (.tmp 2)) (ty := 29) (g := some (3, false)) (by kernel_rfl) ⟨20, by kernel_rfl, rfl⟩ rfl ?_
    refine go_n (d := 22) (op := .call { callee := .builtin .len, args := #[.tmp 21], argTypes := #[29] }) (ty := 3) (g := some (3, false)) (by kernel_rfl) ⟨20, by kernel_rfl, rfl⟩ rfl ?_
    refine go_n (d := 23) (op := .binOp .gtr 3 (.tmp 22) (.const (.int .i64 50)) 3) (ty := 4) (g := some (3, false)) (by kernel_rfl) ⟨20, by kernel_rfl, rfl⟩ rfl ?_
    refine go_q (d := 24) (op := .pick (.tmp 20) (.const (.bool true)) (.tmp 23)) (ty := 4) (g := none) (by kernel_rfl) trivial rfl (qv_pick_t rfl rfl) ?_
    refine go_nil ?_
    change G _ _ _ _
    refine p_weaken [1, 2, 6, 9, 10, 11, 12, 24] rfl ?_
    refine p_condT (.tmp 24) (by kernel_rfl) rfl ?_
    refine p_seq (by kernel_rfl) ?_
    refine p_plain (by kernel_rfl) [0, 1] (by kernel_rfl) ?_
    refine go_s (d := some 25) (op := .call { callee := .value (.func 15), args := #[], argTypes := #[] }) (ty := 4) (g := none) (by kernel_rfl) trivial ?_
    refine os_callP rfl en15 rfl (pu_works22) ?_
    refine go_q (d := 12) (op := .assign (.tmp 25)) (ty := 4) (g := none) (by kernel_rfl) trivial rfl (qv_assign rfl) ?_
    refine go_nil ?_
    change G _ _ _ _
    refine p_weaken [1, 2, 6, 9, 10, 11, 12] rfl ?_
    refine p_ret (by kernel_rfl) ?_
    try dsimp only [thenQ, inBlockQ]
    refine ret_left (R) (.inr rfl) (.cons (res_tmp rfl) .nil) (by repeat first | exact .refl | exact Sb.app | apply Sb.keep | apply Sb.app_keep | apply Sb.skip | apply Sb.app_skip) ?_
    exact ⟨rfl, rfl⟩
  · try simp only [decide_eq_true_eq, decide_eq_false_iff_not, beq_iff_eq, beq_eq_false_iff_ne, ne_eq, Bool.not_eq_true', Bool.not_eq_false', bne_iff_ne, bne_eq_false_iff_eq] at g20
    refine go_q (d := 21) (op := .move (.tmp 2)) (ty := 29) (g := some (3, false)) (by kernel_rfl) ⟨20, by kernel_rfl, rfl⟩ rfl (qv_move rfl) ?_
    refine go_q (d := 22) (op := .call { callee := .builtin .len, args := #[.tmp 21], argTypes := #[29] }) (ty := 3) (g := some (3, false)) (by kernel_rfl) ⟨20, by kernel_rfl, rfl⟩ rfl (qv_lenS un29 rfl) ?_
    refine go_q (d := 23) (op := .binOp .gtr 3 (.tmp 22) (.const (.int .i64 50)) 3) (ty := 4) (g := some (3, false)) (by kernel_rfl) ⟨20, by kernel_rfl, rfl⟩ rfl (qv_gtr rfl rfl rfl) ?_
    refine go_q (d := 24) (op := .pick (.tmp 20) (.const (.bool true)) (.tmp 23)) (ty := 4) (g := none) (by kernel_rfl) trivial rfl (qv_pick_f rfl rfl) ?_
    refine go_nil ?_
    change G _ _ _ _
    refine p_weaken [1, 2, 6, 9, 10, 11, 12, 24] rfl ?_
    refine p_cond (.tmp 24) (by kernel_rfl) rfl (fun h24 => ?_) (fun h24 => ?_)
    · try simp only [decide_eq_true_eq, decide_eq_false_iff_not, beq_iff_eq, beq_eq_false_iff_ne, ne_eq, Bool.not_eq_true', Bool.not_eq_false', bne_iff_ne, bne_eq_false_iff_eq] at h24
      refine p_seq (by kernel_rfl) ?_
      refine p_plain (by kernel_rfl) [0, 1] (by kernel_rfl) ?_
      refine go_s (d := some 25) (op := .call { callee := .value (.func 15), args := #[], argTypes := #[] }) (ty := 4) (g := none) (by kernel_rfl) trivial ?_
      refine os_callP rfl en15 rfl (pu_works22) ?_
      refine go_q (d := 12) (op := .assign (.tmp 25)) (ty := 4) (g := none) (by kernel_rfl) trivial rfl (qv_assign rfl) ?_
      refine go_nil ?_
      change G _ _ _ _
      refine p_weaken [1, 2, 6, 9, 10, 11, 12] rfl ?_
      refine p_ret (by kernel_rfl) ?_
      try dsimp only [thenQ, inBlockQ]
      refine ret_left (R) (.inr rfl) (.cons (res_tmp rfl) .nil) (by repeat first | exact .refl | exact Sb.app | apply Sb.keep | apply Sb.app_keep | apply Sb.skip | apply Sb.app_skip) ?_
      exact ⟨rfl, rfl⟩
    · try simp only [decide_eq_true_eq, decide_eq_false_iff_not, beq_iff_eq, beq_eq_false_iff_ne, ne_eq, Bool.not_eq_true', Bool.not_eq_false', bne_iff_ne, bne_eq_false_iff_eq] at h24
      refine p_skip (by kernel_rfl) ?_
      change G _ _ _ _
      refine p_weaken [1, 2, 6, 9, 10, 11, 12] rfl ?_
      refine p_seq (by kernel_rfl) ?_
      refine p_plain (by kernel_rfl) [0, 1, 2, 3] (by kernel_rfl) ?_
      refine go_q (d := 26) (op := .load 27 (.tmp 6)) (ty := 27) (g := none) (by kernel_rfl) trivial rfl (qv_load rfl (by repeat constructor) (ldv_agg agg27 (extw_Key _) (Nat.le_of_ble_eq_true rfl))) ?_
      refine go_s (d := some 27) (op := .call { callee := .value (.func 16), args := #[.tmp 26, .const (.int .u8 3), .const (.int .u64 100)], argTypes := #[27, 5, 30] }) (ty := 35) (g := none) (by kernel_rfl) trivial ?_
      refine os_callP rfl en16 rfl (pu_Start k 3 100) ?_
      refine go_s (d := some 13) (op := .alloc 35) (ty := 0) (g := none) (by kernel_rfl) trivial ?_
      refine os_allocA rfl ze35 (fun b13 => ?_)
      refine go_s (d := none) (op := .store 35 (.tmp 13) (.tmp 27)) (ty := 0) (g := none) (by kernel_rfl) trivial ?_
      refine os_store rfl rfl sz35 rfl (one_Rec _) (by repeat constructor) (Nat.le_of_ble_eq_true rfl) (splw_Rec _ _ (siz_Rec _)) ?_
      refine go_nil ?_
      change G _ _ _ _
      refine p_weaken [1, 2, 6, 9, 10, 11, 12, 13] rfl ?_
      refine p_seq (by kernel_rfl) ?_
      refine p_plain (by kernel_rfl) [0] (by kernel_rfl) ?_
      refine go_q (d := 14) (op := .assign (.const (.int .u64 0))) (ty := 30) (g := none) (by kernel_rfl) trivial rfl (qv_assign rfl) ?_
      refine go_nil ?_
      change G _ _ _ _
      refine p_seq (by kernel_rfl) ?_
      refine p_plain (by kernel_rfl) [0] (by kernel_rfl) ?_
      refine go_q (d := 15) (op := .assign (.const (.int .u64 100))) (ty := 30) (g := none) (by kernel_rfl) trivial rfl (qv_assign rfl) ?_
      refine go_nil ?_
      change G _ _ _ _
      refine p_seq (by kernel_rfl) ?_
      refine p_seq (by kernel_rfl) ?_
      refine p_plain (by kernel_rfl) [0] (by kernel_rfl) ?_
      refine go_q (d := 16) (op := .assign (.const (.int .i64 0))) (ty := 3) (g := none) (by kernel_rfl) trivial rfl (qv_assign rfl) ?_
      refine go_nil ?_
      change G _ _ _ _
      refine p_block 0 (by kernel_rfl) ?_
      refine p_loopE (by kernel_rfl) (fun s m => ∃ (i : Nat) (r : Rec) (sm : Int) (la : Int), (i ≤ 50) ∧ (SumsI k i r sm la) ∧ Ge s ⟨[], [(1, .slice p1 ls.length cap1), (2, .slice p2 ts.length cap2), (6, .pointer (some ⟨b6, 0, none⟩)), (9, .pointer (some ⟨b9, 0, none⟩)), (10, .pointer (some ⟨b10, 0, none⟩)), (11, .pointer (some ⟨b11, 0, none⟩)), (12, .bool false), (13, .pointer (some ⟨b13, 0, none⟩)), (14, .int .u64 sm), (15, .int .u64 la), (16, .int .i64 i)], (b13, .cells r.c 35 (0, 0)) :: (b11, .cells v.c 32 (0, 0)) :: (b10, .cells u.c 32 (0, 0)) :: (b9, .cells t.c 32 (0, 0)) :: (b6, .cells k.c 27 (0, 0)) :: R⟩ ∧ m = 51 - i) ?_ ?_
      · exact ⟨_, ⟨0, startR k 3 100, 0, 100, by omega, ⟨rfl, rfl, rfl, rfl, rfl, rfl, by decide, by decide⟩, ⟨rfl, ⟨[1, 2, 6, 9, 10, 11, 12, 13, 14, 15, 16], rfl⟩, (by repeat first | exact .refl | exact Sb.app | apply Sb.keep | apply Sb.app_keep | apply Sb.skip | apply Sb.app_skip)⟩, rfl⟩⟩
      · rintro s m ⟨i, r, sm, la, hi, hI, hs, rfl⟩
        refine ge_ok hs ?_
        refine p_seq (by kernel_rfl) ?_
        refine p_seq (by kernel_rfl) ?_
        refine p_plain (by kernel_rfl) [0, 1, 2, 3, 4, 5, 6, 7, 8, 9] (by kernel_rfl) ?_
        refine go_q (d := 28) (op := .move (.tmp 16)) (ty := 3) (g := none) (by kernel_rfl) trivial rfl (qv_move rfl) ?_
        refine go_q (d := 29) (op := .move (.tmp 1)) (ty := 28) (g := none) (by kernel_rfl) trivial rfl (qv_move rfl) ?_
        refine go_q (d := 30) (op := .call { callee := .builtin .len, args := #[.tmp 29], argTypes := #[28] }) (ty := 3) (g := none) (by kernel_rfl) trivial rfl (qv_lenS un28 rfl) ?_
        refine go_q (d := 31) (op := .binOp .lss 3 (.tmp 28) (.tmp 30) 3) (ty := 4) (g := none) (by kernel_rfl) trivial rfl (qv_lss rfl rfl rfl) ?_
        refine go_q (d := 32) (op := .move (.tmp 31)) (ty := 4) (g := none) (by kernel_rfl) trivial rfl (qv_move rfl) ?_
        refine go_case (d := 32) rfl (fun g32 => ?_) (fun g32 => ?_)
        · try simp only [decide_eq_true_eq, decide_eq_false_iff_not, beq_iff_eq, beq_eq_false_iff_ne, ne_eq, Bool.not_eq_true', Bool.not_eq_false', bne_iff_ne, bne_eq_false_iff_eq] at g32
          refine go_q (d := 33) (op := .move (.tmp 16)) (ty := 3) (g := some (4, true)) (by kernel_rfl) ⟨32, by kernel_rfl, rfl⟩ rfl (qv_move rfl) ?_
          refine go_q (d := 34) (op := .move (.tmp 2)) (ty := 29) (g := some (4, true)) (by kernel_rfl) ⟨32, by kernel_rfl, rfl⟩ rfl (qv_move rfl) ?_
          refine go_q (d := 35) (op := .call { callee := .builtin .len, args := #[.tmp 34], argTypes := #[29] }) (ty := 3) (g := some (4, true)) (by kernel_rfl) ⟨32, by kernel_rfl, rfl⟩ rfl (qv_lenS un29 rfl) ?_
          refine go_q (d := 36) (op := .binOp .lss 3 (.tmp 33) (.tmp 35) 3) (ty := 4) (g := some (4, true)) (by kernel_rfl) ⟨32, by kernel_rfl, rfl⟩ rfl (qv_lss rfl rfl rfl) ?_
          refine go_q (d := 37) (op := .pick (.tmp 32) (.tmp 36) (.const (.bool false))) (ty := 4) (g := none) (by kernel_rfl) trivial rfl (qv_pick_t rfl rfl) ?_
          refine go_nil ?_
          change G _ _ _ _
          refine p_weaken [1, 2, 6, 9, 10, 11, 12, 13, 14, 15, 16, 37] rfl ?_
          refine p_cond (.tmp 37) (by kernel_rfl) rfl (fun h37 => ?_) (fun h37 => ?_)
          · try simp only [decide_eq_true_eq, decide_eq_false_iff_not, beq_iff_eq, beq_eq_false_iff_ne, ne_eq, Bool.not_eq_true', Bool.not_eq_false', bne_iff_ne, bne_eq_false_iff_eq] at h37
            refine p_skip (by kernel_rfl) ?_
            change G _ _ _ _
            refine p_weaken [1, 2, 6, 9, 10, 11, 12, 13, 14, 15, 16] rfl ?_
            refine p_seq (by kernel_rfl) ?_
            refine p_block 1 (by kernel_rfl) ?_
            refine p_seq (by kernel_rfl) ?_
            obtain ⟨bl, ol, cl, el, fl, rfl, ml, Hl⟩ := h1.at_ (i := i) (by omega)
            obtain ⟨bt, ot, ct, et, ft, rfl, mt, Ht⟩ := h2.at_ (i := i) (by omega)
            obtain ⟨x, hx⟩ : ∃ x, ls[i]? = some x := ⟨_, List.getElem?_eq_getElem (by omega)⟩
            obtain ⟨y, hy⟩ : ∃ y, ts[i]? = some y := ⟨_, List.getElem?_eq_getElem (by omega)⟩
            have hx' := hls x (List.mem_of_getElem? hx)
            have hs0 := hI.s0
            have hs1 := hI.s1
            refine p_draw (by kernel_rfl) mixed 15 16 _ (fun _ h => h) (by kernel_rfl) ?_
            refine gd_q (i := 0) (d := 40) (op := .load 35 (.tmp 13)) (ty := 35) (g := none) (by kernel_rfl) trivial rfl (by kernel_rfl) (by kernel_rfl) (by kernel_rfl) (by kernel_rfl) (qv_load rfl (by repeat constructor) (ldv_agg agg35 (extw_Rec _) (Nat.le_of_ble_eq_true rfl))) ?_
            refine gd_q (i := 1) (d := 41) (op := .move (.tmp 1)) (ty := 28) (g := none) (by kernel_rfl) trivial rfl (by kernel_rfl) (by kernel_rfl) (by kernel_rfl) (by kernel_rfl) (qv_move rfl) ?_
            refine gd_q (i := 2) (d := 42) (op := .move (.tmp 16)) (ty := 3) (g := none) (by kernel_rfl) trivial rfl (by kernel_rfl) (by kernel_rfl) (by kernel_rfl) (by kernel_rfl) (qv_move rfl) ?_
            refine gd_q (i := 3) (d := 43) (op := .indexAddr 28 (.tmp 41) (.tmp 42)) (ty := 0) (g := none) (by kernel_rfl) trivial rfl (by kernel_rfl) (by kernel_rfl) (by kernel_rfl) (by kernel_rfl) (qv_index un28 sz25 rfl rfl rfl (by omega)) ?_
            refine gd_q (i := 4) (d := 44) (op := .load 25 (.tmp 43)) (ty := 25) (g := none) (by kernel_rfl) trivial rfl (by kernel_rfl) (by kernel_rfl) (by kernel_rfl) (by kernel_rfl) (qv_load rfl (by repeat first | exact At.of_mem (ml) | apply At.next) (ldv_el Hl hx sc25 (k := 0) rfl rfl)) ?_
            refine gd_q (i := 5) (d := 45) (op := .convert 25 3 (.tmp 44)) (ty := 3) (g := none) (by kernel_rfl) trivial rfl (by kernel_rfl) (by kernel_rfl) (by kernel_rfl) (by kernel_rfl) (qv_conv un25 un3 rfl (by first | exact IntWalk.i64_in _ (by omega) | rfl)) ?_
            refine gd_q (i := 6) (d := 46) (op := .move (.tmp 16)) (ty := 3) (g := none) (by kernel_rfl) trivial rfl (by kernel_rfl) (by kernel_rfl) (by kernel_rfl) (by kernel_rfl) (qv_move rfl) ?_
            refine gd_q (i := 7) (d := 47) (op := .binOp .rem 3 (.tmp 46) (.const (.int .i64 8)) 3) (ty := 3) (g := none) (by kernel_rfl) trivial rfl (by kernel_rfl) (by kernel_rfl) (by kernel_rfl) (by kernel_rfl) (qv_rem rfl rfl (by omega) (Int.tmod_eq_emod_of_nonneg (by omega))) ?_
            refine gd_q (i := 8) (d := 48) (op := .binOp .shl 5 (.const (.int .u8 1)) (.tmp 47) 3) (ty := 5) (g := none) (by kernel_rfl) trivial rfl (by kernel_rfl) (by kernel_rfl) (by kernel_rfl) (by kernel_rfl) (qv_shl rfl rfl (by omega) (rfl)) ?_
            refine gd_q (i := 9) (d := 49) (op := .build 39 #[(1, .tmp 45), (2, .tmp 48)]) (ty := 39) (g := none) (by kernel_rfl) trivial rfl (by kernel_rfl) (by kernel_rfl) (by kernel_rfl) (by kernel_rfl) (qv_build rfl (bld39_1_2 _ _)) ?_
            refine gd_q (i := 10) (d := 50) (op := .move (.tmp 2)) (ty := 29) (g := none) (by kernel_rfl) trivial rfl (by kernel_rfl) (by kernel_rfl) (by kernel_rfl) (by kernel_rfl) (qv_move rfl) ?_
            refine gd_q (i := 11) (d := 51) (op := .move (.tmp 16)) (ty := 3) (g := none) (by kernel_rfl) trivial rfl (by kernel_rfl) (by kernel_rfl) (by kernel_rfl) (by kernel_rfl) (qv_move rfl) ?_
            refine gd_q (i := 12) (d := 52) (op := .indexAddr 29 (.tmp 50) (.tmp 51)) (ty := 0) (g := none) (by kernel_rfl) trivial rfl (by kernel_rfl) (by kernel_rfl) (by kernel_rfl) (by kernel_rfl) (qv_index un29 sz30 rfl rfl rfl (by omega)) ?_
            refine gd_q (i := 13) (d := 53) (op := .load 30 (.tmp 52)) (ty := 30) (g := none) (by kernel_rfl) trivial rfl (by kernel_rfl) (by kernel_rfl) (by kernel_rfl) (by kernel_rfl) (qv_load rfl (by repeat first | exact At.of_mem (mt) | apply At.next) (ldv_el Ht hy sc30 (k := 0) rfl rfl)) ?_
            refine gd_one (i := 14) (d := some 54) (op := .call { callee := .value (.func 17), args := #[.tmp 40, .tmp 49, .tmp 53], argTypes := #[35, 39, 30] }) (ty := 35) (g := none) (by kernel_rfl) trivial rfl (by kernel_rfl) ?_
            refine os_callP rfl en17 rfl (pu_With (by rw [hI.packets]; unfold U64; omega) (by rw [hI.bytes]; unfold U64; omega) (by unfold Pkt.Ok; dsimp only; omega)) ?_
            refine ⟨fun _ h => by first | exact h | exact .tail _ h | exact .tail _ (.tail _ h) | (simp only [List.mem_cons, List.not_mem_nil, or_false] at h ⊢; first | exact .inl h | exact .inr (.inl h) | exact .inr (.inr (.inl h)) | exact .inr (.inr (.inr (.inl h))) | grind), ?_⟩
            refine gd_tail [15] rfl (by kernel_rfl) (by kernel_rfl) ?_
            refine go_s (d := none) (op := .store 35 (.tmp 13) (.tmp 54)) (ty := 0) (g := none) (by kernel_rfl) trivial ?_
            refine os_store rfl rfl sz35 rfl (one_Rec _) (by repeat constructor) (Nat.le_of_ble_eq_true rfl) (splw_Rec _ _ (siz_Rec _)) ?_
            refine go_nil ?_
            change G _ _ _ _
            refine p_weaken [1, 2, 6, 9, 10, 11, 12, 13, 14, 15, 16] rfl ?_
            refine p_seq (by kernel_rfl) ?_
            refine p_plain (by kernel_rfl) [0, 1, 2, 3, 4, 5, 6, 7] (by kernel_rfl) ?_
            refine go_q (d := 55) (op := .move (.tmp 14)) (ty := 30) (g := none) (by kernel_rfl) trivial rfl (qv_move rfl) ?_
            refine go_q (d := 56) (op := .move (.tmp 1)) (ty := 28) (g := none) (by kernel_rfl) trivial rfl (qv_move rfl) ?_
            refine go_q (d := 57) (op := .move (.tmp 16)) (ty := 3) (g := none) (by kernel_rfl) trivial rfl (qv_move rfl) ?_
            refine go_q (d := 58) (op := .indexAddr 28 (.tmp 56) (.tmp 57)) (ty := 0) (g := none) (by kernel_rfl) trivial rfl (qv_index un28 sz25 rfl rfl rfl (by omega)) ?_
            refine go_q (d := 59) (op := .load 25 (.tmp 58)) (ty := 25) (g := none) (by kernel_rfl) trivial rfl (qv_load rfl (by repeat first | exact At.of_mem (ml) | apply At.next) (ldv_el Hl hx sc25 (k := 0) rfl rfl)) ?_
            refine go_q (d := 60) (op := .convert 25 30 (.tmp 59)) (ty := 30) (g := none) (by kernel_rfl) trivial rfl (qv_conv un25 un30 rfl (by first | exact IntWalk.u64_in _ (by omega) | rfl)) ?_
            refine go_q (d := 61) (op := .binOp .add 30 (.tmp 55) (.tmp 60) 30) (ty := 30) (g := none) (by kernel_rfl) trivial rfl (qv_add rfl rfl (by first | exact IntWalk.u64_in _ (by omega) | rfl)) ?_
            refine go_q (d := 14) (op := .assign (.tmp 61)) (ty := 30) (g := none) (by kernel_rfl) trivial rfl (qv_assign rfl) ?_
            refine go_nil ?_
            change G _ _ _ _
            refine p_weaken [1, 2, 6, 9, 10, 11, 12, 13, 14, 15, 16] rfl ?_
            refine p_seq (by kernel_rfl) ?_
            refine p_plain (by kernel_rfl) [0, 1, 2, 3, 4, 5, 6] (by kernel_rfl) ?_
            refine go_q (d := 62) (op := .move (.tmp 15)) (ty := 30) (g := none) (by kernel_rfl) trivial rfl (qv_move rfl) ?_
            refine go_q (d := 63) (op := .move (.tmp 2)) (ty := 29) (g := none) (by kernel_rfl) trivial rfl (qv_move rfl) ?_
            refine go_q (d := 64) (op := .move (.tmp 16)) (ty := 3) (g := none) (by kernel_rfl) trivial rfl (qv_move rfl) ?_
            refine go_q (d := 65) (op := .indexAddr 29 (.tmp 63) (.tmp 64)) (ty := 0) (g := none) (by kernel_rfl) trivial rfl (qv_index un29 sz30 rfl rfl rfl (by omega)) ?_
            refine go_q (d := 66) (op := .load 30 (.tmp 65)) (ty := 30) (g := none) (by kernel_rfl) trivial rfl (qv_load rfl (by repeat first | exact At.of_mem (mt) | apply At.next) (ldv_el Ht hy sc30 (k := 0) rfl rfl)) ?_
            refine go_q (d := 67) (op := .call { callee := .builtin .max, args := #[.tmp 62, .tmp 66], argTypes := #[30, 30] }) (ty := 30) (g := none) (by kernel_rfl) trivial rfl (qv_max rfl rfl rfl) ?_
            refine go_q (d := 15) (op := .assign (.tmp 67)) (ty := 30) (g := none) (by kernel_rfl) trivial rfl (qv_assign rfl) ?_
            refine go_nil ?_
            change G _ _ _ _
            refine p_weaken [1, 2, 6, 9, 10, 11, 12, 13, 14, 15, 16] rfl ?_
            refine p_seq (by kernel_rfl) ?_
            have hJ := hI.step (k := k) (y := y) (p := { key := default, length := x, flags := bit i, fragment := false }) (by omega) hx'.1 hx'.2 rfl
            refine p_draw (by kernel_rfl) mixed 28 28 _ (fun _ h => h) (by kernel_rfl) ?_
            refine gd_q (i := 0) (d := 68) (op := .load 35 (.tmp 13)) (ty := 35) (g := none) (by kernel_rfl) trivial rfl (by kernel_rfl) (by kernel_rfl) (by kernel_rfl) (by kernel_rfl) (qv_load rfl (by repeat constructor) (ldv_agg agg35 (extw_Rec _) (Nat.le_of_ble_eq_true rfl))) ?_
            refine gd_q (i := 2) (d := 70) (op := .move (.tmp 16)) (ty := 3) (g := none) (by kernel_rfl) trivial rfl (by kernel_rfl) (by kernel_rfl) (by kernel_rfl) (by kernel_rfl) (qv_move rfl) ?_
            refine gd_q (i := 3) (d := 71) (op := .binOp .add 3 (.tmp 70) (.const (.int .i64 1)) 3) (ty := 3) (g := none) (by kernel_rfl) trivial rfl (by kernel_rfl) (by kernel_rfl) (by kernel_rfl) (by kernel_rfl) (qv_add rfl rfl (by first | exact IntWalk.i64_in _ (by omega) | rfl)) ?_
            refine gd_q (i := 4) (d := 72) (op := .convert 3 30 (.tmp 71)) (ty := 30) (g := none) (by kernel_rfl) trivial rfl (by kernel_rfl) (by kernel_rfl) (by kernel_rfl) (by kernel_rfl) (qv_conv un3 un30 rfl (by first | exact IntWalk.u64_in _ (by omega) | rfl)) ?_
            refine gd_q (i := 5) (d := 73) (op := .move (.tmp 14)) (ty := 30) (g := none) (by kernel_rfl) trivial rfl (by kernel_rfl) (by kernel_rfl) (by kernel_rfl) (by kernel_rfl) (qv_move rfl) ?_
            refine gd_q (i := 6) (d := 74) (op := .build 32 #[(0, .tmp 72), (1, .tmp 73)]) (ty := 32) (g := none) (by kernel_rfl) trivial rfl (by kernel_rfl) (by kernel_rfl) (by kernel_rfl) (by kernel_rfl) (qv_build rfl (bld32_0_1 _ _)) ?_
            refine gd_one (i := 1) (d := some 69) (op := .call { callee := .value (.func 18), args := #[.tmp 68], argTypes := #[35] }) (ty := 32) (g := none) (by kernel_rfl) trivial rfl (by kernel_rfl) ?_
            refine os_callP rfl en18 rfl (pu_Total _) ?_
            refine ⟨fun _ h => by first | exact h | exact .tail _ h | exact .tail _ (.tail _ h) | (simp only [List.mem_cons, List.not_mem_nil, or_false] at h ⊢; first | exact .inl h | exact .inr (.inl h) | exact .inr (.inr (.inl h)) | exact .inr (.inr (.inr (.inl h))) | grind), ?_⟩
            refine gd_q (i := 7) (d := 75) (op := .binOp .neq 32 (.tmp 69) (.tmp 74) 32) (ty := 4) (g := none) (by kernel_rfl) trivial rfl (by kernel_rfl) (by kernel_rfl) (by kernel_rfl) (by kernel_rfl) (qv_neq_32 (b := false) rfl rfl (by simp only [Bool.not_eq_false', decide_eq_true_eq, Tot.mk.injEq]; exact ⟨hJ.packets, hJ.bytes⟩)) ?_
            refine gd_q (i := 8) (d := 76) (op := .move (.tmp 75)) (ty := 4) (g := none) (by kernel_rfl) trivial rfl (by kernel_rfl) (by kernel_rfl) (by kernel_rfl) (by kernel_rfl) (qv_move rfl) ?_
            refine gd_q (i := 9) (d := 77) (op := .fieldAddr 35 (.tmp 13) 4) (ty := 0) (g := some (8, false)) (by kernel_rfl) ⟨76, by kernel_rfl, rfl⟩ rfl (by kernel_rfl) (by kernel_rfl) (by kernel_rfl) (by kernel_rfl) (qv_field rfl fd35_4) ?_
            refine gd_q (i := 10) (d := 78) (op := .load 30 (.tmp 77)) (ty := 30) (g := some (8, false)) (by kernel_rfl) ⟨76, by kernel_rfl, rfl⟩ rfl (by kernel_rfl) (by kernel_rfl) (by kernel_rfl) (by kernel_rfl) (qv_load rfl (by repeat constructor) (ldv_sca sc30 (get_Rec_40 _))) ?_
            refine gd_q (i := 11) (d := 79) (op := .move (.tmp 15)) (ty := 30) (g := some (8, false)) (by kernel_rfl) ⟨76, by kernel_rfl, rfl⟩ rfl (by kernel_rfl) (by kernel_rfl) (by kernel_rfl) (by kernel_rfl) (qv_move rfl) ?_
            refine gd_q (i := 12) (d := 80) (op := .binOp .neq 30 (.tmp 78) (.tmp 79) 30) (ty := 4) (g := some (8, false)) (by kernel_rfl) ⟨76, by kernel_rfl, rfl⟩ rfl (by kernel_rfl) (by kernel_rfl) (by kernel_rfl) (by kernel_rfl) (qv_neq (b := false) rfl rfl (by simp only [bne_eq_false_iff_eq]; exact hJ.last)) ?_
            refine gd_q (i := 13) (d := 81) (op := .pick (.tmp 76) (.const (.bool true)) (.tmp 80)) (ty := 4) (g := none) (by kernel_rfl) trivial rfl (by kernel_rfl) (by kernel_rfl) (by kernel_rfl) (by kernel_rfl) (qv_pick_f rfl rfl) ?_
            refine gd_q (i := 14) (d := 82) (op := .move (.tmp 81)) (ty := 4) (g := none) (by kernel_rfl) trivial rfl (by kernel_rfl) (by kernel_rfl) (by kernel_rfl) (by kernel_rfl) (qv_move rfl) ?_
            refine gd_q (i := 15) (d := 83) (op := .fieldAddr 35 (.tmp 13) 3) (ty := 0) (g := some (14, false)) (by kernel_rfl) ⟨82, by kernel_rfl, rfl⟩ rfl (by kernel_rfl) (by kernel_rfl) (by kernel_rfl) (by kernel_rfl) (qv_field rfl fd35_3) ?_
            refine gd_q (i := 16) (d := 84) (op := .load 30 (.tmp 83)) (ty := 30) (g := some (14, false)) (by kernel_rfl) ⟨82, by kernel_rfl, rfl⟩ rfl (by kernel_rfl) (by kernel_rfl) (by kernel_rfl) (by kernel_rfl) (qv_load rfl (by repeat constructor) (ldv_sca sc30 (get_Rec_39 _))) ?_
            refine gd_q (i := 17) (d := 85) (op := .binOp .neq 30 (.tmp 84) (.const (.int .u64 100)) 30) (ty := 4) (g := some (14, false)) (by kernel_rfl) ⟨82, by kernel_rfl, rfl⟩ rfl (by kernel_rfl) (by kernel_rfl) (by kernel_rfl) (by kernel_rfl) (qv_neq (b := false) rfl rfl (by simp only [bne_eq_false_iff_eq]; exact hJ.first)) ?_
            refine gd_q (i := 18) (d := 86) (op := .pick (.tmp 82) (.const (.bool true)) (.tmp 85)) (ty := 4) (g := none) (by kernel_rfl) trivial rfl (by kernel_rfl) (by kernel_rfl) (by kernel_rfl) (by kernel_rfl) (qv_pick_f rfl rfl) ?_
            refine gd_q (i := 19) (d := 87) (op := .move (.tmp 86)) (ty := 4) (g := none) (by kernel_rfl) trivial rfl (by kernel_rfl) (by kernel_rfl) (by kernel_rfl) (by kernel_rfl) (qv_move rfl) ?_
            refine gd_q (i := 20) (d := 88) (op := .fieldAddr 35 (.tmp 13) 5) (ty := 0) (g := some (19, false)) (by kernel_rfl) ⟨87, by kernel_rfl, rfl⟩ rfl (by kernel_rfl) (by kernel_rfl) (by kernel_rfl) (by kernel_rfl) (qv_field rfl fd35_5) ?_
            refine gd_q (i := 21) (d := 89) (op := .load 5 (.tmp 88)) (ty := 5) (g := some (19, false)) (by kernel_rfl) ⟨87, by kernel_rfl, rfl⟩ rfl (by kernel_rfl) (by kernel_rfl) (by kernel_rfl) (by kernel_rfl) (qv_load rfl (by repeat constructor) (ldv_sca sc5 (get_Rec_41 _))) ?_
            refine gd_q (i := 22) (d := 90) (op := .move (.tmp 16)) (ty := 3) (g := some (19, false)) (by kernel_rfl) ⟨87, by kernel_rfl, rfl⟩ rfl (by kernel_rfl) (by kernel_rfl) (by kernel_rfl) (by kernel_rfl) (qv_move rfl) ?_
            refine gd_q (i := 23) (d := 91) (op := .binOp .rem 3 (.tmp 90) (.const (.int .i64 8)) 3) (ty := 3) (g := some (19, false)) (by kernel_rfl) ⟨87, by kernel_rfl, rfl⟩ rfl (by kernel_rfl) (by kernel_rfl) (by kernel_rfl) (by kernel_rfl) (qv_rem rfl rfl (by omega) (Int.tmod_eq_emod_of_nonneg (by omega))) ?_
            refine gd_q (i := 24) (d := 92) (op := .binOp .shl 5 (.const (.int .u8 1)) (.tmp 91) 3) (ty := 5) (g := some (19, false)) (by kernel_rfl) ⟨87, by kernel_rfl, rfl⟩ rfl (by kernel_rfl) (by kernel_rfl) (by kernel_rfl) (by kernel_rfl) (qv_shl rfl rfl (by omega) (rfl)) ?_
            refine gd_q (i := 25) (d := 93) (op := .binOp .and 5 (.tmp 89) (.tmp 92) 5) (ty := 5) (g := some (19, false)) (by kernel_rfl) ⟨87, by kernel_rfl, rfl⟩ rfl (by kernel_rfl) (by kernel_rfl) (by kernel_rfl) (by kernel_rfl) (qv_and rfl rfl (rfl)) ?_
            refine gd_q (i := 26) (d := 94) (op := .binOp .eql 5 (.tmp 93) (.const (.int .u8 0)) 5) (ty := 4) (g := some (19, false)) (by kernel_rfl) ⟨87, by kernel_rfl, rfl⟩ rfl (by kernel_rfl) (by kernel_rfl) (by kernel_rfl) (by kernel_rfl) (qv_eql (b := false) rfl rfl (by simp only [beq_eq_false_iff_ne]; exact or_and_bit r.flags i)) ?_
            refine gd_q (i := 27) (d := 95) (op := .pick (.tmp 87) (.const (.bool true)) (.tmp 94)) (ty := 4) (g := none) (by kernel_rfl) trivial rfl (by kernel_rfl) (by kernel_rfl) (by kernel_rfl) (by kernel_rfl) (qv_pick_f rfl rfl) ?_
            refine gd_tail [] rfl (by kernel_rfl) (by kernel_rfl) ?_
            refine go_nil ?_
            change G _ _ _ _
            refine p_weaken [1, 2, 6, 9, 10, 11, 12, 13, 14, 15, 16, 95] rfl ?_
            refine p_condF (.tmp 95) (by kernel_rfl) rfl ?_
            refine p_skip (by kernel_rfl) ?_
            change G _ _ _ _
            refine p_weaken [1, 2, 6, 9, 10, 11, 12, 13, 14, 15, 16] rfl ?_
            refine p_plain (by kernel_rfl) [0, 1, 2] (by kernel_rfl) ?_
            refine go_q (d := 38) (op := .move (.tmp 16)) (ty := 3) (g := none) (by kernel_rfl) trivial rfl (qv_move rfl) ?_
            refine go_q (d := 39) (op := .binOp .add 3 (.tmp 38) (.const (.int .i64 1)) 3) (ty := 3) (g := none) (by kernel_rfl) trivial rfl (qv_add rfl rfl (by first | exact IntWalk.i64_in _ (by omega) | rfl)) ?_
            refine go_q (d := 16) (op := .assign (.tmp 39)) (ty := 3) (g := none) (by kernel_rfl) trivial rfl (qv_assign rfl) ?_
            refine go_nil ?_
            exact ⟨_, ⟨i + 1, _, _, _, by omega, hI.step (by omega) hx'.1 hx'.2 rfl, ⟨rfl, ⟨[1, 2, 6, 9, 10, 11, 12, 13, 14, 15, 16], rfl⟩, (by repeat first | exact .refl | exact Sb.app | apply Sb.keep | apply Sb.app_keep | apply Sb.skip | apply Sb.app_skip)⟩, rfl⟩, by omega⟩
          · try simp only [decide_eq_true_eq, decide_eq_false_iff_not, beq_iff_eq, beq_eq_false_iff_ne, ne_eq, Bool.not_eq_true', Bool.not_eq_false', bne_iff_ne, bne_eq_false_iff_eq] at h37
            refine p_exit 0 (by kernel_rfl) ?_
            change G _ _ _ _
            refine p_weaken [6, 9, 10, 11, 12, 13] rfl ?_
            refine p_seq (by kernel_rfl) ?_
            refine p_draw (by kernel_rfl) mixed 25 26 _ (fun _ h => h) (by kernel_rfl) ?_
            refine gd_q (i := 0) (d := 96) (op := .fieldAddr 35 (.tmp 13) 0) (ty := 0) (g := none) (by kernel_rfl) trivial rfl (by kernel_rfl) (by kernel_rfl) (by kernel_rfl) (by kernel_rfl) (qv_field rfl fd35_0) ?_
            refine gd_q (i := 1) (d := 97) (op := .load 27 (.tmp 96)) (ty := 27) (g := none) (by kernel_rfl) trivial rfl (by kernel_rfl) (by kernel_rfl) (by kernel_rfl) (by kernel_rfl) (qv_load rfl (by repeat constructor) (ldv_agg agg27 (ext_Rec_0_37 _) (Nat.le_of_ble_eq_true rfl))) ?_
            refine gd_q (i := 2) (d := 98) (op := .load 27 (.tmp 6)) (ty := 27) (g := none) (by kernel_rfl) trivial rfl (by kernel_rfl) (by kernel_rfl) (by kernel_rfl) (by kernel_rfl) (qv_load rfl (by repeat constructor) (ldv_agg agg27 (extw_Key _) (Nat.le_of_ble_eq_true rfl))) ?_
            refine gd_q (i := 3) (d := 99) (op := .binOp .eql 27 (.tmp 97) (.tmp 98) 27) (ty := 4) (g := none) (by kernel_rfl) trivial rfl (by kernel_rfl) (by kernel_rfl) (by kernel_rfl) (by kernel_rfl) (qv_eql_27 (b := true) rfl rfl (by rw [hI.key]; simp)) ?_
            refine gd_q (i := 4) (d := 100) (op := .move (.tmp 99)) (ty := 4) (g := none) (by kernel_rfl) trivial rfl (by kernel_rfl) (by kernel_rfl) (by kernel_rfl) (by kernel_rfl) (qv_move rfl) ?_
            refine gd_q (i := 5) (d := 101) (op := .fieldAddr 35 (.tmp 13) 7) (ty := 0) (g := some (4, true)) (by kernel_rfl) ⟨100, by kernel_rfl, rfl⟩ rfl (by kernel_rfl) (by kernel_rfl) (by kernel_rfl) (by kernel_rfl) (qv_field rfl fd35_7) ?_
            refine gd_q (i := 6) (d := 102) (op := .load 5 (.tmp 101)) (ty := 5) (g := some (4, true)) (by kernel_rfl) ⟨100, by kernel_rfl, rfl⟩ rfl (by kernel_rfl) (by kernel_rfl) (by kernel_rfl) (by kernel_rfl) (qv_load rfl (by repeat constructor) (ldv_sca sc5 (get_Rec_43 _))) ?_
            refine gd_q (i := 7) (d := 103) (op := .binOp .eql 5 (.tmp 102) (.const (.int .u8 3)) 5) (ty := 4) (g := some (4, true)) (by kernel_rfl) ⟨100, by kernel_rfl, rfl⟩ rfl (by kernel_rfl) (by kernel_rfl) (by kernel_rfl) (by kernel_rfl) (qv_eql (b := true) rfl rfl (by rw [hI.cls]; simp)) ?_
            refine gd_q (i := 8) (d := 104) (op := .pick (.tmp 100) (.tmp 103) (.const (.bool false))) (ty := 4) (g := none) (by kernel_rfl) trivial rfl (by kernel_rfl) (by kernel_rfl) (by kernel_rfl) (by kernel_rfl) (qv_pick_t rfl rfl) ?_
            refine gd_q (i := 9) (d := 105) (op := .move (.tmp 104)) (ty := 4) (g := none) (by kernel_rfl) trivial rfl (by kernel_rfl) (by kernel_rfl) (by kernel_rfl) (by kernel_rfl) (qv_move rfl) ?_
            refine gd_q (i := 10) (d := 106) (op := .load 32 (.tmp 9)) (ty := 32) (g := some (9, true)) (by kernel_rfl) ⟨105, by kernel_rfl, rfl⟩ rfl (by kernel_rfl) (by kernel_rfl) (by kernel_rfl) (by kernel_rfl) (qv_load rfl (by repeat constructor) (ldv_agg agg32 (extw_Tot _) (Nat.le_of_ble_eq_true rfl))) ?_
            refine gd_q (i := 11) (d := 107) (op := .load 32 (.tmp 10)) (ty := 32) (g := some (9, true)) (by kernel_rfl) ⟨105, by kernel_rfl, rfl⟩ rfl (by kernel_rfl) (by kernel_rfl) (by kernel_rfl) (by kernel_rfl) (qv_load rfl (by repeat constructor) (ldv_agg agg32 (extw_Tot _) (Nat.le_of_ble_eq_true rfl))) ?_
            refine gd_q (i := 13) (d := 109) (op := .load 32 (.tmp 11)) (ty := 32) (g := some (9, true)) (by kernel_rfl) ⟨105, by kernel_rfl, rfl⟩ rfl (by kernel_rfl) (by kernel_rfl) (by kernel_rfl) (by kernel_rfl) (qv_load rfl (by repeat constructor) (ldv_agg agg32 (extw_Tot _) (Nat.le_of_ble_eq_true rfl))) ?_
            refine gd_q (i := 15) (d := 111) (op := .load 32 (.tmp 9)) (ty := 32) (g := some (9, true)) (by kernel_rfl) ⟨105, by kernel_rfl, rfl⟩ rfl (by kernel_rfl) (by kernel_rfl) (by kernel_rfl) (by kernel_rfl) (qv_load rfl (by repeat constructor) (ldv_agg agg32 (extw_Tot _) (Nat.le_of_ble_eq_true rfl))) ?_
            refine gd_q (i := 16) (d := 112) (op := .load 32 (.tmp 10)) (ty := 32) (g := some (9, true)) (by kernel_rfl) ⟨105, by kernel_rfl, rfl⟩ rfl (by kernel_rfl) (by kernel_rfl) (by kernel_rfl) (by kernel_rfl) (qv_load rfl (by repeat constructor) (ldv_agg agg32 (extw_Tot _) (Nat.le_of_ble_eq_true rfl))) ?_
            refine gd_q (i := 17) (d := 113) (op := .load 32 (.tmp 11)) (ty := 32) (g := some (9, true)) (by kernel_rfl) ⟨105, by kernel_rfl, rfl⟩ rfl (by kernel_rfl) (by kernel_rfl) (by kernel_rfl) (by kernel_rfl) (qv_load rfl (by repeat constructor) (ldv_agg agg32 (extw_Tot _) (Nat.le_of_ble_eq_true rfl))) ?_
            refine gd_one (i := 12) (d := some 108) (op := .call { callee := .value (.func 19), args := #[.tmp 106, .tmp 107], argTypes := #[32, 32] }) (ty := 32) (g := some (9, true)) (by kernel_rfl) ⟨105, by kernel_rfl, rfl⟩ rfl (by kernel_rfl) ?_
            refine os_callP rfl en19 rfl (pu_Plus ht hu) ?_
            refine ⟨fun _ h => by first | exact h | exact .tail _ h | exact .tail _ (.tail _ h) | (simp only [List.mem_cons, List.not_mem_nil, or_false] at h ⊢; first | exact .inl h | exact .inr (.inl h) | exact .inr (.inr (.inl h)) | exact .inr (.inr (.inr (.inl h))) | grind), ?_⟩
            refine gd_one (i := 14) (d := some 110) (op := .call { callee := .value (.func 19), args := #[.tmp 108, .tmp 109], argTypes := #[32, 32] }) (ty := 32) (g := some (9, true)) (by kernel_rfl) ⟨105, by kernel_rfl, rfl⟩ rfl (by kernel_rfl) ?_
            refine os_callP rfl en19 rfl (pu_Plus (Tot.plus_ok ht hu) hv) ?_
            refine ⟨fun _ h => by first | exact h | exact .tail _ h | exact .tail _ (.tail _ h) | (simp only [List.mem_cons, List.not_mem_nil, or_false] at h ⊢; first | exact .inl h | exact .inr (.inl h) | exact .inr (.inr (.inl h)) | exact .inr (.inr (.inr (.inl h))) | grind), ?_⟩
            refine gd_one (i := 18) (d := some 114) (op := .call { callee := .value (.func 19), args := #[.tmp 112, .tmp 113], argTypes := #[32, 32] }) (ty := 32) (g := some (9, true)) (by kernel_rfl) ⟨105, by kernel_rfl, rfl⟩ rfl (by kernel_rfl) ?_
            refine os_callP rfl en19 rfl (pu_Plus hu hv) ?_
            refine ⟨fun _ h => by first | exact h | exact .tail _ h | exact .tail _ (.tail _ h) | (simp only [List.mem_cons, List.not_mem_nil, or_false] at h ⊢; first | exact .inl h | exact .inr (.inl h) | exact .inr (.inr (.inl h)) | exact .inr (.inr (.inr (.inl h))) | grind), ?_⟩
            refine gd_one (i := 19) (d := some 115) (op := .call { callee := .value (.func 19), args := #[.tmp 111, .tmp 114], argTypes := #[32, 32] }) (ty := 32) (g := some (9, true)) (by kernel_rfl) ⟨105, by kernel_rfl, rfl⟩ rfl (by kernel_rfl) ?_
            refine os_callP rfl en19 rfl (pu_Plus ht (Tot.plus_ok hu hv)) ?_
            refine ⟨fun _ h => by first | exact h | exact .tail _ h | exact .tail _ (.tail _ h) | (simp only [List.mem_cons, List.not_mem_nil, or_false] at h ⊢; first | exact .inl h | exact .inr (.inl h) | exact .inr (.inr (.inl h)) | exact .inr (.inr (.inr (.inl h))) | grind), ?_⟩
            refine gd_q (i := 20) (d := 116) (op := .binOp .eql 32 (.tmp 110) (.tmp 115) 32) (ty := 4) (g := some (9, true)) (by kernel_rfl) ⟨105, by kernel_rfl, rfl⟩ rfl (by kernel_rfl) (by kernel_rfl) (by kernel_rfl) (by kernel_rfl) (qv_eql_32 (b := true) rfl rfl (by rw [Tot.plus_assoc ht hu hv]; simp)) ?_
            refine gd_q (i := 21) (d := 117) (op := .pick (.tmp 105) (.tmp 116) (.const (.bool false))) (ty := 4) (g := none) (by kernel_rfl) trivial rfl (by kernel_rfl) (by kernel_rfl) (by kernel_rfl) (by kernel_rfl) (qv_pick_t rfl rfl) ?_
            refine gd_q (i := 22) (d := 118) (op := .move (.tmp 117)) (ty := 4) (g := none) (by kernel_rfl) trivial rfl (by kernel_rfl) (by kernel_rfl) (by kernel_rfl) (by kernel_rfl) (qv_move rfl) ?_
            refine gd_one (i := 23) (d := some 119) (op := .call { callee := .value (.func 15), args := #[], argTypes := #[] }) (ty := 4) (g := some (22, true)) (by kernel_rfl) ⟨118, by kernel_rfl, rfl⟩ rfl (by kernel_rfl) ?_
            refine os_callP rfl en15 rfl (pu_works22) ?_
            refine ⟨fun _ h => by first | exact h | exact .tail _ h | exact .tail _ (.tail _ h) | (simp only [List.mem_cons, List.not_mem_nil, or_false] at h ⊢; first | exact .inl h | exact .inr (.inl h) | exact .inr (.inr (.inl h)) | exact .inr (.inr (.inr (.inl h))) | grind), ?_⟩
            refine gd_q (i := 24) (d := 120) (op := .pick (.tmp 118) (.tmp 119) (.const (.bool false))) (ty := 4) (g := none) (by kernel_rfl) trivial rfl (by kernel_rfl) (by kernel_rfl) (by kernel_rfl) (by kernel_rfl) (qv_pick_t rfl rfl) ?_
            refine gd_tail [25] rfl (by kernel_rfl) (by kernel_rfl) ?_
            refine go_q (d := 12) (op := .assign (.tmp 120)) (ty := 4) (g := none) (by kernel_rfl) trivial rfl (qv_assign rfl) ?_
            refine go_nil ?_
            change G _ _ _ _
            refine p_weaken [12] rfl ?_
            refine p_ret (by kernel_rfl) ?_
            try dsimp only [thenQ, inBlockQ]
            refine ret_left (R) (.inr rfl) (.cons (res_tmp rfl) .nil) (by repeat first | exact .refl | exact Sb.app | apply Sb.keep | apply Sb.app_keep | apply Sb.skip | apply Sb.app_skip) ?_
            exact ⟨rfl, rfl⟩
        · try simp only [decide_eq_true_eq, decide_eq_false_iff_not, beq_iff_eq, beq_eq_false_iff_ne, ne_eq, Bool.not_eq_true', Bool.not_eq_false', bne_iff_ne, bne_eq_false_iff_eq] at g32
          refine go_n (d := 33) (op := .move (.tmp 16)) (ty := 3) (g := some (4, true)) (by kernel_rfl) ⟨32, by kernel_rfl, rfl⟩ rfl ?_
          refine go_n (d := 34) (op := .move (.tmp 2)) (ty := 29) (g := some (4, true)) (by kernel_rfl) ⟨32, by kernel_rfl, rfl⟩ rfl ?_
          refine go_n (d := 35) (op := .call { callee := .builtin .len, args := #[.tmp 34], argTypes := #[29] }) (ty := 3) (g := some (4, true)) (by kernel_rfl) ⟨32, by kernel_rfl, rfl⟩ rfl ?_
          refine go_n (d := 36) (op := .binOp .lss 3 (.tmp 33) (.tmp 35) 3) (ty := 4) (g := some (4, true)) (by kernel_rfl) ⟨32, by kernel_rfl, rfl⟩ rfl ?_
          refine go_q (d := 37) (op := .pick (.tmp 32) (.tmp 36) (.const (.bool false))) (ty := 4) (g := none) (by kernel_rfl) trivial rfl (qv_pick_f rfl rfl) ?_
          refine go_nil ?_
          change G _ _ _ _
          refine p_weaken [1, 2, 6, 9, 10, 11, 12, 13, 14, 15, 16, 37] rfl ?_
          refine p_condF (.tmp 37) (by kernel_rfl) rfl ?_
          refine p_exit 0 (by kernel_rfl) ?_
          change G _ _ _ _
          refine p_weaken [6, 9, 10, 11, 12, 13] rfl ?_
          refine p_seq (by kernel_rfl) ?_
          refine p_draw (by kernel_rfl) mixed 25 26 _ (fun _ h => h) (by kernel_rfl) ?_
          refine gd_q (i := 0) (d := 96) (op := .fieldAddr 35 (.tmp 13) 0) (ty := 0) (g := none) (by kernel_rfl) trivial rfl (by kernel_rfl) (by kernel_rfl) (by kernel_rfl) (by kernel_rfl) (qv_field rfl fd35_0) ?_
          refine gd_q (i := 1) (d := 97) (op := .load 27 (.tmp 96)) (ty := 27) (g := none) (by kernel_rfl) trivial rfl (by kernel_rfl) (by kernel_rfl) (by kernel_rfl) (by kernel_rfl) (qv_load rfl (by repeat constructor) (ldv_agg agg27 (ext_Rec_0_37 _) (Nat.le_of_ble_eq_true rfl))) ?_
          refine gd_q (i := 2) (d := 98) (op := .load 27 (.tmp 6)) (ty := 27) (g := none) (by kernel_rfl) trivial rfl (by kernel_rfl) (by kernel_rfl) (by kernel_rfl) (by kernel_rfl) (qv_load rfl (by repeat constructor) (ldv_agg agg27 (extw_Key _) (Nat.le_of_ble_eq_true rfl))) ?_
          refine gd_q (i := 3) (d := 99) (op := .binOp .eql 27 (.tmp 97) (.tmp 98) 27) (ty := 4) (g := none) (by kernel_rfl) trivial rfl (by kernel_rfl) (by kernel_rfl) (by kernel_rfl) (by kernel_rfl) (qv_eql_27 (b := true) rfl rfl (by rw [hI.key]; simp)) ?_
          refine gd_q (i := 4) (d := 100) (op := .move (.tmp 99)) (ty := 4) (g := none) (by kernel_rfl) trivial rfl (by kernel_rfl) (by kernel_rfl) (by kernel_rfl) (by kernel_rfl) (qv_move rfl) ?_
          refine gd_q (i := 5) (d := 101) (op := .fieldAddr 35 (.tmp 13) 7) (ty := 0) (g := some (4, true)) (by kernel_rfl) ⟨100, by kernel_rfl, rfl⟩ rfl (by kernel_rfl) (by kernel_rfl) (by kernel_rfl) (by kernel_rfl) (qv_field rfl fd35_7) ?_
          refine gd_q (i := 6) (d := 102) (op := .load 5 (.tmp 101)) (ty := 5) (g := some (4, true)) (by kernel_rfl) ⟨100, by kernel_rfl, rfl⟩ rfl (by kernel_rfl) (by kernel_rfl) (by kernel_rfl) (by kernel_rfl) (qv_load rfl (by repeat constructor) (ldv_sca sc5 (get_Rec_43 _))) ?_
          refine gd_q (i := 7) (d := 103) (op := .binOp .eql 5 (.tmp 102) (.const (.int .u8 3)) 5) (ty := 4) (g := some (4, true)) (by kernel_rfl) ⟨100, by kernel_rfl, rfl⟩ rfl (by kernel_rfl) (by kernel_rfl) (by kernel_rfl) (by kernel_rfl) (qv_eql (b := true) rfl rfl (by rw [hI.cls]; simp)) ?_
          refine gd_q (i := 8) (d := 104) (op := .pick (.tmp 100) (.tmp 103) (.const (.bool false))) (ty := 4) (g := none) (by kernel_rfl) trivial rfl (by kernel_rfl) (by kernel_rfl) (by kernel_rfl) (by kernel_rfl) (qv_pick_t rfl rfl) ?_
          refine gd_q (i := 9) (d := 105) (op := .move (.tmp 104)) (ty := 4) (g := none) (by kernel_rfl) trivial rfl (by kernel_rfl) (by kernel_rfl) (by kernel_rfl) (by kernel_rfl) (qv_move rfl) ?_
          refine gd_q (i := 10) (d := 106) (op := .load 32 (.tmp 9)) (ty := 32) (g := some (9, true)) (by kernel_rfl) ⟨105, by kernel_rfl, rfl⟩ rfl (by kernel_rfl) (by kernel_rfl) (by kernel_rfl) (by kernel_rfl) (qv_load rfl (by repeat constructor) (ldv_agg agg32 (extw_Tot _) (Nat.le_of_ble_eq_true rfl))) ?_
          refine gd_q (i := 11) (d := 107) (op := .load 32 (.tmp 10)) (ty := 32) (g := some (9, true)) (by kernel_rfl) ⟨105, by kernel_rfl, rfl⟩ rfl (by kernel_rfl) (by kernel_rfl) (by kernel_rfl) (by kernel_rfl) (qv_load rfl (by repeat constructor) (ldv_agg agg32 (extw_Tot _) (Nat.le_of_ble_eq_true rfl))) ?_
          refine gd_q (i := 13) (d := 109) (op := .load 32 (.tmp 11)) (ty := 32) (g := some (9, true)) (by kernel_rfl) ⟨105, by kernel_rfl, rfl⟩ rfl (by kernel_rfl) (by kernel_rfl) (by kernel_rfl) (by kernel_rfl) (qv_load rfl (by repeat constructor) (ldv_agg agg32 (extw_Tot _) (Nat.le_of_ble_eq_true rfl))) ?_
          refine gd_q (i := 15) (d := 111) (op := .load 32 (.tmp 9)) (ty := 32) (g := some (9, true)) (by kernel_rfl) ⟨105, by kernel_rfl, rfl⟩ rfl (by kernel_rfl) (by kernel_rfl) (by kernel_rfl) (by kernel_rfl) (qv_load rfl (by repeat constructor) (ldv_agg agg32 (extw_Tot _) (Nat.le_of_ble_eq_true rfl))) ?_
          refine gd_q (i := 16) (d := 112) (op := .load 32 (.tmp 10)) (ty := 32) (g := some (9, true)) (by kernel_rfl) ⟨105, by kernel_rfl, rfl⟩ rfl (by kernel_rfl) (by kernel_rfl) (by kernel_rfl) (by kernel_rfl) (qv_load rfl (by repeat constructor) (ldv_agg agg32 (extw_Tot _) (Nat.le_of_ble_eq_true rfl))) ?_
          refine gd_q (i := 17) (d := 113) (op := .load 32 (.tmp 11)) (ty := 32) (g := some (9, true)) (by kernel_rfl) ⟨105, by kernel_rfl, rfl⟩ rfl (by kernel_rfl) (by kernel_rfl) (by kernel_rfl) (by kernel_rfl) (qv_load rfl (by repeat constructor) (ldv_agg agg32 (extw_Tot _) (Nat.le_of_ble_eq_true rfl))) ?_
          refine gd_one (i := 12) (d := some 108) (op := .call { callee := .value (.func 19), args := #[.tmp 106, .tmp 107], argTypes := #[32, 32] }) (ty := 32) (g := some (9, true)) (by kernel_rfl) ⟨105, by kernel_rfl, rfl⟩ rfl (by kernel_rfl) ?_
          refine os_callP rfl en19 rfl (pu_Plus ht hu) ?_
          refine ⟨fun _ h => by first | exact h | exact .tail _ h | exact .tail _ (.tail _ h) | (simp only [List.mem_cons, List.not_mem_nil, or_false] at h ⊢; first | exact .inl h | exact .inr (.inl h) | exact .inr (.inr (.inl h)) | exact .inr (.inr (.inr (.inl h))) | grind), ?_⟩
          refine gd_one (i := 14) (d := some 110) (op := .call { callee := .value (.func 19), args := #[.tmp 108, .tmp 109], argTypes := #[32, 32] }) (ty := 32) (g := some (9, true)) (by kernel_rfl) ⟨105, by kernel_rfl, rfl⟩ rfl (by kernel_rfl) ?_
          refine os_callP rfl en19 rfl (pu_Plus (Tot.plus_ok ht hu) hv) ?_
          refine ⟨fun _ h => by first | exact h | exact .tail _ h | exact .tail _ (.tail _ h) | (simp only [List.mem_cons, List.not_mem_nil, or_false] at h ⊢; first | exact .inl h | exact .inr (.inl h) | exact .inr (.inr (.inl h)) | exact .inr (.inr (.inr (.inl h))) | grind), ?_⟩
          refine gd_one (i := 18) (d := some 114) (op := .call { callee := .value (.func 19), args := #[.tmp 112, .tmp 113], argTypes := #[32, 32] }) (ty := 32) (g := some (9, true)) (by kernel_rfl) ⟨105, by kernel_rfl, rfl⟩ rfl (by kernel_rfl) ?_
          refine os_callP rfl en19 rfl (pu_Plus hu hv) ?_
          refine ⟨fun _ h => by first | exact h | exact .tail _ h | exact .tail _ (.tail _ h) | (simp only [List.mem_cons, List.not_mem_nil, or_false] at h ⊢; first | exact .inl h | exact .inr (.inl h) | exact .inr (.inr (.inl h)) | exact .inr (.inr (.inr (.inl h))) | grind), ?_⟩
          refine gd_one (i := 19) (d := some 115) (op := .call { callee := .value (.func 19), args := #[.tmp 111, .tmp 114], argTypes := #[32, 32] }) (ty := 32) (g := some (9, true)) (by kernel_rfl) ⟨105, by kernel_rfl, rfl⟩ rfl (by kernel_rfl) ?_
          refine os_callP rfl en19 rfl (pu_Plus ht (Tot.plus_ok hu hv)) ?_
          refine ⟨fun _ h => by first | exact h | exact .tail _ h | exact .tail _ (.tail _ h) | (simp only [List.mem_cons, List.not_mem_nil, or_false] at h ⊢; first | exact .inl h | exact .inr (.inl h) | exact .inr (.inr (.inl h)) | exact .inr (.inr (.inr (.inl h))) | grind), ?_⟩
          refine gd_q (i := 20) (d := 116) (op := .binOp .eql 32 (.tmp 110) (.tmp 115) 32) (ty := 4) (g := some (9, true)) (by kernel_rfl) ⟨105, by kernel_rfl, rfl⟩ rfl (by kernel_rfl) (by kernel_rfl) (by kernel_rfl) (by kernel_rfl) (qv_eql_32 (b := true) rfl rfl (by rw [Tot.plus_assoc ht hu hv]; simp)) ?_
          refine gd_q (i := 21) (d := 117) (op := .pick (.tmp 105) (.tmp 116) (.const (.bool false))) (ty := 4) (g := none) (by kernel_rfl) trivial rfl (by kernel_rfl) (by kernel_rfl) (by kernel_rfl) (by kernel_rfl) (qv_pick_t rfl rfl) ?_
          refine gd_q (i := 22) (d := 118) (op := .move (.tmp 117)) (ty := 4) (g := none) (by kernel_rfl) trivial rfl (by kernel_rfl) (by kernel_rfl) (by kernel_rfl) (by kernel_rfl) (qv_move rfl) ?_
          refine gd_one (i := 23) (d := some 119) (op := .call { callee := .value (.func 15), args := #[], argTypes := #[] }) (ty := 4) (g := some (22, true)) (by kernel_rfl) ⟨118, by kernel_rfl, rfl⟩ rfl (by kernel_rfl) ?_
          refine os_callP rfl en15 rfl (pu_works22) ?_
          refine ⟨fun _ h => by first | exact h | exact .tail _ h | exact .tail _ (.tail _ h) | (simp only [List.mem_cons, List.not_mem_nil, or_false] at h ⊢; first | exact .inl h | exact .inr (.inl h) | exact .inr (.inr (.inl h)) | exact .inr (.inr (.inr (.inl h))) | grind), ?_⟩
          refine gd_q (i := 24) (d := 120) (op := .pick (.tmp 118) (.tmp 119) (.const (.bool false))) (ty := 4) (g := none) (by kernel_rfl) trivial rfl (by kernel_rfl) (by kernel_rfl) (by kernel_rfl) (by kernel_rfl) (qv_pick_t rfl rfl) ?_
          refine gd_tail [25] rfl (by kernel_rfl) (by kernel_rfl) ?_
          refine go_q (d := 12) (op := .assign (.tmp 120)) (ty := 4) (g := none) (by kernel_rfl) trivial rfl (qv_assign rfl) ?_
          refine go_nil ?_
          change G _ _ _ _
          refine p_weaken [12] rfl ?_
          refine p_ret (by kernel_rfl) ?_
          try dsimp only [thenQ, inBlockQ]
          refine ret_left (R) (.inr rfl) (.cons (res_tmp rfl) .nil) (by repeat first | exact .refl | exact Sb.app | apply Sb.keep | apply Sb.app_keep | apply Sb.skip | apply Sb.app_skip) ?_
          exact ⟨rfl, rfl⟩
end Go.Proofs.Ytobmcpoejhhemaa
