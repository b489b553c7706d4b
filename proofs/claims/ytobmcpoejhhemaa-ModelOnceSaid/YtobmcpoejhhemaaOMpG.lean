import Derived.Test.YtobmcpoejhhemaaOMpF
namespace Go.E
open Go
/-- A round's contract, its parameters two. -/
theorem rct_of2 {P : Program} {g : Rg} {A : Mem} {R : Value → Mem → Prop} {p q n : Nat} {v u : Value} {fr : Fr} (hps : g.ps = #[p, q]) (hn : g.tm.size = n) (hp : Nat.blt p n = true) (hq : Nat.blt q n = true) (hfr : FrOK n [] fr ⟨g.tm, []⟩)
    (h : ∀ w0, G ⟨P, some g.l, w0, A, n⟩ g.assign (thenQ (fun s => s.ds = [] ∧ ∃ M1, s.M.Perm (g.o .ready none :: M1) ∧ G ⟨P, some g.l, w0, A, n⟩ g.body (rndQ g R) ⟨[], s.fr, g.o .busy none :: M1⟩) (fun _ _ => False)) ⟨[], (q, u) :: (p, v) :: fr, A⟩) :
    RCt P g [v, u] A R := fun rd w hnd hM => by
  have hz : (g.ps.zip [v, u].toArray).foldl (fun tmps (t, a) => tmps.setIfInBounds t a) g.tm = (g.tm.setIfInBounds p v).setIfInBounds q u := by rw [hps]; simp
  rw [hz]
  refine roundIn_of_wpIn trivial ?_
  have h0 := h w ⟨(g.tm.setIfInBounds p v).setIfInBounds q u, []⟩ w ⟨by
    have := (hfr.put (d := p) (by simpa using hp) v).put (d := q) (by simpa using hq) u
    exact this, Chg.refl hnd hM⟩
  refine wpIn_mono (F := FW (some g.l)) h0 ?_
  rintro e a w1 ⟨hnp, s, ⟨hF, hC⟩, hq⟩
  cases e with
  | normal =>
    obtain ⟨hds, M1, hperm, hb⟩ := hq
    have hC2 := hC.perm hperm
    have hlw : w1.heap[g.l]? = some (.loop (g.r .ready none)) := hC2.at_ _ (List.mem_cons_self ..)
    refine ⟨_, run_beginRound (P := P) hlw rfl, ?_⟩
    have hC3 : Chg w A (g.o .busy none :: M1) (w1.putObj g.l (.loop { g.r .ready none with state := .busy })) :=
      hC2.up .here rfl rfl rfl (Nat.le_refl _) (by simp) (World.putObj_heap_same (hC2.lt _ (List.mem_cons_self ..))) (fun k hk => World.putObj_heap_other hk)
    have hF' : FrOK n [] s.fr a := hds ▸ hF
    refine wpIn_mono (hb a _ ⟨hF', hC3⟩) ?_
    rintro e a2 w2 ⟨hnp2, s2, ⟨_, hC4⟩, hq2⟩
    cases e with
    | normal => exact rndQ_end hC4 hq2
    | ret => exact rndQ_end hC4 hq2
    | exit id => exact rndQ_end hC4 hq2
    | goto t => exact hq2.elim
    | panic c => exact hnp2.elim
    | outgrown => exact hq2.elim
  | exit id => exact hq.elim
  | goto t => exact hq.elim
  | ret => exact hq.elim
  | panic c => exact hnp.elim
  | outgrown => exact hq.elim

end Go.E
namespace Go.Proofs.Ytobmcpoejhhemaa
open Go.E

theorem perm_ce {α : Type} (a : α) (l : List α) : (a :: l).Perm (l ++ [a]) := List.perm_append_comm (l₁ := [a])
theorem ct_Back {pe : Option Addr} {n ce : Nat} : Ct Try.prog 166 [.slice pe n ce].toArray [] (fun v A => ∃ b1, v = .func (.func 201) #[] #[.pointer (some ⟨b1, 0, none⟩)] ∧ A = [(b1, .cells #[.slice pe n ce] 136 (0, 0))]) := by
  refine ct_body (rv := [.tmp 2]) [(0, _)] Try.func166 (by kernel_rfl) Try.ntmps166 Try.results166 rfl rfl (fun w0 => ?_)
  refine p_seq0 ?_
  refine p_plain0 (0 :: 1 :: []) ?_
  refine go_s0 (some 1) (.box 136 (.tmp 0)) 0 ?_
  refine os_box1 rfl rfl rfl (fun b1 => ?_)
  refine go_q0 2 (.assign (.const .nilFunc)) 248 (qv_assign rfl) ?_
  refine go_nil ?_
  change G _ _ _ _
  refine p_weaken [1, 2] rfl ?_
  refine p_seq0 ?_
  refine p_plain0 (0 :: 1 :: []) ?_
  refine go_q0 3 (.makeFunc (.func 201) #[] #[.tmp 1]) 247 (qv_makeFunc rfl) ?_
  refine go_q0 2 (.assign (.tmp 3)) 248 (qv_assign rfl) ?_
  refine go_nil ?_
  change G _ _ _ _
  refine p_weaken [2] rfl ?_
  refine p_ret0 ?_
  try dsimp only [thenQ, inBlockQ]
  try rw [if_pos rfl]
  refine ret_left ([(b1, .cells #[.slice pe n ce] 136 (0, 0))]) (.inr rfl) (.cons (res_tmp rfl) .nil) .auto ?_
  exact ⟨b1, rfl, rfl⟩
theorem ct_Back1 {g : Rg} {b1 : Nat} {pe : Option Addr} {ce : Nat} {es : List EntR} {Z : Mem} (hl : Lst eEntR pe es Z) (hm : es.length ≤ 100000) (hps : g.ps.size = 2) (st : EntR → Bool) (Q : Nat → EntR → Mem → Prop)
    (hr : ∀ (i : Nat) (e : EntR), es[i]? = some e → RCt Try.prog g [.int .i64 (i : Int), .agg e.x.c] (g.o .ready none :: (g.D, .deferred (some [])) :: Z)
      (fun u M' => u = .bool (!st e) ∧ ∃ F, (st e = true → Q i e F) ∧ M' = cond (st e) (g.o .done (some .ret) :: (g.D, .deferred (some [])) :: F) (g.o .ready none :: (g.D, .deferred (some [])) :: Z))) :
    Ct Try.prog 201 [.func (.yield g.l) #[] #[], .pointer (some ⟨b1, 0, none⟩)].toArray
      (g.o .ready none :: (g.D, .deferred (some [])) :: (b1, .cells #[.slice pe es.length ce] 136 (0, 0)) :: Z)
      (fun _ M' => (∃ i e F, es[i]? = some e ∧ st e = true ∧ Q i e F ∧ M' = g.o .done (some .ret) :: (g.D, .deferred (some [])) :: (b1, .cells #[.slice pe es.length ce] 136 (0, 0)) :: F) ∨
        ((∀ e ∈ es, st e = false) ∧ M' = g.o .ready none :: (g.D, .deferred (some [])) :: (b1, .cells #[.slice pe es.length ce] 136 (0, 0)) :: Z)) := by
  refine ct_body (rv := []) [(0, _), (1, _)] Try.func201 (by kernel_rfl) Try.ntmps201 Try.results201 rfl rfl (fun w0 => ?_)
  refine p_seq0 ?_
  refine p_plain0 (0 :: 1 :: 2 :: 3 :: []) ?_
  refine go_q0 4 (.load 136 (.tmp 1)) 136 (qv_load rfl .auto (ldv_sca sc136 (get_one _))) ?_
  refine go_q0 5 (.call { callee := .builtin .len, args := #[.tmp 4], argTypes := #[136] }) 3 (qv_lenS un136 rfl) ?_
  refine go_q0 6 (.binOp .sub 3 (.tmp 5) (.const (.int .i64 1)) 3) 3 (qv_sub rfl rfl (IntWalk.i64_in _ (by omega))) ?_
  refine go_q0 3 (.assign (.tmp 6)) 3 (qv_assign rfl) ?_
  refine go_nil ?_
  change G _ _ _ _
  refine p_weaken [0, 1, 3] rfl ?_
  refine p_block 0 (by kernel_rfl) ?_
  refine p_loopE (by kernel_rfl) (fun s m => ∃ (i : Nat), (i ≤ es.length) ∧ (∀ (j : Nat) (e : EntR), i ≤ j → es[j]? = some e → st e = false) ∧ Ge s ⟨[], [(0, .func (.yield g.l) #[] #[]), (1, .pointer (some ⟨b1, 0, none⟩)), (3, .int .i64 ((i : Int) - 1))], g.o .ready none :: (g.D, .deferred (some [])) :: (b1, .cells #[.slice pe es.length ce] 136 (0, 0)) :: Z⟩ ∧ m = i + 1) ?_ ?_
  · exact ⟨_, ⟨es.length, by omega, fun j e hj he => (by rw [List.getElem?_eq_none hj] at he; cases he), ⟨rfl, ⟨[0, 1, 3], rfl⟩, .auto⟩, rfl⟩⟩
  rintro s m ⟨i, hi, hs0, hs, rfl⟩
  refine ge_ok hs ?_
  refine p_seq0 ?_
  refine p_seq0 ?_
  refine p_plain0 (0 :: 1 :: []) ?_
  refine go_q0 7 (.move (.tmp 3)) 3 (qv_move rfl) ?_
  refine go_q0 8 (.binOp .geq 3 (.tmp 7) (.const (.int .i64 0)) 3) 4 (qv_geq rfl rfl rfl) ?_
  refine go_nil ?_
  change G _ _ _ _
  refine p_weaken [0, 1, 3, 8] rfl ?_
  refine p_cond (.tmp 8) (by kernel_rfl) rfl (fun h8 => ?_) (fun h8 => ?_)
  rotate_left
  · replace h8 := kn h8
    refine p_exit 0 (by kernel_rfl) ?_
    try dsimp only [thenQ, inBlockQ]
    try rw [if_pos rfl]
    refine ret_left (g.o .ready none :: (g.D, .deferred (some [])) :: (b1, .cells #[.slice pe es.length ce] 136 (0, 0)) :: Z) (.inl rfl) .nil .auto ?_
    have hin : i = 0 := by omega
    subst hin
    exact .inr ⟨fun e he => by obtain ⟨j, hj⟩ := List.mem_iff_getElem?.1 he; exact hs0 j e (Nat.zero_le _) hj, rfl⟩
  replace h8 := kn h8
  refine p_skip0 ?_
  change G _ _ _ _
  refine p_weaken [0, 1, 3] rfl ?_
  refine p_seq0 ?_
  refine p_block 1 (by kernel_rfl) ?_
  refine p_seq0 ?_
  obtain ⟨k, hik⟩ : ∃ k, i = k + 1 := ⟨i - 1, by omega⟩
  rw [show (i : Int) - 1 = (k : Int) by omega]
  obtain ⟨bb, oo, cu, ee, ff, hpe, mm, H⟩ := hl.at_ (i := k) (by omega)
  obtain ⟨x, hx⟩ : ∃ x, es[k]? = some x := ⟨_, List.getElem?_eq_getElem (by omega)⟩
  subst hpe
  refine p_plain0 (0 :: 1 :: 2 :: 3 :: 4 :: 5 :: 6 :: 7 :: []) ?_
  refine go_q0 11 (.move (.tmp 0)) 274 (qv_move rfl) ?_
  refine go_q0 12 (.move (.tmp 3)) 3 (qv_move rfl) ?_
  refine go_q0 13 (.load 136 (.tmp 1)) 136 (qv_load rfl .auto (ldv_sca sc136 (get_one _))) ?_
  refine go_q0 14 (.move (.tmp 3)) 3 (qv_move rfl) ?_
  refine go_q0 15 (.indexAddr 136 (.tmp 13) (.tmp 14)) 0 (qv_index un136 sz139 rfl rfl rfl (by omega)) ?_
  refine go_q0 16 (.load 139 (.tmp 15)) 139 (qv_load rfl (by repeat first | exact At.of_mem (.tail _ (.tail _ (.tail _ mm))) | apply At.next) (ldv_els (E := eEntR) H hx (by decide) agg139 rfl)) ?_
  refine go_s0 (some 17) (.call { callee := .value (.tmp 11), args := #[.tmp 12, .tmp 16], argTypes := #[3, 139] }) 4 ?_
  refine os_yield (g := g) (A := g.o .ready none :: (g.D, .deferred (some [])) :: Z) rfl rfl rfl hps.symm (by repeat first | exact Sel.nil | exact Sel.all | exact Sel.app | (apply Sel.cons; focus (repeat first | exact Tk.here | apply Tk.next | apply Tk.app)) | apply Sel.skip | apply Sel.skipA) (by simp) (hr k x hx) (fun u A' hR => ?_)
  obtain ⟨rfl, F, hQ, rfl⟩ := hR
  refine go_q0 18 (.unOp .not 4 (.tmp 17)) 4 (qv_not rfl) ?_
  refine go_nil ?_
  change G _ _ _ _
  refine p_weaken [0, 1, 3, 18] rfl ?_
  refine p_cond (.tmp 18) (by kernel_rfl) rfl (fun h18 => ?_) (fun h18 => ?_)
  · replace h18 := kn h18
    replace h18 := f_not h18
    rw [h18]
    dsimp only [cond]
    refine p_ret0 ?_
    try dsimp only [thenQ, inBlockQ]
    try rw [if_pos rfl]
    refine ret_left (g.o .done (some .ret) :: (g.D, .deferred (some [])) :: (b1, .cells #[.slice (some ⟨bb, oo, none⟩) es.length ce] 136 (0, 0)) :: F) (.inr rfl) .nil .auto ?_
    exact .inl ⟨k, x, F, hx, h18, hQ h18, rfl⟩
  replace h18 := kn h18
  replace h18 := t_not h18
  rw [h18]
  dsimp only [cond]
  have hsn : ∀ (j : Nat) (e : EntR), k ≤ j → es[j]? = some e → st e = false := fun j e hj he => by
    by_cases hjk : j = k
    · subst hjk; rw [hx] at he; cases he; exact h18
    · exact hs0 j e (by omega) he
  refine p_skip0 ?_
  change G _ _ _ _
  refine p_weaken [0, 1, 3] rfl ?_
  refine p_plain0 (0 :: 1 :: 2 :: []) ?_
  refine go_q0 9 (.move (.tmp 3)) 3 (qv_move rfl) ?_
  refine go_q0 10 (.binOp .sub 3 (.tmp 9) (.const (.int .i64 1)) 3) 3 (qv_sub rfl rfl (IntWalk.i64_in _ (by omega))) ?_
  refine go_q0 3 (.assign (.tmp 10)) 3 (qv_assign rfl) ?_
  refine go_nil ?_
  exact ⟨_, ⟨k, by omega, hsn, ⟨rfl, ⟨[0, 1, 3], rfl⟩, .auto⟩, rfl⟩, by omega⟩
def credM (nt : NoteR) (e : EntR) : Bool := decide (e.epoch = nt.epoch) && decide (e.n = nt.n)
theorem ct_Mcredit {bm : Nat} {S : MS} {M : Mem} {nt : NoteR} (hM : ModM bm S M) :
    Ct Try.prog 130 [.pointer (some ⟨bm, 0, none⟩), .agg nt.x.c].toArray M (fun v M' => (∃ i e, S.es[i]? = some e ∧ credM nt e = true ∧ v = .bool (!e.credited) ∧ ModM bm { S with es := S.es.set i { e with credited := true } } M') ∨ ((∀ e ∈ S.es, credM nt e = false) ∧ v = .bool false ∧ M' = M)) := by
  have hM0 := hM
  obtain ⟨bf, bc, bl, pe, ce, pl, cl, Ae, Al, Ar, hI, hE, hL, hA, rfl⟩ := hM
  have hen := hI.en
  refine ct_body (rv := [.cell 4 4]) [(0, _), (1, _)] Try.func130 (by kernel_rfl) Try.ntmps130 Try.results130 rfl rfl (fun w0 => ?_)
  refine p_seq0 ?_
  refine p_plain0 (0 :: 1 :: 2 :: []) ?_
  refine go_s0 (some 2) (.box 131 (.tmp 0)) 0 ?_
  refine os_box1 rfl rfl rfl (fun b2 => ?_)
  refine go_s0 (some 3) (.box 135 (.tmp 1)) 0 ?_
  refine os_boxA rfl rfl (fun b3 => ?_)
  refine go_s0 (some 4) (.alloc 4) 0 ?_
  refine os_alloc1 rfl ze4 rfl (fun b4 => ?_)
  refine go_nil ?_
  change G _ _ _ _
  refine p_weaken [2, 3, 4] rfl ?_
  refine p_seq0 ?_
  refine p_seq0 ?_
  refine p_plain0 (0 :: 1 :: 2 :: 3 :: 4 :: []) ?_
  refine go_q0 7 (.load 131 (.tmp 2)) 131 (qv_load rfl .auto (ldv_sca sc131 (get_one _))) ?_
  refine go_q0 8 (.nilCheck (.tmp 7)) 0 (qv_nilCheck rfl) ?_
  refine go_q0 9 (.fieldAddr 207 (.tmp 8) 3) 0 (qv_field rfl fd207_3) ?_
  refine go_q0 10 (.load 136 (.tmp 9)) 136 (qv_load rfl .auto (ldv_sca sc136 (get_Mod_3 _))) ?_
  refine go_s0 (some 11) (.call { callee := .value (.func 166), args := #[.tmp 10], argTypes := #[136] }) 248 ?_
  refine os_call (Nat.le_of_ble_eq_true rfl) en166 rfl .auto (ct_Back) ?_
  rintro v11 A11 ⟨c2, rfl, rfl⟩
  try dsimp only [List.nil_append, List.cons_append]
  try dsimp only [List.nil_append, List.cons_append]
  refine go_nil ?_
  change G _ _ _ _
  refine p_weaken [2, 3, 4, 11] rfl ?_
  refine p_block 0 (by kernel_rfl) ?_
  refine p_range (gop := .tmp 11) (ps := #[12, 13]) (A := ((c2, .cells #[.slice pe S.es.length ce] 136 (0, 0)) :: (b4, .cells #[.bool false] 4 (0, 0)) :: (b3, .cells nt.x.c 135 (0, 0)) :: (b2, .cells #[.pointer (some ⟨bm, 0, none⟩)] 131 (0, 0)) :: modO bm bf bc bl pe S.es.length ce pl S.line.length cl S.first S.boot :: mapO bf S.fw S.fc :: mapO bc S.ca S.cc :: mapO bl S.lo S.lc :: (Ae ++ (Al ++ Ar)))) (by kernel_rfl) rfl rfl en201 .auto (fun g hps hga hgb hsz hfr => ?_)
  have hfr := hfr.pickT [2, 3, 4] rfl
  have hround : ∀ (i : Nat) (e : EntR), S.es[i]? = some e → RCt Try.prog g [.int .i64 (i : Int), .agg e.x.c] (g.o .ready none :: (g.D, .deferred (some [])) :: (b4, .cells #[.bool false] 4 (0, 0)) :: (b3, .cells nt.x.c 135 (0, 0)) :: (b2, .cells #[.pointer (some ⟨bm, 0, none⟩)] 131 (0, 0)) :: modO bm bf bc bl pe S.es.length ce pl S.line.length cl S.first S.boot :: mapO bf S.fw S.fc :: mapO bc S.ca S.cc :: mapO bl S.lo S.lc :: (Ae ++ (Al ++ Ar))) (fun u M' => u = .bool (!credM nt e) ∧ ∃ F, (credM nt e = true → (∃ Ae', OwnL eEntR 139 pe ce (S.es.set i { e with credited := true }) Ae' ∧ F = (b4, .cells #[.bool (!e.credited)] 4 (0, 0)) :: (b3, .cells nt.x.c 135 (0, 0)) :: (b2, .cells #[.pointer (some ⟨bm, 0, none⟩)] 131 (0, 0)) :: modO bm bf bc bl pe S.es.length ce pl S.line.length cl S.first S.boot :: mapO bf S.fw S.fc :: mapO bc S.ca S.cc :: mapO bl S.lo S.lc :: (Ae' ++ (Al ++ Ar)))) ∧ M' = cond (credM nt e) (g.o .done (some .ret) :: (g.D, .deferred (some [])) :: F) (g.o .ready none :: (g.D, .deferred (some [])) :: (b4, .cells #[.bool false] 4 (0, 0)) :: (b3, .cells nt.x.c 135 (0, 0)) :: (b2, .cells #[.pointer (some ⟨bm, 0, none⟩)] 131 (0, 0)) :: modO bm bf bc bl pe S.es.length ce pl S.line.length cl S.first S.boot :: mapO bf S.fw S.fc :: mapO bc S.ca S.cc :: mapO bl S.lo S.lc :: (Ae ++ (Al ++ Ar)))) := by
    intro i e hx
    have he1 : e.x.epoch = e.epoch := rfl
    have he2 : e.x.n = e.n := rfl
    have he3 : nt.x.epoch = nt.epoch := rfl
    have he4 : nt.x.n = nt.n := rfl
    have hil : i < S.es.length := (List.getElem?_eq_some_iff.1 hx).1
    obtain ⟨b, cur, hpb, hAe, hc1, hc2, hc3, H⟩ := hE.some_ (by omega)
    subst hpb
    subst hAe
    have hEn := own_setc (E := eEntR) (e := 139) (b := b) (k := 5) (a' := { e with credited := true }) (by decide) hc1 hc2 hc3 H hx (by decide) (set_Entr_5 e.x true) rfl
    refine rct_of2 hps hsz rfl rfl hfr (fun w0 => ?_)
    rw [hga, hgb]
    refine p_seq0 ?_
    refine p_plain0 (0 :: []) ?_
    refine go_q0 5 (.assign (.tmp 12)) 3 (qv_assign rfl) ?_
    refine go_nil ?_
    change G _ _ _ _
    refine p_weaken [2, 3, 4, 5, 13] rfl ?_
    refine p_plain0 (0 :: 1 :: []) ?_
    refine go_s0 (some 6) (.alloc 139) 0 ?_
    refine os_allocA rfl ze139 (fun b6 => ?_)
    refine go_s0 none (.store 139 (.tmp 6) (.tmp 13)) 0 ?_
    refine os_store rfl rfl sz139 rfl (one_Entr _ rfl) .auto (Nat.le_of_ble_eq_true rfl) (splw_Entr _ _ (siz_Entr _)) ?_
    refine go_nil ?_
    refine ⟨rfl, _, (List.Perm.swap _ _ _), ?_⟩
    refine p_block 1 (by kernel_rfl) ?_
    refine p_seq0 ?_
    refine p_plain0 (0 :: 1 :: 2 :: 3 :: 4 :: 5 :: 6 :: 7 :: 8 :: 9 :: 10 :: 11 :: []) ?_
    refine go_q0 14 (.fieldAddr 139 (.tmp 6) 0) 0 (qv_field rfl fd139_0) ?_
    refine go_q0 15 (.load 77 (.tmp 14)) 77 (qv_load rfl .auto (ldv_sca sc77 (get_Entr_0 _))) ?_
    refine go_q0 16 (.fieldAddr 135 (.tmp 3) 4) 0 (qv_field rfl fd135_4) ?_
    refine go_q0 17 (.load 77 (.tmp 16)) 77 (qv_load rfl .auto (ldv_sca sc77 (get_Note_41 _))) ?_
    refine go_q0 18 (.binOp .eql 77 (.tmp 15) (.tmp 17) 77) 4 (qv_eql rfl rfl rfl) ?_
    refine go_q0 19 (.move (.tmp 18)) 4 (qv_move rfl) ?_
    refine go_case (d := 19) rfl (fun g19 => ?_) (fun g19 => ?_)
    rotate_left
    · replace g19 := kn g19
      refine go_n (d := 20) (op := .fieldAddr 139 (.tmp 6) 1) (ty := 0) (g := some (5, true)) (by kernel_rfl) ⟨19, _, by kernel_rfl, rfl, rfl⟩ rfl ?_
      refine go_n (d := 21) (op := .load 30 (.tmp 20)) (ty := 30) (g := some (5, true)) (by kernel_rfl) ⟨19, _, by kernel_rfl, rfl, rfl⟩ rfl ?_
      refine go_n (d := 22) (op := .fieldAddr 135 (.tmp 3) 5) (ty := 0) (g := some (5, true)) (by kernel_rfl) ⟨19, _, by kernel_rfl, rfl, rfl⟩ rfl ?_
      refine go_n (d := 23) (op := .load 30 (.tmp 22)) (ty := 30) (g := some (5, true)) (by kernel_rfl) ⟨19, _, by kernel_rfl, rfl, rfl⟩ rfl ?_
      refine go_n (d := 24) (op := .binOp .eql 30 (.tmp 21) (.tmp 23) 30) (ty := 4) (g := some (5, true)) (by kernel_rfl) ⟨19, _, by kernel_rfl, rfl, rfl⟩ rfl ?_
      refine go_q0 25 (.pick (.tmp 19) (.tmp 24) (.const (.bool false))) 4 (qv_pick_f rfl rfl) ?_
      refine go_nil ?_
      change G _ _ _ _
      refine p_weaken [2, 3, 4, 5, 6, 14, 15, 16, 17, 18, 19, 20, 21, 22, 23, 24, 25] rfl ?_
      refine p_condF (.tmp 25) (by kernel_rfl) rfl ?_
      refine p_skip0 ?_
      have hst : credM nt e = false := by unfold credM; rw [← he1, ← he2, ← he3, ← he4]; clear he1 he2 he3 he4; simp [*]
      rw [hst]
      exact ⟨_, [_], List.Perm.cons _ (perm_ce _ _), rfl, [], fun h => (by cases h), rfl⟩
    replace g19 := kn g19
    refine go_q (d := 20) (op := .fieldAddr 139 (.tmp 6) 1) (ty := 0) (g := some (5, true)) (by kernel_rfl) ⟨19, by kernel_rfl, rfl⟩ rfl (qv_field rfl fd139_1) ?_
    refine go_q (d := 21) (op := .load 30 (.tmp 20)) (ty := 30) (g := some (5, true)) (by kernel_rfl) ⟨19, by kernel_rfl, rfl⟩ rfl (qv_load rfl .auto (ldv_sca sc30 (get_Entr_1 _))) ?_
    refine go_q (d := 22) (op := .fieldAddr 135 (.tmp 3) 5) (ty := 0) (g := some (5, true)) (by kernel_rfl) ⟨19, by kernel_rfl, rfl⟩ rfl (qv_field rfl fd135_5) ?_
    refine go_q (d := 23) (op := .load 30 (.tmp 22)) (ty := 30) (g := some (5, true)) (by kernel_rfl) ⟨19, by kernel_rfl, rfl⟩ rfl (qv_load rfl .auto (ldv_sca sc30 (get_Note_42 _))) ?_
    refine go_q (d := 24) (op := .binOp .eql 30 (.tmp 21) (.tmp 23) 30) (ty := 4) (g := some (5, true)) (by kernel_rfl) ⟨19, by kernel_rfl, rfl⟩ rfl (qv_eql rfl rfl rfl) ?_
    refine go_q0 25 (.pick (.tmp 19) (.tmp 24) (.const (.bool false))) 4 (qv_pick_t rfl rfl) ?_
    refine go_nil ?_
    change G _ _ _ _
    refine p_weaken [2, 3, 4, 5, 6, 14, 15, 16, 17, 18, 19, 20, 21, 22, 23, 24, 25] rfl ?_
    refine p_cond (.tmp 25) (by kernel_rfl) rfl (fun h25 => ?_) (fun h25 => ?_)
    rotate_left
    · replace h25 := kn h25
      refine p_skip0 ?_
      have hst : credM nt e = false := by unfold credM; rw [← he1, ← he2, ← he3, ← he4]; clear he1 he2 he3 he4; simp [*]
      rw [hst]
      exact ⟨_, [_], List.Perm.cons _ (perm_ce _ _), rfl, [], fun h => (by cases h), rfl⟩
    replace h25 := kn h25
    refine p_seq0 ?_
    refine p_plain0 (0 :: 1 :: 2 :: 3 :: 4 :: 5 :: 6 :: 7 :: []) ?_
    refine go_q0 26 (.load 131 (.tmp 2)) 131 (qv_load rfl .auto (ldv_sca sc131 (get_one _))) ?_
    refine go_q0 27 (.nilCheck (.tmp 26)) 0 (qv_nilCheck rfl) ?_
    refine go_q0 28 (.fieldAddr 207 (.tmp 27) 3) 0 (qv_field rfl fd207_3) ?_
    refine go_q0 29 (.load 136 (.tmp 28)) 136 (qv_load rfl .auto (ldv_sca sc136 (get_Mod_3 _))) ?_
    refine go_q0 30 (.move (.tmp 5)) 3 (qv_move rfl) ?_
    refine go_q0 31 (.indexAddr 136 (.tmp 29) (.tmp 30)) 0 (qv_index un136 sz139 rfl rfl rfl (by omega)) ?_
    refine go_q0 32 (.fieldAddr 139 (.tmp 31) 5) 0 (qv_field rfl fd139_5) ?_
    refine go_s0 none (.store 4 (.tmp 32) (.const (.bool true))) 0 ?_
    refine os_store1 rfl rfl sz4 rfl rfl .auto (own_fitc (E := eEntR) (k := 5) (by decide) H hx (by decide) rfl) rfl ?_
    refine go_nil ?_
    change G _ _ _ _
    refine p_seq0 ?_
    refine p_plain0 (0 :: 1 :: 2 :: 3 :: []) ?_
    refine go_q0 33 (.fieldAddr 139 (.tmp 6) 5) 0 (qv_field rfl fd139_5) ?_
    refine go_q0 34 (.load 4 (.tmp 33)) 4 (qv_load rfl .auto (ldv_sca sc4 (get_Entr_5 _))) ?_
    refine go_q0 35 (.unOp .not 4 (.tmp 34)) 4 (qv_not rfl) ?_
    refine go_s0 none (.store 4 (.tmp 4) (.tmp 35)) 0 ?_
    refine os_store1 rfl rfl sz4 rfl rfl .auto (Nat.le_of_ble_eq_true rfl) (set_one _ _) ?_
    refine go_nil ?_
    change G _ _ _ _
    refine p_ret0 ?_
    have hst : credM nt e = true := by unfold credM; rw [← he1, ← he2, ← he3, ← he4]; clear he1 he2 he3 he4; simp [*]
    rw [hst]
    exact ⟨_, [_], List.Perm.cons _ (perm_ce _ _), rfl, _, fun _ => ⟨_, hEn, rfl⟩, rfl⟩
  refine (ct_Back1 (.tail (.tail (.tail (.tail (.tail (.tail (.tail hE.lst.left))))))) (by omega) (by rw [hps]; rfl) (credM nt) (fun i e F => ∃ Ae', OwnL eEntR 139 pe ce (S.es.set i { e with credited := true }) Ae' ∧ F = (b4, .cells #[.bool (!e.credited)] 4 (0, 0)) :: (b3, .cells nt.x.c 135 (0, 0)) :: (b2, .cells #[.pointer (some ⟨bm, 0, none⟩)] 131 (0, 0)) :: modO bm bf bc bl pe S.es.length ce pl S.line.length cl S.first S.boot :: mapO bf S.fw S.fc :: mapO bc S.ca S.cc :: mapO bl S.lo S.lc :: (Ae' ++ (Al ++ Ar))) hround).mono ?_
  rintro _ M' (⟨i, e, F, hie, hs1, ⟨Ae1, hE1, rfl⟩, rfl⟩ | ⟨hs0, rfl⟩)
  · refine ⟨_, _, _, rfl, by decide, ?_⟩
    dsimp only [aftQ]
    try dsimp only [thenQ, inBlockQ]
    try rw [if_pos rfl]
    refine ret_mark (modO bm bf bc bl pe S.es.length ce pl S.line.length cl S.first S.boot :: mapO bf S.fw S.fc :: mapO bc S.ca S.cc :: mapO bl S.lo S.lc :: (Ae1 ++ (Al ++ Ar))) (.inr rfl) ⟨_, _, List.Perm.refl _, by (try simp only [List.append_eq, List.cons_append, List.append_nil, List.nil_append]); exact List.perm_append_comm (l₁ := [_, _, _, _]), (.cons (res_cell rfl (At.mem .auto) (ldv_sca sc4 (get_one _))) .nil)⟩ ?_
    have hfl := (Flg.refl S.es).set hie e.there e.synced true
    exact .inl ⟨i, e, hie, hs1, rfl, bf, bc, bl, pe, ce, pl, cl, Ae1, Al, Ar, hI.setEs hfl, hE1, hL, hfl.lst hA, by rw [List.length_set]⟩
  · refine ⟨_, _, _, rfl, by decide, ?_⟩
    dsimp only [aftQ]
    change G _ _ _ _
    refine p_weaken [4] rfl ?_
    refine p_seq0 ?_
    refine p_plain0 (0 :: []) ?_
    refine go_s0 none (.store 4 (.tmp 4) (.const (.bool false))) 0 ?_
    refine os_store1 rfl rfl sz4 rfl rfl .auto (Nat.le_of_ble_eq_true rfl) (set_one _ _) ?_
    refine go_nil ?_
    change G _ _ _ _
    refine p_ret0 ?_
    try dsimp only [thenQ, inBlockQ]
    try rw [if_pos rfl]
    refine ret_mark (modO bm bf bc bl pe S.es.length ce pl S.line.length cl S.first S.boot :: mapO bf S.fw S.fc :: mapO bc S.ca S.cc :: mapO bl S.lo S.lc :: (Ae ++ (Al ++ Ar))) (.inr rfl) ⟨_, _, List.Perm.refl _, by (try simp only [List.append_eq, List.cons_append, List.append_nil, List.nil_append]); exact List.perm_append_comm (l₁ := [_, _, _, _]), (.cons (res_cell rfl (At.mem .auto) (ldv_sca sc4 (get_one _))) .nil)⟩ ?_
    exact .inr ⟨hs0, rfl, rfl⟩
end Go.Proofs.Ytobmcpoejhhemaa
