/- CacheKeeps: at every input the law returns true, and each argument reads behind the call as it read before. No condition beyond the statement. -/
import Derived.Test.YtobmcpoejhhemaaQCacY
import Derived.Test.YtobmcpoejhhemaaQRd
namespace Go.Proofs.Ytobmcpoejhhemaa
open Go.E Go.ChangeShapes Go.WideShapes Go.ChangeAt Go.RowKit

set_option maxRecDepth 100000 in
theorem cacheKeeps_lifted (os : Os) (started : os.Started) (H : Type) (enc : TypeId × Value → H) :
    ReturnsInHanded {} Try.checked os 14 .any (Rows.cacheKeepsSpec.pre6 enc Try.prog Try.f14 Rows.cacheKeepsRow.domain false) (Rows.cacheKeepsSpec.post enc Try.prog Try.f14 false true false false) := by
  refine returnsInHanded_of_change (C := Try.checked) Try.own started (by kernel_rfl) Try.func14
    (ChangeSpec.witness6 (enc := enc) (C := Try.checked) false ⟨#[], #[.agg (default : Bnd).c, .slice none 0 0], []⟩ 8 (by kernel_rfl) (by kernel_rfl) (by kernel_rfl) (by kernel_rfl)) ?_
  intro W base args ds gs before hval0 hW hcnd _
  have hval : ∀ (j : Nat) t v, Try.f14.params[j]? = some t → args[j]? = some v → Value.okWide Try.prog W .any base t v := hval0
  have hA0 : DataW.TrodAll enc Try.prog W 0 (fun _ => true) true [148, 149] args.toList ds _ := hW.choose_spec.choose_spec.1
  obtain ⟨v0, vs, d0, ds, p0, q, hargs, rfl, h0, hA0⟩ := trodAll_open hA0
  obtain ⟨v1, vs, d1, ds, p1, q, rfl, rfl, h1, hA0⟩ := trodAll_open hA0
  obtain ⟨rfl, rfl⟩ := trodAll_end hA0
  have ha := arr_of hargs
  subst ha
  clear hval0 hA0 hcnd
  obtain ⟨b, rfl, h_b⟩ := rd_agg rd_148 (okWide_agg (fs := Try.prog.fieldsOf 148) (by kernel_rfl) (hval 0 _ _ rfl rfl)) h0
  obtain ⟨p_l, l, c_l, b_l, rfl, h_l, hc_l, hm_l, hl_l⟩ := rd_slice (t := 149) (e := 100) (E := eAct24) (by kernel_rfl) (by kernel_rfl) (by decide) rd_100 h1 (okWide_sl (e := 100) (by kernel_rfl) (hval 1 _ _ rfl rfl))
  obtain ⟨R, hR1, hR2, hR3⟩ := mk_mem W [b_l]
  have L_l := mk_lst hl_l hR3 (by simp)
  refine ((ct_CacheKeepsAll b l R p_l c_l h_b L_l h_l : Ct Try.prog 14 [.agg b.c, .slice p_l l.length c_l].toArray R (fun v M' => v = .bool true ∧ M' = R)) W hR1 hR2).mono ?_
  rintro e W' ⟨_, _, rfl, ⟨rfl, rfl⟩, hc⟩
  have hgs : gs = [] := by
    obtain ⟨_, _, _, hv, _⟩ := hW
    cases gs with
    | nil => rfl
    | cons _ _ => exact hv.elim
  subst hgs
  exact ⟨_, rfl, law_post hW (Chg.below hR2 hc) (by decide +kernel) rfl rfl rfl⟩

theorem cacheKeeps_holds : Rows.CacheKeepsSaid :=
  OpenClaim.holds_of_wide 14 Try.f14 rfl rfl rfl rfl rfl rfl rfl ⟨rfl, rfl, rfl, rfl, rfl⟩ rfl rfl rfl rfl rfl (by kernel_rfl) Try.func14 (by kernel_rfl)
    (of_decide_eq_true (by kernel_rfl)) (by unfold Func.isWrapper; rw [if_neg (by decide +kernel)]; exact ⟨rfl, rfl⟩)
    (fun os started H enc _ => cacheKeeps_lifted os started H enc)
end Go.Proofs.Ytobmcpoejhhemaa
