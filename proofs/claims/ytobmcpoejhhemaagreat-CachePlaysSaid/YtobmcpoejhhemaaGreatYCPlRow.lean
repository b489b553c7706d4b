/- CachePlays: at every input the law returns true, and each argument reads behind the call as it read before. No condition beyond the statement. -/
import Derived.Test.YtobmcpoejhhemaaGreatYRcZ
import Derived.Test.YtobmcpoejhhemaaGreatYRd
namespace Go.Proofs.YtobmcpoejhhemaaGreat
open Go.E Go.ChangeShapes Go.WideShapes Go.ChangeAt Go.RowKit

set_option maxRecDepth 100000 in
theorem cachePlays_lifted (os : Os) (started : os.Started) (H : Type) (enc : TypeId × Value → H) :
    ReturnsInHanded {} Tryz.checked os 4 .any (Rows.cachePlaysSpec.pre6 enc Tryz.prog Tryz.f4 Rows.cachePlaysRow.domain false) (Rows.cachePlaysSpec.post enc Tryz.prog Tryz.f4 false true false false) := by
  refine returnsInHanded_of_change (C := Tryz.checked) Tryz.own started (by kernel_rfl) Tryz.func4
    (ChangeSpec.witness6 (enc := enc) (C := Tryz.checked) false ⟨#[], #[.int .u64 0, .agg (default : Bnd).c, .slice none 0 0], []⟩ 8 (by kernel_rfl) (by kernel_rfl) (by kernel_rfl) (by kernel_rfl)) ?_
  intro W base args ds gs before hval0 hW hcnd _
  have hval : ∀ (j : Nat) t v, Tryz.f4.params[j]? = some t → args[j]? = some v → Value.okWide Tryz.prog W .any base t v := hval0
  have hA0 : DataW.TrodAll enc Tryz.prog W 0 (fun _ => true) true [23, 36, 22] args.toList ds _ := hW.choose_spec.choose_spec.1
  obtain ⟨v0, vs, d0, ds, p0, q, hargs, rfl, h0, hA0⟩ := trodAll_open hA0
  obtain ⟨v1, vs, d1, ds, p1, q, rfl, rfl, h1, hA0⟩ := trodAll_open hA0
  obtain ⟨v2, vs, d2, ds, p2, q, rfl, rfl, h2, hA0⟩ := trodAll_open hA0
  obtain ⟨rfl, rfl⟩ := trodAll_end hA0
  have ha := arr_of hargs
  subst ha
  clear hval0 hA0 hcnd
  obtain ⟨tick, rfl, h_tick⟩ := rd_num ru23 (hval 0 _ _ rfl rfl) h0
  obtain ⟨b, rfl, h_b⟩ := rd_agg rd_36 (okWide_agg (fs := Tryz.prog.fieldsOf 36) (by kernel_rfl) (hval 1 _ _ rfl rfl)) h1
  obtain ⟨p_l, l, c_l, b_l, rfl, h_l, hc_l, hm_l, hl_l⟩ := rd_slice (t := 22) (e := 33) (E := eAct24) (by kernel_rfl) (by kernel_rfl) (by decide) rd_33 h2 (okWide_sl (e := 33) (by kernel_rfl) (hval 2 _ _ rfl rfl))
  obtain ⟨R, hR1, hR2, hR3⟩ := mk_mem W [b_l]
  have L_l := mk_lst hl_l hR3 (by simp)
  refine ((ct_CachePlaysAll tick b l R p_l c_l h_tick h_b L_l h_l : Ct Tryz.prog 4 [.int .u64 tick, .agg b.c, .slice p_l l.length c_l].toArray R (fun v M' => v = .bool true ∧ M' = R)) W hR1 hR2).mono ?_
  rintro e W' ⟨_, _, rfl, ⟨rfl, rfl⟩, hc⟩
  have hgs : gs = [] := by
    obtain ⟨_, _, _, hv, _⟩ := hW
    cases gs with
    | nil => rfl
    | cons _ _ => exact hv.elim
  subst hgs
  exact ⟨_, rfl, law_post hW (Chg.below hR2 hc) (by decide +kernel) rfl rfl rfl⟩

theorem cachePlays_holds : Rows.CachePlaysSaid :=
  OpenClaim.holds_of_wide 4 Tryz.f4 rfl rfl rfl rfl rfl rfl rfl ⟨rfl, rfl, rfl, rfl, rfl⟩ rfl rfl rfl rfl rfl (by kernel_rfl) Tryz.func4 (by kernel_rfl)
    (of_decide_eq_true (by kernel_rfl)) (by unfold Func.isWrapper; rw [if_neg (by decide +kernel)]; exact ⟨rfl, rfl⟩)
    (fun os started H enc _ => cachePlays_lifted os started H enc)
end Go.Proofs.YtobmcpoejhhemaaGreat
