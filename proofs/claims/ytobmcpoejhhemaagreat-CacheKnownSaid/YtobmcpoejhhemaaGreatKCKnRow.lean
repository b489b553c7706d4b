/- CacheKnown: at every input the law returns true, and each argument reads behind the call as it read before. No condition beyond the statement. -/
import Derived.Test.YtobmcpoejhhemaaGreatKCKn
import Derived.Test.YtobmcpoejhhemaaGreatKRd
namespace Go.Proofs.YtobmcpoejhhemaaGreat
open Go.E Go.ChangeShapes Go.WideShapes Go.ChangeAt Go.RowKit

set_option maxRecDepth 100000 in
theorem cacheKnown_lifted (os : Os) (started : os.Started) (H : Type) (enc : TypeId × Value → H) :
    ReturnsInHanded {} Tryz.checked os 3 .any (Rows.cacheKnownSpec.pre6 enc Tryz.prog Tryz.f3 Rows.cacheKnownRow.domain false) (Rows.cacheKnownSpec.post enc Tryz.prog Tryz.f3 false true false false) := by
  refine returnsInHanded_of_change (C := Tryz.checked) Tryz.own started (by kernel_rfl) Tryz.func3
    (ChangeSpec.witness6 (enc := enc) (C := Tryz.checked) false ⟨#[], #[], []⟩ 8 (by kernel_rfl) (by kernel_rfl) (by kernel_rfl) (by kernel_rfl)) ?_
  intro W base args ds gs before hval0 hW hcnd _
  have hval : ∀ (j : Nat) t v, Tryz.f3.params[j]? = some t → args[j]? = some v → Value.okWide Tryz.prog W .any base t v := hval0
  have hA0 : DataW.TrodAll enc Tryz.prog W 0 (fun _ => true) true [] args.toList ds _ := hW.choose_spec.choose_spec.1
  obtain ⟨hargs, rfl⟩ := trodAll_end hA0
  have ha := arr_of hargs
  subst ha
  clear hval0 hA0 hcnd
  obtain ⟨R, hR1, hR2, hR3⟩ := mk_mem W []
  refine ((Pu.any pu_CacheKnown : Ct Tryz.prog 3 [].toArray R (fun v M' => v = .bool true ∧ M' = R)) W hR1 hR2).mono ?_
  rintro e W' ⟨_, _, rfl, ⟨rfl, rfl⟩, hc⟩
  have hgs : gs = [] := by
    obtain ⟨_, _, _, hv, _⟩ := hW
    cases gs with
    | nil => rfl
    | cons _ _ => exact hv.elim
  subst hgs
  exact ⟨_, rfl, law_post hW (Chg.below hR2 hc) (by decide +kernel) rfl rfl rfl⟩

theorem cacheKnown_holds : Rows.CacheKnownSaid :=
  OpenClaim.holds_of_wide 3 Tryz.f3 rfl rfl rfl rfl rfl rfl rfl ⟨rfl, rfl, rfl, rfl, rfl⟩ rfl rfl rfl rfl rfl (by kernel_rfl) Tryz.func3 (by kernel_rfl)
    (of_decide_eq_true (by kernel_rfl)) (by unfold Func.isWrapper; rw [if_neg (by decide +kernel)]; exact ⟨rfl, rfl⟩)
    (fun os started H enc _ => cacheKnown_lifted os started H enc)
end Go.Proofs.YtobmcpoejhhemaaGreat
