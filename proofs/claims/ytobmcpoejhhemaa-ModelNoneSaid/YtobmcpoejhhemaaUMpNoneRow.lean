/- ModelNone: at every input the law returns true, and each argument reads behind the call as it read before. No condition beyond the statement. -/
import Derived.Test.YtobmcpoejhhemaaUMpP
import Derived.Test.YtobmcpoejhhemaaUMpRd
namespace Go.Proofs.Ytobmcpoejhhemaa
open Go.E Go.ChangeShapes Go.WideShapes Go.ChangeAt Go.RowKit

set_option maxRecDepth 100000 in
theorem modelNone_lifted (os : Os) (started : os.Started) (H : Type) (enc : TypeId × Value → H) :
    ReturnsInHanded {} Try.checked os 12 .any (Rows.modelNoneSpec.pre6 enc Try.prog Try.f12 Rows.modelNoneRow.domain false) (Rows.modelNoneSpec.post enc Try.prog Try.f12 false true false false) := by
  refine returnsInHanded_of_change (C := Try.checked) Try.own started (by kernel_rfl) Try.func12
    (ChangeSpec.witness6 (enc := enc) (C := Try.checked) false ⟨#[], #[.agg (⟨0, default, default, .slice none 0 0, 0, 0, 0, 0⟩ : Note).c], []⟩ 8 (by kernel_rfl) (by kernel_rfl) (by kernel_rfl) (by kernel_rfl)) ?_
  intro W base args ds gs before hval0 hW hcnd _
  have hval : ∀ (j : Nat) t v, Try.f12.params[j]? = some t → args[j]? = some v → Value.okWide Try.prog W .any base t v := hval0
  have hA0 : DataW.TrodAll enc Try.prog W 0 (fun _ => true) true [135] args.toList ds _ := hW.choose_spec.choose_spec.1
  obtain ⟨v0, vs, d0, ds, p0, q, hargs, rfl, h0, hA0⟩ := trodAll_open hA0
  obtain ⟨rfl, rfl⟩ := trodAll_end hA0
  have ha := arr_of hargs
  subst ha
  clear hval0 hA0 hcnd
  obtain ⟨a, rfl, h_a⟩ := rd_noteV (okWide_agg (fs := Try.prog.fieldsOf 135) (by kernel_rfl) (hval 0 _ _ rfl rfl)) h0
  obtain ⟨R, hR1, hR2, hR3⟩ := mk_mem W []
  refine ((Pu.any (pu_ModelNone a h_a.cap_) : Ct Try.prog 12 [.agg a.x.c].toArray R (fun v M' => v = .bool true ∧ M' = R)) W hR1 hR2).mono ?_
  rintro e W' ⟨_, _, rfl, ⟨rfl, rfl⟩, hc⟩
  have hgs : gs = [] := by
    obtain ⟨_, _, _, hv, _⟩ := hW
    cases gs with
    | nil => rfl
    | cons _ _ => exact hv.elim
  subst hgs
  exact ⟨_, rfl, law_post hW (Chg.below hR2 hc) (by decide +kernel) rfl rfl rfl⟩

theorem modelNone_holds : Rows.ModelNoneSaid :=
  OpenClaim.holds_of_wide 12 Try.f12 rfl rfl rfl rfl rfl rfl rfl ⟨rfl, rfl, rfl, rfl, rfl⟩ rfl rfl rfl rfl rfl (by kernel_rfl) Try.func12 (by kernel_rfl)
    (of_decide_eq_true (by kernel_rfl)) (by unfold Func.isWrapper; rw [if_neg (by decide +kernel)]; exact ⟨rfl, rfl⟩)
    (fun os started H enc _ => modelNone_lifted os started H enc)
end Go.Proofs.Ytobmcpoejhhemaa
