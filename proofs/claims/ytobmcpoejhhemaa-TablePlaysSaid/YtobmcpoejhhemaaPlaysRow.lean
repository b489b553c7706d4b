/- TablePlays: at every input the law returns true, and each argument reads behind the call as it read before. No condition beyond the statement. -/
import Derived.Test.YtobmcpoejhhemaaPlays
import Derived.Test.YtobmcpoejhhemaaRd
namespace Go.Proofs.Ytobmcpoejhhemaa
open Go.E Go.ChangeShapes Go.WideShapes Go.ChangeAt Go.RowKit

set_option maxRecDepth 100000 in
theorem tablePlays_lifted (os : Os) (started : os.Started) (H : Type) (enc : TypeId × Value → H) :
    ReturnsInHanded {} Try.checked os 8 .any (Rows.tablePlaysSpec.pre6 enc Try.prog Try.f8 Rows.tablePlaysRow.domain false) (Rows.tablePlaysSpec.post enc Try.prog Try.f8 false true false false) := by
  refine returnsInHanded_of_change (C := Try.checked) Try.own started (by kernel_rfl) Try.func8
    (ChangeSpec.witness6 (enc := enc) (C := Try.checked) false ⟨#[], #[.int .i64 0, .slice none 0 0], []⟩ 8 (by kernel_rfl) (by kernel_rfl) (by kernel_rfl) (by kernel_rfl)) ?_
  intro W base args ds gs before hval0 hW hcnd _
  have hval : ∀ (j : Nat) t v, Try.f8.params[j]? = some t → args[j]? = some v → Value.okWide Try.prog W .any base t v := hval0
  have hA0 : DataW.TrodAll enc Try.prog W 0 (fun _ => true) true [3, 82] args.toList ds _ := hW.choose_spec.choose_spec.1
  obtain ⟨v0, vs, d0, ds, p0, q, hargs, rfl, h0, hA0⟩ := trodAll_open hA0
  obtain ⟨v1, vs, d1, ds, p1, q, rfl, rfl, h1, hA0⟩ := trodAll_open hA0
  obtain ⟨rfl, rfl⟩ := trodAll_end hA0
  have ha := arr_of hargs
  subst ha
  clear hval0 hA0 hcnd
  obtain ⟨size, rfl, h_size⟩ := rd_num ru3 (hval 0 _ _ rfl rfl) h0
  obtain ⟨p_l, l, c_l, b_l, rfl, h_l, hc_l, hm_l, hl_l⟩ := rd_slice (t := 82) (e := 88) (E := eAct23) (by kernel_rfl) (by kernel_rfl) (by decide) rd_88 h1 (okWide_sl (e := 88) (by kernel_rfl) (hval 1 _ _ rfl rfl))
  obtain ⟨R, hR1, hR2, hR3⟩ := mk_mem W [b_l]
  have L_l := mk_lst hl_l hR3 (by simp)
  refine ((ct_TablePlaysAll size l R p_l c_l L_l h_l : Ct Try.prog 8 [.int .i64 size, .slice p_l l.length c_l].toArray R (fun v M' => v = .bool true ∧ M' = R)) W hR1 hR2).mono ?_
  rintro e W' ⟨_, _, rfl, ⟨rfl, rfl⟩, hc⟩
  have hgs : gs = [] := by
    obtain ⟨_, _, _, hv, _⟩ := hW
    cases gs with
    | nil => rfl
    | cons _ _ => exact hv.elim
  subst hgs
  exact ⟨_, rfl, law_post hW (Chg.below hR2 hc) (by decide +kernel) rfl rfl rfl⟩

theorem tablePlays_holds : Rows.TablePlaysSaid :=
  OpenClaim.holds_of_wide 8 Try.f8 rfl rfl rfl rfl rfl rfl rfl ⟨rfl, rfl, rfl, rfl, rfl⟩ rfl rfl rfl rfl rfl (by kernel_rfl) Try.func8 (by kernel_rfl)
    (of_decide_eq_true (by kernel_rfl)) (by unfold Func.isWrapper; rw [if_neg (by decide +kernel)]; exact ⟨rfl, rfl⟩)
    (fun os started H enc _ => tablePlays_lifted os started H enc)
end Go.Proofs.Ytobmcpoejhhemaa
