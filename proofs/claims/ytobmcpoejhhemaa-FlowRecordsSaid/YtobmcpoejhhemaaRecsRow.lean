/- FlowRecords: at every input the law returns true, and each argument reads behind the call as it read before. No condition beyond the statement. -/
import Derived.Test.YtobmcpoejhhemaaRecs
import Derived.Test.YtobmcpoejhhemaaRd
namespace Go.Proofs.Ytobmcpoejhhemaa
open Go.E Go.ChangeShapes Go.WideShapes Go.ChangeAt Go.RowKit

set_option maxRecDepth 100000 in
theorem flowRecords_lifted (os : Os) (started : os.Started) (H : Type) (enc : TypeId × Value → H) :
    ReturnsInHanded {} Try.checked os 4 .any (Rows.flowRecordsSpec.pre6 enc Try.prog Try.f4 Rows.flowRecordsRow.domain false) (Rows.flowRecordsSpec.post enc Try.prog Try.f4 false true false false) := by
  refine returnsInHanded_of_change (C := Try.checked) Try.own started (by kernel_rfl) Try.func4
    (ChangeSpec.witness6 (enc := enc) (C := Try.checked) false ⟨#[], #[.agg (default : Rec).c, .agg (default : Pkt).c, .int .u64 0, .agg (default : Tot).c, .agg (default : Tot).c], []⟩ 8 (by kernel_rfl) (by kernel_rfl) (by kernel_rfl) (by kernel_rfl)) ?_
  intro W base args ds gs before hval0 hW hcnd _
  have hval : ∀ (j : Nat) t v, Try.f4.params[j]? = some t → args[j]? = some v → Value.okWide Try.prog W .any base t v := hval0
  have hA0 : DataW.TrodAll enc Try.prog W 0 (fun _ => true) true [35, 39, 30, 32, 32] args.toList ds _ := hW.choose_spec.choose_spec.1
  obtain ⟨v0, vs, d0, ds, p0, q, hargs, rfl, h0, hA0⟩ := trodAll_open hA0
  obtain ⟨v1, vs, d1, ds, p1, q, rfl, rfl, h1, hA0⟩ := trodAll_open hA0
  obtain ⟨v2, vs, d2, ds, p2, q, rfl, rfl, h2, hA0⟩ := trodAll_open hA0
  obtain ⟨v3, vs, d3, ds, p3, q, rfl, rfl, h3, hA0⟩ := trodAll_open hA0
  obtain ⟨v4, vs, d4, ds, p4, q, rfl, rfl, h4, hA0⟩ := trodAll_open hA0
  obtain ⟨rfl, rfl⟩ := trodAll_end hA0
  have ha := arr_of hargs
  subst ha
  clear hval0 hA0 hcnd
  obtain ⟨r, rfl, h_r⟩ := rd_agg rd_35 (okWide_agg (fs := Try.prog.fieldsOf 35) (by kernel_rfl) (hval 0 _ _ rfl rfl)) h0
  obtain ⟨p, rfl, h_p⟩ := rd_agg rd_39 (okWide_agg (fs := Try.prog.fieldsOf 39) (by kernel_rfl) (hval 1 _ _ rfl rfl)) h1
  obtain ⟨tick, rfl, h_tick⟩ := rd_num ru30 (hval 2 _ _ rfl rfl) h2
  obtain ⟨t, rfl, h_t⟩ := rd_agg rd_32 (okWide_agg (fs := Try.prog.fieldsOf 32) (by kernel_rfl) (hval 3 _ _ rfl rfl)) h3
  obtain ⟨u, rfl, h_u⟩ := rd_agg rd_32 (okWide_agg (fs := Try.prog.fieldsOf 32) (by kernel_rfl) (hval 4 _ _ rfl rfl)) h4
  obtain ⟨R, hR1, hR2, hR3⟩ := mk_mem W []
  refine ((Pu.any (pu_FlowRecords r p tick t u h_r.packets_ h_r.bytes_ h_p.length_ ⟨h_t.packets_, h_t.bytes_⟩ ⟨h_u.packets_, h_u.bytes_⟩) : Ct Try.prog 4 [.agg r.c, .agg p.c, .int .u64 tick, .agg t.c, .agg u.c].toArray R (fun v M' => v = .bool true ∧ M' = R)) W hR1 hR2).mono ?_
  rintro e W' ⟨_, _, rfl, ⟨rfl, rfl⟩, hc⟩
  have hgs : gs = [] := by
    obtain ⟨_, _, _, hv, _⟩ := hW
    cases gs with
    | nil => rfl
    | cons _ _ => exact hv.elim
  subst hgs
  exact ⟨_, rfl, law_post hW (Chg.below hR2 hc) (by decide +kernel) rfl rfl rfl⟩

theorem flowRecords_holds : Rows.FlowRecordsSaid :=
  OpenClaim.holds_of_wide 4 Try.f4 rfl rfl rfl rfl rfl rfl rfl ⟨rfl, rfl, rfl, rfl, rfl⟩ rfl rfl rfl rfl rfl (by kernel_rfl) Try.func4 (by kernel_rfl)
    (of_decide_eq_true (by kernel_rfl)) (by unfold Func.isWrapper; rw [if_neg (by decide +kernel)]; exact ⟨rfl, rfl⟩)
    (fun os started H enc _ => flowRecords_lifted os started H enc)
end Go.Proofs.Ytobmcpoejhhemaa
