/- FlowSums: at every input the law returns true, and each argument reads behind the call as it read before. No condition beyond the statement. -/
import Derived.Test.YtobmcpoejhhemaaSums
import Derived.Test.YtobmcpoejhhemaaRd
namespace Go.Proofs.Ytobmcpoejhhemaa
open Go.E Go.ChangeShapes Go.WideShapes Go.ChangeAt Go.RowKit

theorem Tot.Wf.ok {t : Tot} (h : t.Wf) : t.Ok := ⟨h.packets_, h.bytes_⟩
set_option maxRecDepth 100000 in
theorem flowSums_lifted (os : Os) (started : os.Started) (H : Type) (enc : TypeId × Value → H) :
    ReturnsInHanded {} Try.checked os 3 .any (Rows.flowSumsSpec.pre6 enc Try.prog Try.f3 Rows.flowSumsRow.domain false) (Rows.flowSumsSpec.post enc Try.prog Try.f3 false true false false) := by
  refine returnsInHanded_of_change (C := Try.checked) Try.own started (by kernel_rfl) Try.func3
    (ChangeSpec.witness6 (enc := enc) (C := Try.checked) false ⟨#[], #[.agg (default : Key).c, .slice none 0 0, .slice none 0 0, .agg (default : Tot).c, .agg (default : Tot).c, .agg (default : Tot).c], []⟩ 8 (by kernel_rfl) (by kernel_rfl) (by kernel_rfl) (by kernel_rfl)) ?_
  intro W base args ds gs before hval0 hW hcnd _
  have hval : ∀ (j : Nat) t v, Try.f3.params[j]? = some t → args[j]? = some v → Value.okWide Try.prog W .any base t v := hval0
  have hA0 : DataW.TrodAll enc Try.prog W 0 (fun _ => true) true [27, 28, 29, 32, 32, 32] args.toList ds _ := hW.choose_spec.choose_spec.1
  obtain ⟨v0, vs, d0, ds, p0, q, hargs, rfl, h0, hA0⟩ := trodAll_open hA0
  obtain ⟨v1, vs, d1, ds, p1, q, rfl, rfl, h1, hA0⟩ := trodAll_open hA0
  obtain ⟨v2, vs, d2, ds, p2, q, rfl, rfl, h2, hA0⟩ := trodAll_open hA0
  obtain ⟨v3, vs, d3, ds, p3, q, rfl, rfl, h3, hA0⟩ := trodAll_open hA0
  obtain ⟨v4, vs, d4, ds, p4, q, rfl, rfl, h4, hA0⟩ := trodAll_open hA0
  obtain ⟨v5, vs, d5, ds, p5, q, rfl, rfl, h5, hA0⟩ := trodAll_open hA0
  obtain ⟨rfl, rfl⟩ := trodAll_end hA0
  have ha := arr_of hargs
  subst ha
  clear hval0 hA0 hcnd
  obtain ⟨k, rfl, hk⟩ := rd_agg rd_27 (okWide_agg (fs := Try.prog.fieldsOf 27) (by kernel_rfl) (hval 0 _ _ rfl rfl)) h0
  obtain ⟨pl, ls, capl, bl, rfl, hls, -, -, hl⟩ := rd_slice (t := 28) (e := 25) (E := eI .u16) (by kernel_rfl) (by kernel_rfl) (by decide) (rd_int (by kernel_rfl)) h1 (okWide_sl (e := 25) (by kernel_rfl) (hval 1 _ _ rfl rfl))
  obtain ⟨pt, ts, capt, bt, rfl, hts, -, -, ht⟩ := rd_slice (t := 29) (e := 30) (E := eI .u64) (by kernel_rfl) (by kernel_rfl) (by decide) (rd_int (by kernel_rfl)) h2 (okWide_sl (e := 30) (by kernel_rfl) (hval 2 _ _ rfl rfl))
  obtain ⟨t, rfl, hT⟩ := rd_agg rd_32 (okWide_agg (fs := Try.prog.fieldsOf 32) (by kernel_rfl) (hval 3 _ _ rfl rfl)) h3
  obtain ⟨u, rfl, hU⟩ := rd_agg rd_32 (okWide_agg (fs := Try.prog.fieldsOf 32) (by kernel_rfl) (hval 4 _ _ rfl rfl)) h4
  obtain ⟨v, rfl, hV⟩ := rd_agg rd_32 (okWide_agg (fs := Try.prog.fieldsOf 32) (by kernel_rfl) (hval 5 _ _ rfl rfl)) h5
  obtain ⟨R, hR1, hR2, hR3⟩ := mk_mem W [bl, bt]
  refine (ct_FlowSums k ls ts t u v hT.ok hU.ok hV.ok hls R pl pt capl capt (mk_lst hl hR3 (by simp)) (mk_lst ht hR3 (by simp)) W hR1 hR2).mono ?_
  rintro e W' ⟨_, _, rfl, ⟨rfl, rfl⟩, hc⟩
  have hgs : gs = [] := by
    obtain ⟨_, _, _, hv, _⟩ := hW
    cases gs with
    | nil => rfl
    | cons _ _ => exact hv.elim
  subst hgs
  exact ⟨_, rfl, law_post hW (Chg.below hR2 hc) (by decide +kernel) rfl rfl rfl⟩

theorem flowSums_holds : Rows.FlowSumsSaid :=
  OpenClaim.holds_of_wide 3 Try.f3 rfl rfl rfl rfl rfl rfl rfl ⟨rfl, rfl, rfl, rfl, rfl⟩ rfl rfl rfl rfl rfl (by kernel_rfl) Try.func3 (by kernel_rfl)
    (of_decide_eq_true (by kernel_rfl)) (by unfold Func.isWrapper; rw [if_neg (by decide +kernel)]; exact ⟨rfl, rfl⟩)
    (fun os started H enc _ => flowSums_lifted os started H enc)
end Go.Proofs.Ytobmcpoejhhemaa
