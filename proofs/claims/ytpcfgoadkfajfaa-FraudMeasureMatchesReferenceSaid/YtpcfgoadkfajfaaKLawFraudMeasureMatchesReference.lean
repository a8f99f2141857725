/- Proved: the law FraudMeasureMatchesReference of package royaltylaw11 returns true for every input, and its arguments read afterwards as before (Measure agrees with the reference implementation). No condition. -/
import Derived.Test.YtpcfgoadkfajfaaKGN
import Derived.Test.YtpcfgoadkfajfaaK10
namespace Go.Proofs.Ytpcfgoadkfajfaa
set_option linter.all false
open Go Go.RowKit Go.ChangeShapes Go.WideShapes
set_option maxRecDepth 100000 in
theorem fraudMeasureMatchesReference_lifted (os : Os) (started : os.Started) (H : Type) (enc : TypeId × Value → H) :
    ReturnsInHanded {} Try.checked os 3 .any (Rows.fraudMeasureMatchesReferenceSpec.pre6 enc Try.prog Try.f3 Rows.fraudMeasureMatchesReferenceRow.domain false) (Rows.fraudMeasureMatchesReferenceSpec.post enc Try.prog Try.f3 false true false false) := by
  refine returnsInHanded_of_change (C := Try.checked) own started (by kernel_rfl) Try.func3
    (ChangeSpec.witness6 (enc := enc) (C := Try.checked) false ⟨#[], #[.slice none 0 0, .agg (smC ⟨0, 0, 0, 0, 0, 0, 0, 0, 0⟩), .int .i64 0, .int .i64 0], []⟩ 8 (by kernel_rfl) (by kernel_rfl) (by kernel_rfl) (by kernel_rfl)) ?_
  intro W base args ds gs before hval0 hW hcnd _
  have hval : ∀ (j : Nat) t v, Try.f3.params[j]? = some t → args[j]? = some v → Value.okWide Try.prog W .any base t v := hval0
  have hW' := hW
  obtain ⟨p, q, hA0, hV, rfl, _, _⟩ := hW
  have hA : DataW.TrodAll enc Try.prog W 0 (fun _ => true) true Try.f3.params.toList args.toList ds p := hA0
  rw [Try.params3] at hA hval
  obtain ⟨v0, v1, v2, v3, d0, d1, d2, d3, p0, p1, p2, p3, rfl, rfl, rfl, h0, h1, h2, h3⟩ := trodAll_four hA
  obtain ⟨A0, cap0, X0, rfl, hr0, hg0, hc0, h80⟩ := open_sms (hval 0 22 v0 rfl rfl) h0
  obtain ⟨x1, rfl, hg1⟩ := open_oneSm (hval 1 24 v1 rfl rfl) h1
  obtain ⟨n2, rfl, _, _, hw2⟩ := open_int Try.underlying3 (hval 2 3 v2 rfl rfl) h2
  have hi2 := wf_i64 hw2
  obtain ⟨n3, rfl, _, _, hw3⟩ := open_int Try.underlying3 (hval 3 3 v3 rfl rfl) h3
  have hi3 := wf_i64 hw3
  obtain ⟨rfl, _⟩ := trodVars_none hV
  refine (w_lawMM X0 hr0 hc0 h80 x1 n2 n3 hi2.1 hi2.2 hi3.1 hi3.2).mono fun e W' ⟨he, hw⟩ => ?_
  exact ⟨_, he, law_post (tb := 4) laidOut (by kernel_rfl) hW' rfl rfl rfl Try.underlying4 hw.below⟩

theorem fraudMeasureMatchesReference_holds : Rows.FraudMeasureMatchesReferenceSaid :=
  OpenClaim.holds_of_wide 3 Try.f3 rfl rfl rfl rfl rfl rfl rfl ⟨rfl, rfl, rfl, rfl, rfl⟩ rfl rfl rfl rfl rfl (by kernel_rfl) Try.func3 (by kernel_rfl)
    (of_decide_eq_true (by kernel_rfl)) (by unfold Func.isWrapper; first | (rw [if_pos (by decide +kernel)]; kernel_rfl) | (rw [if_neg (by decide +kernel)]; exact ⟨rfl, rfl⟩))
    (fun os started H enc _ => fraudMeasureMatchesReference_lifted os started H enc)
#print axioms fraudMeasureMatchesReference_holds
end Go.Proofs.Ytpcfgoadkfajfaa
