/- Proved: the law FraudMeasures of package royaltylaw11 returns true for every input, and its arguments read afterwards as before (no measure of an account or a device is greater than that of its cluster; there are at most as many different things as streams; a stream of the list is in its groups). No condition. -/
import Derived.Test.YtpcfgoadkfajfaaKGP
import Derived.Test.YtpcfgoadkfajfaaK10
namespace Go.Proofs.Ytpcfgoadkfajfaa
set_option linter.all false
open Go Go.RowKit Go.ChangeShapes Go.WideShapes
set_option maxRecDepth 100000 in
theorem fraudMeasures_lifted (os : Os) (started : os.Started) (H : Type) (enc : TypeId × Value → H) :
    ReturnsInHanded {} Try.checked os 9 .any (Rows.fraudMeasuresSpec.pre6 enc Try.prog Try.f9 Rows.fraudMeasuresRow.domain false) (Rows.fraudMeasuresSpec.post enc Try.prog Try.f9 false true false false) := by
  refine returnsInHanded_of_change (C := Try.checked) own started (by kernel_rfl) Try.func9
    (ChangeSpec.witness6 (enc := enc) (C := Try.checked) false ⟨#[], #[.slice none 0 0, .int .i64 0, .int .i64 0], []⟩ 8 (by kernel_rfl) (by kernel_rfl) (by kernel_rfl) (by kernel_rfl)) ?_
  intro W base args ds gs before hval0 hW hcnd _
  have hval : ∀ (j : Nat) t v, Try.f9.params[j]? = some t → args[j]? = some v → Value.okWide Try.prog W .any base t v := hval0
  have hW' := hW
  obtain ⟨p, q, hA0, hV, rfl, _, _⟩ := hW
  have hA : DataW.TrodAll enc Try.prog W 0 (fun _ => true) true Try.f9.params.toList args.toList ds p := hA0
  rw [Try.params9] at hA hval
  obtain ⟨v0, v1, v2, d0, d1, d2, p0, p1, p2, rfl, rfl, rfl, h0, h1, h2⟩ := trodAll_three hA
  obtain ⟨A0, cap0, X0, rfl, hr0, hg0, hc0, h80⟩ := open_sms (hval 0 22 v0 rfl rfl) h0
  obtain ⟨n1, rfl, _, _, hw1⟩ := open_int Try.underlying3 (hval 1 3 v1 rfl rfl) h1
  have hi1 := wf_i64 hw1
  obtain ⟨n2, rfl, _, _, hw2⟩ := open_int Try.underlying3 (hval 2 3 v2 rfl rfl) h2
  have hi2 := wf_i64 hw2
  obtain ⟨rfl, _⟩ := trodVars_none hV
  refine (w_lawMs X0 hr0 hc0 h80 n1 hi1.1 hi1.2 n2 hi2.1 hi2.2).mono fun e W' ⟨he, hw⟩ => ?_
  exact ⟨_, he, law_post (tb := 4) laidOut (by kernel_rfl) hW' rfl rfl rfl Try.underlying4 hw.below⟩

theorem fraudMeasures_holds : Rows.FraudMeasuresSaid :=
  OpenClaim.holds_of_wide 9 Try.f9 rfl rfl rfl rfl rfl rfl rfl ⟨rfl, rfl, rfl, rfl, rfl⟩ rfl rfl rfl rfl rfl (by kernel_rfl) Try.func9 (by kernel_rfl)
    (of_decide_eq_true (by kernel_rfl)) (by unfold Func.isWrapper; first | (rw [if_pos (by decide +kernel)]; kernel_rfl) | (rw [if_neg (by decide +kernel)]; exact ⟨rfl, rfl⟩))
    (fun os started H enc _ => fraudMeasures_lifted os started H enc)
#print axioms fraudMeasures_holds
end Go.Proofs.Ytpcfgoadkfajfaa
