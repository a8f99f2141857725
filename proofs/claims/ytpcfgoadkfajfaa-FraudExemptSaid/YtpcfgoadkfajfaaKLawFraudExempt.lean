/- Proved: the law FraudExempt of package royaltylaw11 returns true for every input, and its arguments read afterwards as before (a stream of an exempt account is Valid, and a mark that was given by hand prevails, whatever the rules say; nothing else of a stream changes). No condition. -/
import Derived.Test.YtpcfgoadkfajfaaKGU
import Derived.Test.YtpcfgoadkfajfaaK10
namespace Go.Proofs.Ytpcfgoadkfajfaa
set_option linter.all false
open Go Go.RowKit Go.ChangeShapes Go.WideShapes
set_option maxRecDepth 100000 in
theorem fraudExempt_lifted (os : Os) (started : os.Started) (H : Type) (enc : TypeId × Value → H) :
    ReturnsInHanded {} Try.checked os 8 .any (Rows.fraudExemptSpec.pre6 enc Try.prog Try.f8 Rows.fraudExemptRow.domain false) (Rows.fraudExemptSpec.post enc Try.prog Try.f8 false true false false) := by
  refine returnsInHanded_of_change (C := Try.checked) own started (by kernel_rfl) Try.func8
    (ChangeSpec.witness6 (enc := enc) (C := Try.checked) false ⟨#[], #[.slice none 0 0, .slice none 0 0, .int .i64 0, .slice none 0 0], []⟩ 8 (by kernel_rfl) (by kernel_rfl) (by kernel_rfl) (by kernel_rfl)) ?_
  intro W base args ds gs before hval0 hW hcnd _
  have hval : ∀ (j : Nat) t v, Try.f8.params[j]? = some t → args[j]? = some v → Value.okWide Try.prog W .any base t v := hval0
  have hW' := hW
  obtain ⟨p, q, hA0, hV, rfl, _, _⟩ := hW
  have hA : DataW.TrodAll enc Try.prog W 0 (fun _ => true) true Try.f8.params.toList args.toList ds p := hA0
  rw [Try.params8] at hA hval
  obtain ⟨v0, v1, v2, v3, d0, d1, d2, d3, p0, p1, p2, p3, rfl, rfl, rfl, h0, h1, h2, h3⟩ := trodAll_four hA
  obtain ⟨A0, cap0, X0, rfl, hr0, hg0, hc0, h80⟩ := open_rus (hval 0 30 v0 rfl rfl) h0
  obtain ⟨A1, cap1, X1, rfl, hr1, hg1, hc1, h81⟩ := open_sms (hval 1 22 v1 rfl rfl) h1
  obtain ⟨n2, rfl, _, _, hw2⟩ := open_int Try.underlying3 (hval 2 3 v2 rfl rfl) h2
  have hi2 := wf_i64 hw2
  obtain ⟨A3, cap3, X3, rfl, hr3, hg3, hc3, h83⟩ := open_fcs (hval 3 31 v3 rfl rfl) h3
  obtain ⟨rfl, _⟩ := trodVars_none hV
  refine (w_lawEx X0 hr0 hc0 h80 X1 hr1 hc1 h81 n2 hi2.1 hi2.2 X3 hr3 hc3 h83).mono fun e W' ⟨he, hw⟩ => ?_
  exact ⟨_, he, law_post (tb := 4) laidOut (by kernel_rfl) hW' rfl rfl rfl Try.underlying4 hw.below⟩

theorem fraudExempt_holds : Rows.FraudExemptSaid :=
  OpenClaim.holds_of_wide 8 Try.f8 rfl rfl rfl rfl rfl rfl rfl ⟨rfl, rfl, rfl, rfl, rfl⟩ rfl rfl rfl rfl rfl (by kernel_rfl) Try.func8 (by kernel_rfl)
    (of_decide_eq_true (by kernel_rfl)) (by unfold Func.isWrapper; first | (rw [if_pos (by decide +kernel)]; kernel_rfl) | (rw [if_neg (by decide +kernel)]; exact ⟨rfl, rfl⟩))
    (fun os started H enc _ => fraudExempt_lifted os started H enc)
#print axioms fraudExempt_holds
end Go.Proofs.Ytpcfgoadkfajfaa
