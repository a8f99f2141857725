/- Proved: the law FraudOrder of package royaltylaw11 returns true for every input, and its arguments read afterwards as before (the order of streams and rules makes no difference to the mark of any stream). No condition. -/
import Derived.Test.YtpcfgoadkfajfaaKGW
import Derived.Test.YtpcfgoadkfajfaaK10
import Derived.Test.YtpcfgoadkfajfaaKPrs
namespace Go.Proofs.Ytpcfgoadkfajfaa
set_option linter.all false
open Go Go.RowKit Go.ChangeShapes Go.WideShapes
set_option maxRecDepth 100000 in
theorem fraudOrder_lifted (os : Os) (started : os.Started) (H : Type) (enc : TypeId × Value → H) :
    ReturnsInHanded {} Try.checked os 5 .any (Rows.fraudOrderSpec.pre6 enc Try.prog Try.f5 Rows.fraudOrderRow.domain false) (Rows.fraudOrderSpec.post enc Try.prog Try.f5 false true false false) := by
  refine returnsInHanded_of_change (C := Try.checked) own started (by kernel_rfl) Try.func5
    (ChangeSpec.witness6 (enc := enc) (C := Try.checked) false ⟨#[], #[.slice none 0 0, .slice none 0 0, .slice none 0 0], []⟩ 8 (by kernel_rfl) (by kernel_rfl) (by kernel_rfl) (by kernel_rfl)) ?_
  intro W base args ds gs before hval0 hW hcnd _
  have hval : ∀ (j : Nat) t v, Try.f5.params[j]? = some t → args[j]? = some v → Value.okWide Try.prog W .any base t v := hval0
  have hW' := hW
  obtain ⟨p, q, hA0, hV, rfl, _, _⟩ := hW
  have hA : DataW.TrodAll enc Try.prog W 0 (fun _ => true) true Try.f5.params.toList args.toList ds p := hA0
  rw [Try.params5] at hA hval
  obtain ⟨v0, v1, v2, d0, d1, d2, p0, p1, p2, rfl, rfl, rfl, h0, h1, h2⟩ := trodAll_three hA
  obtain ⟨A0, cap0, X0, rfl, hr0, hg0, hc0, h80⟩ := open_rus (hval 0 30 v0 rfl rfl) h0
  obtain ⟨A1, cap1, X1, rfl, hr1, hg1, hc1, h81⟩ := open_sms (hval 1 22 v1 rfl rfl) h1
  obtain ⟨A2, cap2, X2, rfl, hr2, hg2, hc2, h82⟩ := open_prs (hval 2 41 v2 rfl rfl) h2
  obtain ⟨rfl, _⟩ := trodVars_none hV
  refine (w_lawOr X0 hr0 hc0 h80 X1 hr1 hc1 h81 X2 hr2 h82 (fun p hp => hg2 p hp)).mono fun e W' ⟨he, hw⟩ => ?_
  exact ⟨_, he, law_post (tb := 4) laidOut (by kernel_rfl) hW' rfl rfl rfl Try.underlying4 hw.below⟩

theorem fraudOrder_holds : Rows.FraudOrderSaid :=
  OpenClaim.holds_of_wide 5 Try.f5 rfl rfl rfl rfl rfl rfl rfl ⟨rfl, rfl, rfl, rfl, rfl⟩ rfl rfl rfl rfl rfl (by kernel_rfl) Try.func5 (by kernel_rfl)
    (of_decide_eq_true (by kernel_rfl)) (by unfold Func.isWrapper; first | (rw [if_pos (by decide +kernel)]; kernel_rfl) | (rw [if_neg (by decide +kernel)]; exact ⟨rfl, rfl⟩))
    (fun os started H enc _ => fraudOrder_lifted os started H enc)
#print axioms fraudOrder_holds
end Go.Proofs.Ytpcfgoadkfajfaa
