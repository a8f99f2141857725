/- Proved: the law FraudKinds of package royaltylaw11 returns true for every input, and its arguments read afterwards as before (by an account all streams have one account, by a device one device; measures of other kinds are 0; rules that are not valid have no effect). No condition. -/
import Derived.Test.YtpcfgoadkfajfaaKGV
import Derived.Test.YtpcfgoadkfajfaaK10
import Derived.Test.YtpcfgoadkfajfaaKFive
namespace Go.Proofs.Ytpcfgoadkfajfaa
set_option linter.all false
open Go Go.RowKit Go.ChangeShapes Go.WideShapes
set_option maxRecDepth 100000 in
theorem fraudKinds_lifted (os : Os) (started : os.Started) (H : Type) (enc : TypeId × Value → H) :
    ReturnsInHanded {} Try.checked os 10 .any (Rows.fraudKindsSpec.pre6 enc Try.prog Try.f10 Rows.fraudKindsRow.domain false) (Rows.fraudKindsSpec.post enc Try.prog Try.f10 false true false false) := by
  refine returnsInHanded_of_change (C := Try.checked) own started (by kernel_rfl) Try.func10
    (ChangeSpec.witness6 (enc := enc) (C := Try.checked) false ⟨#[], #[.slice none 0 0, .int .i64 0, .int .i64 0, .int .i64 0, .slice none 0 0], []⟩ 8 (by kernel_rfl) (by kernel_rfl) (by kernel_rfl) (by kernel_rfl)) ?_
  intro W base args ds gs before hval0 hW hcnd _
  have hval : ∀ (j : Nat) t v, Try.f10.params[j]? = some t → args[j]? = some v → Value.okWide Try.prog W .any base t v := hval0
  have hW' := hW
  obtain ⟨p, q, hA0, hV, rfl, _, _⟩ := hW
  have hA : DataW.TrodAll enc Try.prog W 0 (fun _ => true) true Try.f10.params.toList args.toList ds p := hA0
  rw [Try.params10] at hA hval
  obtain ⟨v0, v1, v2, v3, v4, d0, d1, d2, d3, d4, p0, p1, p2, p3, p4, rfl, rfl, rfl, h0, h1, h2, h3, h4⟩ := trodAll_five hA
  obtain ⟨A0, cap0, X0, rfl, hr0, hg0, hc0, h80⟩ := open_sms (hval 0 22 v0 rfl rfl) h0
  obtain ⟨n1, rfl, _, _, hw1⟩ := open_int Try.underlying3 (hval 1 3 v1 rfl rfl) h1
  have hi1 := wf_i64 hw1
  obtain ⟨n2, rfl, _, _, hw2⟩ := open_int Try.underlying3 (hval 2 3 v2 rfl rfl) h2
  have hi2 := wf_i64 hw2
  obtain ⟨n3, rfl, _, _, hw3⟩ := open_int Try.underlying3 (hval 3 3 v3 rfl rfl) h3
  have hi3 := wf_i64 hw3
  obtain ⟨A4, cap4, X4, rfl, hr4, hg4, hc4, h84⟩ := open_rus (hval 4 30 v4 rfl rfl) h4
  obtain ⟨rfl, _⟩ := trodVars_none hV
  refine (w_lawKi X0 hr0 hc0 h80 n1 hi1.1 hi1.2 n2 n3 X4 hr4 hc4 h84 (fun f hf => hg4 f hf)).mono fun e W' ⟨he, hw⟩ => ?_
  exact ⟨_, he, law_post (tb := 4) laidOut (by kernel_rfl) hW' rfl rfl rfl Try.underlying4 hw.below⟩

theorem fraudKinds_holds : Rows.FraudKindsSaid :=
  OpenClaim.holds_of_wide 10 Try.f10 rfl rfl rfl rfl rfl rfl rfl ⟨rfl, rfl, rfl, rfl, rfl⟩ rfl rfl rfl rfl rfl (by kernel_rfl) Try.func10 (by kernel_rfl)
    (of_decide_eq_true (by kernel_rfl)) (by unfold Func.isWrapper; first | (rw [if_pos (by decide +kernel)]; kernel_rfl) | (rw [if_neg (by decide +kernel)]; exact ⟨rfl, rfl⟩))
    (fun os started H enc _ => fraudKinds_lifted os started H enc)
#print axioms fraudKinds_holds
end Go.Proofs.Ytpcfgoadkfajfaa
