/- Proved: the law SessionPeriods of package royaltylaw08 returns true for every input, and its arguments read afterwards as before (the streams of a period are those of the reference, and each stream is in exactly one period, its own); the table of the lengths of months is as the program's text lays it. -/
import Derived.Test.YtmndhiaaolfepaaDoorShut
import Derived.Test.YtmndhiaaolfepaaDoorWalkT
import Derived.Test.YtmndhiaaolfepaaDoorCards
import Derived.Test.YtmndhiaaolfepaaDoorTie
import Derived.SevenTiedAt
import Derived.Stop.Joined
namespace Go.Proofs.YtmndhiaaolfepaaDoor
set_option linter.all false
open Go Go.RowKit Go.ChangeShapes Go.WideShapes
set_option maxRecDepth 100000 in
theorem sessionPeriods_lifted (os : Os) (started : os.Started) (H : Type) (enc : TypeId × Value → H) :
    ReturnsInHanded {} Tryd.checked os 3 .any (fun w args => (Rows.sessionPeriodsSpec.pre enc Tryd.prog Tryd.f3 [] false w args ∧ laidMetH Tryd.prog laid w) ∧ sizedMet enc Tryd.prog Tryd.f3 (OpenSpec.ofChange Rows.sessionPeriodsSpec) false w args)
      (Rows.sessionPeriodsSpec.post enc Tryd.prog Tryd.f3 false true false false) := by
  refine returnsInHanded_of_change_and (C := Tryd.checked) (X := fun w _ => laidMetH Tryd.prog laid w) (fun _ _ _ hh h => h.of_heap hh) own started (by kernel_rfl) Tryd.func3
    (ChangeSpec.witness_shaped (enc := enc) (C := Tryd.checked) (os := os) (X := fun w _ => laidMetH Tryd.prog laid w) false (World.doorLaid Tryd.prog 400 os) #[.slice none 0 0, .slice none 0 0, .int .i64 0] 8 rfl (World.shaped_of_RefB (by kernel_rfl) (by kernel_rfl)) (by kernel_rfl) (by kernel_rfl) (by kernel_rfl) (door_met os _)) ?_
  intro W base args ds gs before hval0 hW _ _ hL _
  have hval : ∀ (j : Nat) t v, Tryd.f3.params[j]? = some t → args[j]? = some v → Value.okWide Tryd.prog W .any base t v := hval0
  have hW' := hW
  obtain ⟨p, q, hA0, hV, rfl, _, _⟩ := hW
  have hA : DataW.TrodAll enc Tryd.prog W 0 (fun _ => true) true Tryd.f3.params.toList args.toList ds p := hA0
  rw [Tryd.params3] at hA hval
  obtain ⟨v0, v1, v2, d0, d1, d2, p0, p1, p2, rfl, rfl, rfl, h0, h1, h2⟩ := trodAll_three hA
  obtain ⟨A0, cap0, fs0, rfl, hr0, hn0, hx0⟩ := open_facts (hval 0 22 v0 rfl rfl) h0
  obtain ⟨A1, cap1, ss1, rfl, hr1, hc1⟩ := open_streams (hval 1 23 v1 rfl rfl) h1
  obtain ⟨n2, rfl, _, _, _⟩ := open_int Tryd.underlying3 (hval 2 3 v2 rfl rfl) h2
  obtain ⟨rfl, _⟩ := trodVars_none hV
  have hG := lens_of_laid hL
  refine (w_periods fs0 ss1 n2 hG hr0 hn0 hx0 hr1 hc1).mono fun e W' ⟨he, hw⟩ => ?_
  exact ⟨_, he, law_post (tb := 4) laidOut (by kernel_rfl) hW' rfl rfl rfl Tryd.underlying4 hw.below⟩

theorem sessionPeriods_said : Rows.SessionPeriodsSaid :=
  OpenClaim.holds_of_wide 3 Tryd.f3 rfl rfl rfl rfl rfl rfl rfl ⟨rfl, rfl, rfl, rfl, rfl⟩ rfl rfl rfl rfl rfl (by kernel_rfl) Tryd.func3 (by kernel_rfl)
    (of_decide_eq_true (by kernel_rfl)) (by unfold Func.isWrapper; first | (rw [if_pos (by decide +kernel)]; kernel_rfl) | (rw [if_neg (by decide +kernel)]; exact ⟨rfl, rfl⟩))
    (fun os started H enc _ => sessionPeriods_lifted os started H enc)
theorem sessionPeriods_holds : Rows.SessionPeriodsCardSaid :=
  Claim7.holds_tied_plain_at .later [] [.data] true (true, "5f790156d90288c4a5167b1843711d486acc4973f88d7d8fd58e6086039a24aa") false
    sessionPeriods_said (fun _ h => by cases h) (by kernel_rfl) (fun _ h => by cases h) sessionPeriods_row_tie rfl ⟨rfl, rfl⟩ (by kernel_rfl) rfl
    (fun f fn hf hfn => by
      obtain rfl : f = 3 := Option.some.inj ((show Tryd.prog.funcNamed "royalty/royaltylaw08.SessionPeriods" = some 3 by kernel_rfl).symm.trans hf) |>.symm
      obtain rfl : fn = Tryd.f3 := (Option.some.inj (Tryd.func3.symm.trans hfn)).symm
      exact ⟨by kernel_rfl, fun j t ht => by
        rw [Tryd.params3] at ht
        have hm : t ∈ [22, 23, 3] := by simpa using Array.mem_of_getElem? ht
        have hall : ([22, 23, 3].all fun u => !Tryd.prog.wantsStandIn u) = true := by kernel_rfl
        exact (show Tryd.prog.wantsStandIn t = false by simpa using List.all_eq_true.1 hall t hm)⟩)
    (by kernel_rfl)
#print axioms sessionPeriods_holds
end Go.Proofs.YtmndhiaaolfepaaDoor
