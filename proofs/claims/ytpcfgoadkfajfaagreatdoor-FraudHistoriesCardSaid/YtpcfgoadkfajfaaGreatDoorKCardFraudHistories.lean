/- Proved: the law FraudHistories of package royaltylaw11 returns true for every input, and its arguments read afterwards as before (the marks of streams depend on which facts a history holds alone, not on their order, nor on how often a fact comes); the table of the lengths of months is as the program's text lays it. -/
import Derived.Test.YtpcfgoadkfajfaaGreatDoorK14
import Derived.Test.YtpcfgoadkfajfaaGreatDoorCards
import Derived.Test.YtpcfgoadkfajfaaGreatDoorTie
import Derived.SevenTiedAt
import Derived.Stop.Joined
namespace Go.Proofs.YtpcfgoadkfajfaaGreatDoor
set_option linter.all false
open Go Go.RowKit Go.ChangeShapes Go.WideShapes
set_option maxRecDepth 100000 in
theorem fraudHistories_lifted (os : Os) (started : os.Started) (H : Type) (enc : TypeId × Value → H) :
    ReturnsInHanded {} Tryz.checked os 3 .any (fun w args => (Rows.fraudHistoriesSpec.pre enc Tryz.prog Tryz.f3 [] false w args ∧ laidMetH Tryz.prog laid w) ∧ sizedMet enc Tryz.prog Tryz.f3 (OpenSpec.ofChange Rows.fraudHistoriesSpec) false w args)
      (Rows.fraudHistoriesSpec.post enc Tryz.prog Tryz.f3 false true false false) := by
  refine returnsInHanded_of_change_and (C := Tryz.checked) (X := fun w _ => laidMetH Tryz.prog laid w) (fun _ _ _ hh h => h.of_heap hh) own started (by kernel_rfl) Tryz.func3
    (ChangeSpec.witness_shaped (enc := enc) (C := Tryz.checked) (os := os) (X := fun w _ => laidMetH Tryz.prog laid w) false (World.doorLaid Tryz.prog 400 os) #[.slice none 0 0, .slice none 0 0, .slice none 0 0] 8 rfl (World.shaped_of_RefB (by kernel_rfl) (by kernel_rfl)) (by kernel_rfl) (by kernel_rfl) (by kernel_rfl) (door_met os _)) ?_
  intro W base args ds gs before hval0 hW _ _ hL _
  have hval : ∀ (j : Nat) t v, Tryz.f3.params[j]? = some t → args[j]? = some v → Value.okWide Tryz.prog W .any base t v := hval0
  have hW' := hW
  obtain ⟨p, q, hA0, hV, rfl, _, _⟩ := hW
  have hA : DataW.TrodAll enc Tryz.prog W 0 (fun _ => true) true Tryz.f3.params.toList args.toList ds p := hA0
  rw [Tryz.params3] at hA hval
  obtain ⟨v0, v1, v2, d0, d1, d2, p0, p1, p2, rfl, rfl, rfl, h0, h1, h2⟩ := trodAll_three hA
  obtain ⟨A0, cap0, X0, rfl, hr0, hg0, hc0, h80⟩ := open_fcs (hval 0 22 v0 rfl rfl) h0
  obtain ⟨A1, cap1, X1, rfl, hr1, hg1, hc1, h81⟩ := open_rus (hval 1 23 v1 rfl rfl) h1
  obtain ⟨A2, cap2, X2, rfl, hr2, hg2, hc2, h82⟩ := open_ints (hval 2 24 v2 rfl rfl) h2
  obtain ⟨rfl, _⟩ := trodVars_none hV
  have hG := lens_of_laid hL
  refine (w_lawHi X0 hr0 h80 X1 hr1 hc1 h81 X2 hr2 h82 (fun x hx => hg2 x hx) hG).mono fun e W' ⟨he, hw⟩ => ?_
  exact ⟨_, he, law_post (tb := 4) laidOut (by kernel_rfl) hW' rfl rfl rfl Tryz.underlying4 hw.below⟩

theorem fraudHistories_said : Rows.FraudHistoriesSaid :=
  OpenClaim.holds_of_wide 3 Tryz.f3 rfl rfl rfl rfl rfl rfl rfl ⟨rfl, rfl, rfl, rfl, rfl⟩ rfl rfl rfl rfl rfl (by kernel_rfl) Tryz.func3 (by kernel_rfl)
    (of_decide_eq_true (by kernel_rfl)) (by unfold Func.isWrapper; first | (rw [if_pos (by decide +kernel)]; kernel_rfl) | (rw [if_neg (by decide +kernel)]; exact ⟨rfl, rfl⟩))
    (fun os started H enc _ => fraudHistories_lifted os started H enc)
theorem fraudHistories_holds : Rows.FraudHistoriesCardSaid :=
  Claim7.holds_tied_plain_at .later [] [.data] true (true, "067b25b95326dce088241549124532ea4d5d7407f71d2f329a8e2c5a1d2d9b97") false
    fraudHistories_said (fun _ h => by cases h) (by kernel_rfl) (fun _ h => by cases h) fraudHistories_row_tie rfl ⟨rfl, rfl⟩ (by kernel_rfl) rfl
    (fun f fn hf hfn => by
      obtain rfl : f = 3 := Option.some.inj ((show Tryz.prog.funcNamed "royalty/royaltylaw11.FraudHistories" = some 3 by kernel_rfl).symm.trans hf) |>.symm
      obtain rfl : fn = Tryz.f3 := (Option.some.inj (Tryz.func3.symm.trans hfn)).symm
      exact ⟨by kernel_rfl, fun j t ht => by
        rw [Tryz.params3] at ht
        have hm : t ∈ [22, 23, 24] := by simpa using Array.mem_of_getElem? ht
        have hall : ([22, 23, 24].all fun u => !Tryz.prog.wantsStandIn u) = true := by kernel_rfl
        exact (show Tryz.prog.wantsStandIn t = false by simpa using List.all_eq_true.1 hall t hm)⟩)
    (by kernel_rfl)
#print axioms fraudHistories_holds
end Go.Proofs.YtpcfgoadkfajfaaGreatDoor
