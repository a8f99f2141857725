/- Proved: the law TranslogEqual of package royaltylaw24 returns true for every input, and its arguments read afterwards as before (two logs have the same root exactly if they have the same statements in the same order, or two different strings have the same digest); the table of the digest's rounds is as the program's text lays it. -/
import Derived.Test.YtnadipjlhlbfoaaDoorK11
import Derived.Test.YtnadipjlhlbfoaaDoorKV28
import Derived.Test.YtnadipjlhlbfoaaDoorCards
import Derived.Test.YtnadipjlhlbfoaaDoorTie
import Derived.SevenTiedAt
import Derived.Stop.Joined
namespace Go.Proofs.YtnadipjlhlbfoaaDoor
set_option linter.all false
open Go Go.RowKit Go.ChangeShapes Go.WideShapes
set_option maxRecDepth 100000 in
theorem translogEqual_lifted (os : Os) (started : os.Started) (H : Type) (enc : TypeId × Value → H) :
    ReturnsInHanded {} Tryd.checked os 6 .any (fun w args => (Rows.translogEqualSpec.pre enc Tryd.prog Tryd.f6 [] false w args ∧ laidMetH Tryd.prog laid w) ∧ sizedMet enc Tryd.prog Tryd.f6 (OpenSpec.ofChange Rows.translogEqualSpec) false w args)
      (Rows.translogEqualSpec.post enc Tryd.prog Tryd.f6 false true false false) := by
  refine returnsInHanded_of_change_and (C := Tryd.checked) (X := fun w _ => laidMetH Tryd.prog laid w) (fun _ _ _ hh h => h.of_heap hh) own started (by kernel_rfl) Tryd.func6
    (ChangeSpec.witness_shaped (enc := enc) (C := Tryd.checked) (os := os) (X := fun w _ => laidMetH Tryd.prog laid w) false (World.doorLaid Tryd.prog 400 os) #[.slice none 0 0, .slice none 0 0, .int .i64 0] 8 rfl (World.shaped_of_RefB (by kernel_rfl) (by kernel_rfl)) (by kernel_rfl) (by kernel_rfl) (by kernel_rfl) (door_met os _)) ?_
  intro W base args ds gs before hval0 hW _ _ hL _
  have hval : ∀ (j : Nat) t v, Tryd.f6.params[j]? = some t → args[j]? = some v → Value.okWide Tryd.prog W .any base t v := hval0
  have hW' := hW
  obtain ⟨p, q, hA0, hV, rfl, _, _⟩ := hW
  have hA : DataW.TrodAll enc Tryd.prog W 0 (fun _ => true) true Tryd.f6.params.toList args.toList ds p := hA0
  rw [Tryd.params6] at hA hval
  obtain ⟨v0, v1, v2, d0, d1, d2, p0, p1, p2, rfl, rfl, rfl, h0, h1, h2⟩ := trodAll_three hA
  obtain ⟨A0, cap0, X0, rfl, hr0, hX0, hc0, h80, hl0⟩ := open_stms (hval 0 22 v0 rfl rfl) h0
  obtain ⟨A1, cap1, X1, rfl, hr1, hX1, hc1, h81, hl1⟩ := open_stms (hval 1 22 v1 rfl rfl) h1
  obtain ⟨n2, rfl, _, _, hw2⟩ := open_int Tryd.underlying3 (hval 2 3 v2 rfl rfl) h2
  have hi2 := wf_i64 hw2
  obtain ⟨rfl, _⟩ := trodVars_none hV
  have hG := rounds_of_laid hL
  refine (w_equal X0 X1 hr0 hX0 hc0 h80 hl0 hr1 hX1 hc1 h81 hl1 hG n2 hi2.1 hi2.2).mono fun e W' ⟨he, hw⟩ => ?_
  exact ⟨_, he, law_post (tb := 4) laidOut (by kernel_rfl) hW' rfl rfl rfl Tryd.underlying4 hw.below⟩

theorem translogEqual_said : Rows.TranslogEqualSaid :=
  OpenClaim.holds_of_wide 6 Tryd.f6 rfl rfl rfl rfl rfl rfl rfl ⟨rfl, rfl, rfl, rfl, rfl⟩ rfl rfl rfl rfl rfl (by kernel_rfl) Tryd.func6 (by kernel_rfl)
    (of_decide_eq_true (by kernel_rfl)) (by unfold Func.isWrapper; first | (rw [if_pos (by decide +kernel)]; kernel_rfl) | (rw [if_neg (by decide +kernel)]; exact ⟨rfl, rfl⟩))
    (fun os started H enc _ => translogEqual_lifted os started H enc)
theorem translogEqual_holds : Rows.TranslogEqualCardSaid :=
  Claim7.holds_tied_plain_at .later [] [.data] true (true, "2d0e976346e60979704dc571e3c5d4eaea94857510e388b95b1eefbf14baf190") false
    translogEqual_said (fun _ h => by cases h) (by kernel_rfl) (fun _ h => by cases h) translogEqual_row_tie rfl ⟨rfl, rfl⟩ (by kernel_rfl) rfl
    (fun f fn hf hfn => by
      obtain rfl : f = 6 := Option.some.inj ((show Tryd.prog.funcNamed "royalty/royaltylaw24.TranslogEqual" = some 6 by kernel_rfl).symm.trans hf) |>.symm
      obtain rfl : fn = Tryd.f6 := (Option.some.inj (Tryd.func6.symm.trans hfn)).symm
      exact ⟨by kernel_rfl, fun j t ht => by
        rw [Tryd.params6] at ht
        have hm : t ∈ [22, 22, 3] := by simpa using Array.mem_of_getElem? ht
        have hall : ([22, 22, 3].all fun u => !Tryd.prog.wantsStandIn u) = true := by kernel_rfl
        exact (show Tryd.prog.wantsStandIn t = false by simpa using List.all_eq_true.1 hall t hm)⟩)
    (by kernel_rfl)
#print axioms translogEqual_holds
end Go.Proofs.YtnadipjlhlbfoaaDoor
