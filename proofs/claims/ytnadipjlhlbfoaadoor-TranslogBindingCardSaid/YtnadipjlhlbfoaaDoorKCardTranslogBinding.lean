/- Proved: the law TranslogBinding of package royaltylaw24 returns true for every input, and its arguments read afterwards as before (if a changed proof is accepted for the root of a log, for the same Count and Index, it has the same statement, or two different strings have the same digest); the table of the digest's rounds is as the program's text lays it. -/
import Derived.Test.YtnadipjlhlbfoaaDoorK11
import Derived.Test.YtnadipjlhlbfoaaDoorKV29
import Derived.Test.YtnadipjlhlbfoaaDoorKFive
import Derived.Test.YtnadipjlhlbfoaaDoorCards
import Derived.Test.YtnadipjlhlbfoaaDoorTie
import Derived.SevenTiedAt
import Derived.Stop.Joined
namespace Go.Proofs.YtnadipjlhlbfoaaDoor
set_option linter.all false
open Go Go.RowKit Go.ChangeShapes Go.WideShapes
set_option maxRecDepth 100000 in
theorem translogBinding_lifted (os : Os) (started : os.Started) (H : Type) (enc : TypeId × Value → H) :
    ReturnsInHanded {} Tryd.checked os 4 .any (fun w args => (Rows.translogBindingSpec.pre enc Tryd.prog Tryd.f4 [] false w args ∧ laidMetH Tryd.prog laid w) ∧ sizedMet enc Tryd.prog Tryd.f4 (OpenSpec.ofChange Rows.translogBindingSpec) false w args)
      (Rows.translogBindingSpec.post enc Tryd.prog Tryd.f4 false true false false) := by
  refine returnsInHanded_of_change_and (C := Tryd.checked) (X := fun w _ => laidMetH Tryd.prog laid w) (fun _ _ _ hh h => h.of_heap hh) own started (by kernel_rfl) Tryd.func4
    (ChangeSpec.witness_shaped (enc := enc) (C := Tryd.checked) (os := os) (X := fun w _ => laidMetH Tryd.prog laid w) false (World.doorLaid Tryd.prog 400 os) #[.slice none 0 0, .int .i64 0, .agg #[.int .i64 0, .int .i64 0, .slice none 0 0], .string .empty, .string .empty] 8 rfl (World.shaped_of_RefB (by kernel_rfl) (by kernel_rfl)) (by kernel_rfl) (by kernel_rfl) (by kernel_rfl) (door_met os _)) ?_
  intro W base args ds gs before hval0 hW _ _ hL _
  have hval : ∀ (j : Nat) t v, Tryd.f4.params[j]? = some t → args[j]? = some v → Value.okWide Tryd.prog W .any base t v := hval0
  have hW' := hW
  obtain ⟨p, q, hA0, hV, rfl, _, _⟩ := hW
  have hA : DataW.TrodAll enc Tryd.prog W 0 (fun _ => true) true Tryd.f4.params.toList args.toList ds p := hA0
  rw [Tryd.params4] at hA hval
  obtain ⟨v0, v1, v2, v3, v4, d0, d1, d2, d3, d4, p0, p1, p2, p3, p4, rfl, rfl, rfl, h0, h1, h2, h3, h4⟩ := trodAll_five hA
  obtain ⟨A0, cap0, X0, rfl, hr0, hX0, hc0, h80, hl0⟩ := open_stms (hval 0 22 v0 rfl rfl) h0
  obtain ⟨n1, rfl, _, _, hw1⟩ := open_int Tryd.underlying3 (hval 1 3 v1 rfl rfl) h1
  have hi1 := wf_i64 hw1
  obtain ⟨x2, rfl, hr2, hc2, hl2⟩ := open_one (hval 2 34 v2 rfl rfl) h2
  obtain ⟨s3, rfl, hs3⟩ := open_string (hval 3 9 v3 rfl rfl) h3
  obtain ⟨s4, rfl, hs4⟩ := open_string (hval 4 9 v4 rfl rfl) h4
  obtain ⟨rfl, _⟩ := trodVars_none hV
  have hG := rounds_of_laid hL
  refine (w_binding X0 n1 x2 s3 s4 hr0 hX0 hc0 h80 hl0 hr2 hc2 hl2 hs3 hs4 hG hi1.1 hi1.2).mono fun e W' ⟨he, hw⟩ => ?_
  exact ⟨_, he, law_post (tb := 4) laidOut (by kernel_rfl) hW' rfl rfl rfl Tryd.underlying4 hw.below⟩

theorem translogBinding_said : Rows.TranslogBindingSaid :=
  OpenClaim.holds_of_wide 4 Tryd.f4 rfl rfl rfl rfl rfl rfl rfl ⟨rfl, rfl, rfl, rfl, rfl⟩ rfl rfl rfl rfl rfl (by kernel_rfl) Tryd.func4 (by kernel_rfl)
    (of_decide_eq_true (by kernel_rfl)) (by unfold Func.isWrapper; first | (rw [if_pos (by decide +kernel)]; kernel_rfl) | (rw [if_neg (by decide +kernel)]; exact ⟨rfl, rfl⟩))
    (fun os started H enc _ => translogBinding_lifted os started H enc)
theorem translogBinding_holds : Rows.TranslogBindingCardSaid :=
  Claim7.holds_tied_plain_at .later [] [.data] true (true, "2d0e976346e60979704dc571e3c5d4eaea94857510e388b95b1eefbf14baf190") false
    translogBinding_said (fun _ h => by cases h) (by kernel_rfl) (fun _ h => by cases h) translogBinding_row_tie rfl ⟨rfl, rfl⟩ (by kernel_rfl) rfl
    (fun f fn hf hfn => by
      obtain rfl : f = 4 := Option.some.inj ((show Tryd.prog.funcNamed "royalty/royaltylaw24.TranslogBinding" = some 4 by kernel_rfl).symm.trans hf) |>.symm
      obtain rfl : fn = Tryd.f4 := (Option.some.inj (Tryd.func4.symm.trans hfn)).symm
      exact ⟨by kernel_rfl, fun j t ht => by
        rw [Tryd.params4] at ht
        have hm : t ∈ [22, 3, 34, 9, 9] := by simpa using Array.mem_of_getElem? ht
        have hall : ([22, 3, 34, 9, 9].all fun u => !Tryd.prog.wantsStandIn u) = true := by kernel_rfl
        exact (show Tryd.prog.wantsStandIn t = false by simpa using List.all_eq_true.1 hall t hm)⟩)
    (by kernel_rfl)
#print axioms translogBinding_holds
end Go.Proofs.YtnadipjlhlbfoaaDoor
