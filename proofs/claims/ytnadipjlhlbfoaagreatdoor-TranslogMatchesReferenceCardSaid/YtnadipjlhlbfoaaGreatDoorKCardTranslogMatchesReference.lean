/- Proved: the law TranslogMatchesReference of package royaltylaw24 returns true for every input, and its arguments read afterwards as before (after each group of statements that is appended, the statements, the root, proofs and extensions agree with the reference implementation; Verify agrees for arbitrary proofs); the table of the digest's rounds is as the program's text lays it. -/
import Derived.Test.YtnadipjlhlbfoaaGreatDoorK14
import Derived.Test.YtnadipjlhlbfoaaGreatDoorCards
import Derived.Test.YtnadipjlhlbfoaaGreatDoorTie
import Derived.SevenTiedAt
import Derived.Stop.Joined
namespace Go.Proofs.YtnadipjlhlbfoaaGreatDoor
set_option linter.all false
open Go Go.RowKit Go.ChangeShapes Go.WideShapes
set_option maxRecDepth 100000 in
theorem translogMatchesReference_lifted (os : Os) (started : os.Started) (H : Type) (enc : TypeId × Value → H) :
    ReturnsInHanded {} Tryz.checked os 3 .any (fun w args => (Rows.translogMatchesReferenceSpec.pre enc Tryz.prog Tryz.f3 [] false w args ∧ laidMetH Tryz.prog laid w) ∧ sizedMet enc Tryz.prog Tryz.f3 (OpenSpec.ofChange Rows.translogMatchesReferenceSpec) false w args)
      (Rows.translogMatchesReferenceSpec.post enc Tryz.prog Tryz.f3 false true false false) := by
  refine returnsInHanded_of_change_and (C := Tryz.checked) (X := fun w _ => laidMetH Tryz.prog laid w) (fun _ _ _ hh h => h.of_heap hh) own started (by kernel_rfl) Tryz.func3
    (ChangeSpec.witness_shaped (enc := enc) (C := Tryz.checked) (os := os) (X := fun w _ => laidMetH Tryz.prog laid w) false (World.doorLaid Tryz.prog 400 os) #[.slice none 0 0, .int .i64 0, .string .empty, .agg #[.int .i64 0, .int .i64 0, .slice none 0 0, .int .i64 0, .int .i64 0, .string .empty, .slice none 0 0]] 8 rfl (World.shaped_of_RefB (by kernel_rfl) (by kernel_rfl)) (by kernel_rfl) (by kernel_rfl) (by kernel_rfl) (door_met os _)) ?_
  intro W base args ds gs before hval0 hW _ _ hL _
  have hval : ∀ (j : Nat) t v, Tryz.f3.params[j]? = some t → args[j]? = some v → Value.okWide Tryz.prog W .any base t v := hval0
  have hW' := hW
  obtain ⟨p, q, hA0, hV, rfl, _, _⟩ := hW
  have hA : DataW.TrodAll enc Tryz.prog W 0 (fun _ => true) true Tryz.f3.params.toList args.toList ds p := hA0
  rw [Tryz.params3] at hA hval
  obtain ⟨v0, v1, v2, v3, d0, d1, d2, d3, p0, p1, p2, p3, rfl, rfl, rfl, h0, h1, h2, h3⟩ := trodAll_four hA
  obtain ⟨A0, cap0, XS0, rfl, hr0, hg0, hc0⟩ := open_groups (hval 0 22 v0 rfl rfl) h0
  obtain ⟨n1, rfl, _, _, hw1⟩ := open_int Tryz.underlying3 (hval 1 3 v1 rfl rfl) h1
  have hi1 := wf_i64 hw1
  obtain ⟨s2, rfl, hs2⟩ := open_string (hval 2 9 v2 rfl rfl) h2
  obtain ⟨sp3, ip3, np3, salt3, path3, z3, rfl, hrp3, hcl3, hll3, hpp3, hcp3, hpl3, hnp3⟩ := open_proof (hval 3 28 v3 rfl rfl) h3
  obtain ⟨rfl, _⟩ := trodVars_none hV
  have hG := rounds_of_laid hL
  refine (w_matches XS0 n1 s2 sp3 ip3 np3 salt3 path3 z3 hr0 hg0 hc0 hi1.1 hi1.2 hrp3 hcl3 hll3 hpp3 hcp3 hpl3 hnp3 hG).mono fun e W' ⟨he, hw⟩ => ?_
  exact ⟨_, he, law_post (tb := 4) laidOut (by kernel_rfl) hW' rfl rfl rfl Tryz.underlying4 hw.below⟩

theorem translogMatchesReference_said : Rows.TranslogMatchesReferenceSaid :=
  OpenClaim.holds_of_wide 3 Tryz.f3 rfl rfl rfl rfl rfl rfl rfl ⟨rfl, rfl, rfl, rfl, rfl⟩ rfl rfl rfl rfl rfl (by kernel_rfl) Tryz.func3 (by kernel_rfl)
    (of_decide_eq_true (by kernel_rfl)) (by unfold Func.isWrapper; first | (rw [if_pos (by decide +kernel)]; kernel_rfl) | (rw [if_neg (by decide +kernel)]; exact ⟨rfl, rfl⟩))
    (fun os started H enc _ => translogMatchesReference_lifted os started H enc)
theorem translogMatchesReference_holds : Rows.TranslogMatchesReferenceCardSaid :=
  Claim7.holds_tied_plain_at .later [] [.data] true (true, "50748c267a33b04ff7eb6ad044899028da416683e4a872dc6ce31bc69eba34ea") false
    translogMatchesReference_said (fun _ h => by cases h) (by kernel_rfl) (fun _ h => by cases h) translogMatchesReference_row_tie rfl ⟨rfl, rfl⟩ (by kernel_rfl) rfl
    (fun f fn hf hfn => by
      obtain rfl : f = 3 := Option.some.inj ((show Tryz.prog.funcNamed "royalty/royaltylaw24.TranslogMatchesReference" = some 3 by kernel_rfl).symm.trans hf) |>.symm
      obtain rfl : fn = Tryz.f3 := (Option.some.inj (Tryz.func3.symm.trans hfn)).symm
      exact ⟨by kernel_rfl, fun j t ht => by
        rw [Tryz.params3] at ht
        have hm : t ∈ [22, 3, 9, 28] := by simpa using Array.mem_of_getElem? ht
        have hall : ([22, 3, 9, 28].all fun u => !Tryz.prog.wantsStandIn u) = true := by kernel_rfl
        exact (show Tryz.prog.wantsStandIn t = false by simpa using List.all_eq_true.1 hall t hm)⟩)
    (by kernel_rfl)
#print axioms translogMatchesReference_holds
end Go.Proofs.YtnadipjlhlbfoaaGreatDoor
