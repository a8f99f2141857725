/-
  No cell of these rows narrows 'for every input' (looked for: loops, veiled, ifaces, maps, wideKeys, modest, calm, conditions, laid).
  DERIVED. THE GIVEN ROWS OF THIS SEAT. 9 by the template 'for every input the law returns true; each argument reads behind the call as it read before'; 0 by the template 'total and deterministic' (their statements: YtpcfgoadkfajfaaTotals.lean).
  GIVEN WITH THE SEED: the statements are not yours to turn. If you find one false, say at which input.
  Laid BY PROGRAM, IN A SANDBOX (cutbox-rows.mjs): the forced cells as the released guide's own fill.sh prints them over the translation f1ae09984a75090c… (all of the seat's roots in one cut). By AI agents, Wed Nov 11 2026. No macro, syntax, notation, axiom, sorry.
-/
import Derived.Test.YtpcfgoadkfajfaaChecked
import GoSem.Claim
import GoSem.ClaimJoined
import GoSem.ClaimMapViews
import Derived.JoinedTies
import Derived.KernelRfl
namespace Go.Proofs.Ytpcfgoadkfajfaa
/- THE CELL 'sum', in the pinned program and in every row, IS THE sha256 OF THE DUMP (.gsa) THAT YtpcfgoadkfajfaaProg.lean LOADS. Nothing in Lean hashes anything: it is a label: what it is worth is what the hold of that sum in a sandbox is worth. -/
noncomputable def Try.pinned : Pinned := { name := "ytpcfgoadkfajfaa", sum := "f1ae09984a75090cf76fb9605cc3048d2c4f2cbd44622f727e1a0748a8637e19", checked := Try.checked }
namespace Rows
def none {H : Type} : Left H := { results := [], args := [] }

/-- 'royaltylaw11.FraudMeasureMatchesReference': WHATEVER THE INPUT: true; the input reads as it did. -/
def fraudMeasureMatchesReferenceSpec : ChangeSpec := { name := "fraudMeasureMatchesReference", fn := fun _ => fun
  | [d1, d2, d3, d4] => { results := [.lit (.bool true)], args := [d1, d2, d3, d4] }
  | _ => none }
def fraudMeasureMatchesReferenceRow : OpenClaim := { program := "ytpcfgoadkfajfaa", sum := "f1ae09984a75090cf76fb9605cc3048d2c4f2cbd44622f727e1a0748a8637e19", func := "royalty/royaltylaw11.FraudMeasureMatchesReference", spec := "fraudMeasureMatchesReference", unfollowed := true, recurses := true, plainKeys := false, apart := false }
def FraudMeasureMatchesReferenceSaid : Prop := fraudMeasureMatchesReferenceRow.holds Try.pinned (OpenSpec.ofChange fraudMeasureMatchesReferenceSpec)

/-- ITS FALSE NEIGHBOUR: 'it returns false'. Refute it at one input. -/
def fraudMeasureMatchesReferenceWrong : ChangeSpec := { name := "fraudMeasureMatchesReference", fn := fun _ => fun
  | [d1, d2, d3, d4] => { results := [.lit (.bool false)], args := [d1, d2, d3, d4] }
  | _ => none }
def FraudMeasureMatchesReferenceWrongFalsely : Prop := fraudMeasureMatchesReferenceRow.holds Try.pinned (OpenSpec.ofChange fraudMeasureMatchesReferenceWrong)

/-- 'royaltylaw11.FraudMatchesReference': WHATEVER THE INPUT: true; the input reads as it did. -/
def fraudMatchesReferenceSpec : ChangeSpec := { name := "fraudMatchesReference", fn := fun _ => fun
  | [d1, d2, d3] => { results := [.lit (.bool true)], args := [d1, d2, d3] }
  | _ => none }
def fraudMatchesReferenceRow : OpenClaim := { program := "ytpcfgoadkfajfaa", sum := "f1ae09984a75090cf76fb9605cc3048d2c4f2cbd44622f727e1a0748a8637e19", func := "royalty/royaltylaw11.FraudMatchesReference", spec := "fraudMatchesReference", unfollowed := true, recurses := true, plainKeys := false, apart := false }
def FraudMatchesReferenceSaid : Prop := fraudMatchesReferenceRow.holds Try.pinned (OpenSpec.ofChange fraudMatchesReferenceSpec)

/-- ITS FALSE NEIGHBOUR: 'it returns false'. Refute it at one input. -/
def fraudMatchesReferenceWrong : ChangeSpec := { name := "fraudMatchesReference", fn := fun _ => fun
  | [d1, d2, d3] => { results := [.lit (.bool false)], args := [d1, d2, d3] }
  | _ => none }
def FraudMatchesReferenceWrongFalsely : Prop := fraudMatchesReferenceRow.holds Try.pinned (OpenSpec.ofChange fraudMatchesReferenceWrong)

/-- 'royaltylaw11.FraudOrder': WHATEVER THE INPUT: true; the input reads as it did. -/
def fraudOrderSpec : ChangeSpec := { name := "fraudOrder", fn := fun _ => fun
  | [d1, d2, d3] => { results := [.lit (.bool true)], args := [d1, d2, d3] }
  | _ => none }
def fraudOrderRow : OpenClaim := { program := "ytpcfgoadkfajfaa", sum := "f1ae09984a75090cf76fb9605cc3048d2c4f2cbd44622f727e1a0748a8637e19", func := "royalty/royaltylaw11.FraudOrder", spec := "fraudOrder", unfollowed := true, recurses := true, plainKeys := false, apart := false }
def FraudOrderSaid : Prop := fraudOrderRow.holds Try.pinned (OpenSpec.ofChange fraudOrderSpec)

/-- ITS FALSE NEIGHBOUR: 'it returns false'. Refute it at one input. -/
def fraudOrderWrong : ChangeSpec := { name := "fraudOrder", fn := fun _ => fun
  | [d1, d2, d3] => { results := [.lit (.bool false)], args := [d1, d2, d3] }
  | _ => none }
def FraudOrderWrongFalsely : Prop := fraudOrderRow.holds Try.pinned (OpenSpec.ofChange fraudOrderWrong)

/-- 'royaltylaw11.FraudRules': WHATEVER THE INPUT: true; the input reads as it did. -/
def fraudRulesSpec : ChangeSpec := { name := "fraudRules", fn := fun _ => fun
  | [d1, d2, d3] => { results := [.lit (.bool true)], args := [d1, d2, d3] }
  | _ => none }
def fraudRulesRow : OpenClaim := { program := "ytpcfgoadkfajfaa", sum := "f1ae09984a75090cf76fb9605cc3048d2c4f2cbd44622f727e1a0748a8637e19", func := "royalty/royaltylaw11.FraudRules", spec := "fraudRules", unfollowed := true, recurses := true, plainKeys := false, apart := false }
def FraudRulesSaid : Prop := fraudRulesRow.holds Try.pinned (OpenSpec.ofChange fraudRulesSpec)

/-- ITS FALSE NEIGHBOUR: 'it returns false'. Refute it at one input. -/
def fraudRulesWrong : ChangeSpec := { name := "fraudRules", fn := fun _ => fun
  | [d1, d2, d3] => { results := [.lit (.bool false)], args := [d1, d2, d3] }
  | _ => none }
def FraudRulesWrongFalsely : Prop := fraudRulesRow.holds Try.pinned (OpenSpec.ofChange fraudRulesWrong)

/-- 'royaltylaw11.FraudLate': WHATEVER THE INPUT: true; the input reads as it did. -/
def fraudLateSpec : ChangeSpec := { name := "fraudLate", fn := fun _ => fun
  | [d1, d2, d3] => { results := [.lit (.bool true)], args := [d1, d2, d3] }
  | _ => none }
def fraudLateRow : OpenClaim := { program := "ytpcfgoadkfajfaa", sum := "f1ae09984a75090cf76fb9605cc3048d2c4f2cbd44622f727e1a0748a8637e19", func := "royalty/royaltylaw11.FraudLate", spec := "fraudLate", unfollowed := true, recurses := true, plainKeys := false, apart := false }
def FraudLateSaid : Prop := fraudLateRow.holds Try.pinned (OpenSpec.ofChange fraudLateSpec)

/-- ITS FALSE NEIGHBOUR: 'it returns false'. Refute it at one input. -/
def fraudLateWrong : ChangeSpec := { name := "fraudLate", fn := fun _ => fun
  | [d1, d2, d3] => { results := [.lit (.bool false)], args := [d1, d2, d3] }
  | _ => none }
def FraudLateWrongFalsely : Prop := fraudLateRow.holds Try.pinned (OpenSpec.ofChange fraudLateWrong)

/-- 'royaltylaw11.FraudExempt': WHATEVER THE INPUT: true; the input reads as it did. -/
def fraudExemptSpec : ChangeSpec := { name := "fraudExempt", fn := fun _ => fun
  | [d1, d2, d3, d4] => { results := [.lit (.bool true)], args := [d1, d2, d3, d4] }
  | _ => none }
def fraudExemptRow : OpenClaim := { program := "ytpcfgoadkfajfaa", sum := "f1ae09984a75090cf76fb9605cc3048d2c4f2cbd44622f727e1a0748a8637e19", func := "royalty/royaltylaw11.FraudExempt", spec := "fraudExempt", unfollowed := true, recurses := true, plainKeys := false, apart := false }
def FraudExemptSaid : Prop := fraudExemptRow.holds Try.pinned (OpenSpec.ofChange fraudExemptSpec)

/-- ITS FALSE NEIGHBOUR: 'it returns false'. Refute it at one input. -/
def fraudExemptWrong : ChangeSpec := { name := "fraudExempt", fn := fun _ => fun
  | [d1, d2, d3, d4] => { results := [.lit (.bool false)], args := [d1, d2, d3, d4] }
  | _ => none }
def FraudExemptWrongFalsely : Prop := fraudExemptRow.holds Try.pinned (OpenSpec.ofChange fraudExemptWrong)

/-- 'royaltylaw11.FraudMeasures': WHATEVER THE INPUT: true; the input reads as it did. -/
def fraudMeasuresSpec : ChangeSpec := { name := "fraudMeasures", fn := fun _ => fun
  | [d1, d2, d3] => { results := [.lit (.bool true)], args := [d1, d2, d3] }
  | _ => none }
def fraudMeasuresRow : OpenClaim := { program := "ytpcfgoadkfajfaa", sum := "f1ae09984a75090cf76fb9605cc3048d2c4f2cbd44622f727e1a0748a8637e19", func := "royalty/royaltylaw11.FraudMeasures", spec := "fraudMeasures", unfollowed := true, recurses := true, plainKeys := false, apart := false }
def FraudMeasuresSaid : Prop := fraudMeasuresRow.holds Try.pinned (OpenSpec.ofChange fraudMeasuresSpec)

/-- ITS FALSE NEIGHBOUR: 'it returns false'. Refute it at one input. -/
def fraudMeasuresWrong : ChangeSpec := { name := "fraudMeasures", fn := fun _ => fun
  | [d1, d2, d3] => { results := [.lit (.bool false)], args := [d1, d2, d3] }
  | _ => none }
def FraudMeasuresWrongFalsely : Prop := fraudMeasuresRow.holds Try.pinned (OpenSpec.ofChange fraudMeasuresWrong)

/-- 'royaltylaw11.FraudKinds': WHATEVER THE INPUT: true; the input reads as it did. -/
def fraudKindsSpec : ChangeSpec := { name := "fraudKinds", fn := fun _ => fun
  | [d1, d2, d3, d4, d5] => { results := [.lit (.bool true)], args := [d1, d2, d3, d4, d5] }
  | _ => none }
def fraudKindsRow : OpenClaim := { program := "ytpcfgoadkfajfaa", sum := "f1ae09984a75090cf76fb9605cc3048d2c4f2cbd44622f727e1a0748a8637e19", func := "royalty/royaltylaw11.FraudKinds", spec := "fraudKinds", unfollowed := true, recurses := true, plainKeys := false, apart := false }
def FraudKindsSaid : Prop := fraudKindsRow.holds Try.pinned (OpenSpec.ofChange fraudKindsSpec)

/-- ITS FALSE NEIGHBOUR: 'it returns false'. Refute it at one input. -/
def fraudKindsWrong : ChangeSpec := { name := "fraudKinds", fn := fun _ => fun
  | [d1, d2, d3, d4, d5] => { results := [.lit (.bool false)], args := [d1, d2, d3, d4, d5] }
  | _ => none }
def FraudKindsWrongFalsely : Prop := fraudKindsRow.holds Try.pinned (OpenSpec.ofChange fraudKindsWrong)

/-- 'royaltylaw11.FraudLocal': WHATEVER THE INPUT: true; the input reads as it did. -/
def fraudLocalSpec : ChangeSpec := { name := "fraudLocal", fn := fun _ => fun
  | [d1, d2, d3] => { results := [.lit (.bool true)], args := [d1, d2, d3] }
  | _ => none }
def fraudLocalRow : OpenClaim := { program := "ytpcfgoadkfajfaa", sum := "f1ae09984a75090cf76fb9605cc3048d2c4f2cbd44622f727e1a0748a8637e19", func := "royalty/royaltylaw11.FraudLocal", spec := "fraudLocal", unfollowed := true, recurses := true, plainKeys := false, apart := false }
def FraudLocalSaid : Prop := fraudLocalRow.holds Try.pinned (OpenSpec.ofChange fraudLocalSpec)

/-- ITS FALSE NEIGHBOUR: 'it returns false'. Refute it at one input. -/
def fraudLocalWrong : ChangeSpec := { name := "fraudLocal", fn := fun _ => fun
  | [d1, d2, d3] => { results := [.lit (.bool false)], args := [d1, d2, d3] }
  | _ => none }
def FraudLocalWrongFalsely : Prop := fraudLocalRow.holds Try.pinned (OpenSpec.ofChange fraudLocalWrong)

/- THE SECOND FORM. 'bulk': how many values and letters a reading holds, each counted each time it is reached (what is shared counts as often as it is met; a slice's spare places count too). A statement '..UptoSaid' is the law's where the arguments, and the package variables that the reading takes, are together of bulk at most 1048576: NARROWER than '..Said'. Prove '..Said' where nothing that the law and all that it calls make is longer than what came in: it says more and counts as full. Else prove '..UptoSaid'. A law counts once. -/
mutual
def uptoBulk {H : Type} : DataW H → Nat
  | .lit (.string bytes) => bytes.length + 1
  | .lit _ => 1
  | .nil => 1
  | .ptr d => uptoBulk d + 1
  | .slice elems spare => uptoBulkAll elems + uptoBulkAll spare + 1
  | .agg parts => uptoBulkAll parts + 1
  | .iface _ d => uptoBulk d + 1
  | .map entries => uptoBulkEntries entries + 1
  | .held _ => 1
def uptoBulkAll {H : Type} : List (DataW H) → Nat
  | [] => 0
  | d :: r => uptoBulk d + uptoBulkAll r
def uptoBulkEntries {H : Type} : List (Lit × DataW H) → Nat
  | [] => 0
  | x :: r => uptoBulkEntry x + uptoBulkEntries r
def uptoBulkEntry {H : Type} : Lit × DataW H → Nat
  | (.string bytes, d) => bytes.length + uptoBulk d + 1
  | (_, d) => uptoBulk d + 1
 end
def uptoSmall : (H : Type) → List (DataW H) → Bool := fun _ ds => decide (uptoBulkAll ds ≤ 1048576)
def OpenSpec.upto (s : _root_.Go.ChangeSpec) : _root_.Go.OpenSpec := { _root_.Go.OpenSpec.ofChange s with cond := some uptoSmall }

/-- 'royaltylaw11.FraudMeasureMatchesReference', WHERE WHAT IT READS IS OF BULK AT MOST 1048576: true; the input reads as it did. -/
def fraudMeasureMatchesReferenceUptoRow : OpenClaim := { program := "ytpcfgoadkfajfaa", sum := "f1ae09984a75090cf76fb9605cc3048d2c4f2cbd44622f727e1a0748a8637e19", func := "royalty/royaltylaw11.FraudMeasureMatchesReference", spec := "fraudMeasureMatchesReference", unfollowed := true, recurses := true, plainKeys := false, apart := false, narrowed := true }
def FraudMeasureMatchesReferenceUptoSaid : Prop := fraudMeasureMatchesReferenceUptoRow.holds Try.pinned (OpenSpec.upto fraudMeasureMatchesReferenceSpec)

/-- 'royaltylaw11.FraudMatchesReference', WHERE WHAT IT READS IS OF BULK AT MOST 1048576: true; the input reads as it did. -/
def fraudMatchesReferenceUptoRow : OpenClaim := { program := "ytpcfgoadkfajfaa", sum := "f1ae09984a75090cf76fb9605cc3048d2c4f2cbd44622f727e1a0748a8637e19", func := "royalty/royaltylaw11.FraudMatchesReference", spec := "fraudMatchesReference", unfollowed := true, recurses := true, plainKeys := false, apart := false, narrowed := true }
def FraudMatchesReferenceUptoSaid : Prop := fraudMatchesReferenceUptoRow.holds Try.pinned (OpenSpec.upto fraudMatchesReferenceSpec)

/-- 'royaltylaw11.FraudOrder', WHERE WHAT IT READS IS OF BULK AT MOST 1048576: true; the input reads as it did. -/
def fraudOrderUptoRow : OpenClaim := { program := "ytpcfgoadkfajfaa", sum := "f1ae09984a75090cf76fb9605cc3048d2c4f2cbd44622f727e1a0748a8637e19", func := "royalty/royaltylaw11.FraudOrder", spec := "fraudOrder", unfollowed := true, recurses := true, plainKeys := false, apart := false, narrowed := true }
def FraudOrderUptoSaid : Prop := fraudOrderUptoRow.holds Try.pinned (OpenSpec.upto fraudOrderSpec)

/-- 'royaltylaw11.FraudRules', WHERE WHAT IT READS IS OF BULK AT MOST 1048576: true; the input reads as it did. -/
def fraudRulesUptoRow : OpenClaim := { program := "ytpcfgoadkfajfaa", sum := "f1ae09984a75090cf76fb9605cc3048d2c4f2cbd44622f727e1a0748a8637e19", func := "royalty/royaltylaw11.FraudRules", spec := "fraudRules", unfollowed := true, recurses := true, plainKeys := false, apart := false, narrowed := true }
def FraudRulesUptoSaid : Prop := fraudRulesUptoRow.holds Try.pinned (OpenSpec.upto fraudRulesSpec)

/-- 'royaltylaw11.FraudLate', WHERE WHAT IT READS IS OF BULK AT MOST 1048576: true; the input reads as it did. -/
def fraudLateUptoRow : OpenClaim := { program := "ytpcfgoadkfajfaa", sum := "f1ae09984a75090cf76fb9605cc3048d2c4f2cbd44622f727e1a0748a8637e19", func := "royalty/royaltylaw11.FraudLate", spec := "fraudLate", unfollowed := true, recurses := true, plainKeys := false, apart := false, narrowed := true }
def FraudLateUptoSaid : Prop := fraudLateUptoRow.holds Try.pinned (OpenSpec.upto fraudLateSpec)

/-- 'royaltylaw11.FraudExempt', WHERE WHAT IT READS IS OF BULK AT MOST 1048576: true; the input reads as it did. -/
def fraudExemptUptoRow : OpenClaim := { program := "ytpcfgoadkfajfaa", sum := "f1ae09984a75090cf76fb9605cc3048d2c4f2cbd44622f727e1a0748a8637e19", func := "royalty/royaltylaw11.FraudExempt", spec := "fraudExempt", unfollowed := true, recurses := true, plainKeys := false, apart := false, narrowed := true }
def FraudExemptUptoSaid : Prop := fraudExemptUptoRow.holds Try.pinned (OpenSpec.upto fraudExemptSpec)

/-- 'royaltylaw11.FraudMeasures', WHERE WHAT IT READS IS OF BULK AT MOST 1048576: true; the input reads as it did. -/
def fraudMeasuresUptoRow : OpenClaim := { program := "ytpcfgoadkfajfaa", sum := "f1ae09984a75090cf76fb9605cc3048d2c4f2cbd44622f727e1a0748a8637e19", func := "royalty/royaltylaw11.FraudMeasures", spec := "fraudMeasures", unfollowed := true, recurses := true, plainKeys := false, apart := false, narrowed := true }
def FraudMeasuresUptoSaid : Prop := fraudMeasuresUptoRow.holds Try.pinned (OpenSpec.upto fraudMeasuresSpec)

/-- 'royaltylaw11.FraudKinds', WHERE WHAT IT READS IS OF BULK AT MOST 1048576: true; the input reads as it did. -/
def fraudKindsUptoRow : OpenClaim := { program := "ytpcfgoadkfajfaa", sum := "f1ae09984a75090cf76fb9605cc3048d2c4f2cbd44622f727e1a0748a8637e19", func := "royalty/royaltylaw11.FraudKinds", spec := "fraudKinds", unfollowed := true, recurses := true, plainKeys := false, apart := false, narrowed := true }
def FraudKindsUptoSaid : Prop := fraudKindsUptoRow.holds Try.pinned (OpenSpec.upto fraudKindsSpec)

/-- 'royaltylaw11.FraudLocal', WHERE WHAT IT READS IS OF BULK AT MOST 1048576: true; the input reads as it did. -/
def fraudLocalUptoRow : OpenClaim := { program := "ytpcfgoadkfajfaa", sum := "f1ae09984a75090cf76fb9605cc3048d2c4f2cbd44622f727e1a0748a8637e19", func := "royalty/royaltylaw11.FraudLocal", spec := "fraudLocal", unfollowed := true, recurses := true, plainKeys := false, apart := false, narrowed := true }
def FraudLocalUptoSaid : Prop := fraudLocalUptoRow.holds Try.pinned (OpenSpec.upto fraudLocalSpec)

end Rows
end Go.Proofs.Ytpcfgoadkfajfaa
