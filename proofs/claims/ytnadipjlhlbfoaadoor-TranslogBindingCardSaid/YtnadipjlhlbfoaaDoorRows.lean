/-
  NARROWER THAN 'FOR EVERY INPUT', by the rows' own cells (each row's printed sentence says how): TranslogProves: laid · TranslogBinding: laid · TranslogGrows: laid · TranslogEqual: laid · TranslogPrivate: laid · TranslogOwns: laid.
  DERIVED. THE GIVEN ROWS OF THIS SEAT. 6 by the template 'for every input the law returns true; each argument reads behind the call as it read before'; 0 by the template 'total and deterministic' (their statements: YtnadipjlhlbfoaaDoorTotals.lean).
  GIVEN WITH THE SEED: the statements are not yours to turn. If you find one false, say at which input.
  Laid BY PROGRAM, IN A SANDBOX (cutbox-rows.mjs): the forced cells as the released guide's own fill.sh prints them over the translation 07fd6b42a03a45b9… (all of the seat's roots in one cut). By AI agents, Wed Nov 11 2026. No macro, syntax, notation, axiom, sorry.
-/
import Derived.Test.YtnadipjlhlbfoaaDoorChecked
import GoSem.Claim
import GoSem.ClaimJoined
import GoSem.ClaimMapViews
import Derived.JoinedTies
import Derived.KernelRfl
namespace Go.Proofs.YtnadipjlhlbfoaaDoor
/- THE CELL 'sum', in the pinned program and in every row, IS THE sha256 OF THE DUMP (.gsa) THAT YtnadipjlhlbfoaaDoorProg.lean LOADS. Nothing in Lean hashes anything: it is a label: what it is worth is what the hold of that sum in a sandbox is worth. -/
noncomputable def Tryd.pinned : Pinned := { name := "ytnadipjlhlbfoaadoor", sum := "07fd6b42a03a45b9ad04c104d452ec09c5896a5da6e91acd2589929196be4729", checked := Tryd.checked }
namespace Rows
def none {H : Type} : Left H := { results := [], args := [] }

/- WHAT THE LISTED PACKAGE-LEVEL VARIABLES READ AS WHEN THE CALL BEGINS. Each datum BY PROGRAM (the guide's laid-datum.mjs) off the statement by which the dump's own 'gosem.cut.vars' lays the variable. In a bare row this is a premise. The card (YtnadipjlhlbfoaaDoorCards.lean) ties it to the program's text. -/
def laid_royalty_digest_round {H : Type} : DataW H := .agg [.lit (.int .u32 1116352408), .lit (.int .u32 1899447441), .lit (.int .u32 3049323471), .lit (.int .u32 3921009573), .lit (.int .u32 961987163), .lit (.int .u32 1508970993), .lit (.int .u32 2453635748), .lit (.int .u32 2870763221), .lit (.int .u32 3624381080), .lit (.int .u32 310598401), .lit (.int .u32 607225278), .lit (.int .u32 1426881987), .lit (.int .u32 1925078388), .lit (.int .u32 2162078206), .lit (.int .u32 2614888103), .lit (.int .u32 3248222580), .lit (.int .u32 3835390401), .lit (.int .u32 4022224774), .lit (.int .u32 264347078), .lit (.int .u32 604807628), .lit (.int .u32 770255983), .lit (.int .u32 1249150122), .lit (.int .u32 1555081692), .lit (.int .u32 1996064986), .lit (.int .u32 2554220882), .lit (.int .u32 2821834349), .lit (.int .u32 2952996808), .lit (.int .u32 3210313671), .lit (.int .u32 3336571891), .lit (.int .u32 3584528711), .lit (.int .u32 113926993), .lit (.int .u32 338241895), .lit (.int .u32 666307205), .lit (.int .u32 773529912), .lit (.int .u32 1294757372), .lit (.int .u32 1396182291), .lit (.int .u32 1695183700), .lit (.int .u32 1986661051), .lit (.int .u32 2177026350), .lit (.int .u32 2456956037), .lit (.int .u32 2730485921), .lit (.int .u32 2820302411), .lit (.int .u32 3259730800), .lit (.int .u32 3345764771), .lit (.int .u32 3516065817), .lit (.int .u32 3600352804), .lit (.int .u32 4094571909), .lit (.int .u32 275423344), .lit (.int .u32 430227734), .lit (.int .u32 506948616), .lit (.int .u32 659060556), .lit (.int .u32 883997877), .lit (.int .u32 958139571), .lit (.int .u32 1322822218), .lit (.int .u32 1537002063), .lit (.int .u32 1747873779), .lit (.int .u32 1955562222), .lit (.int .u32 2024104815), .lit (.int .u32 2227730452), .lit (.int .u32 2361852424), .lit (.int .u32 2428436474), .lit (.int .u32 2756734187), .lit (.int .u32 3204031479), .lit (.int .u32 3329325298)]

/-- 'royaltylaw24.TranslogProves': WHATEVER THE INPUT: true; the input reads as it did. -/
def translogProvesSpec : ChangeSpec := { name := "translogProves", fn := fun _ => fun
  | [d1, d2] => { results := [.lit (.bool true)], args := [d1, d2] }
  | _ => none }
def translogProvesRow : OpenClaim := { program := "ytnadipjlhlbfoaadoor", sum := "07fd6b42a03a45b9ad04c104d452ec09c5896a5da6e91acd2589929196be4729", func := "royalty/royaltylaw24.TranslogProves", spec := "translogProves", inPlace := ["internal/abi.NoEscape", "internal/bytealg.MakeNoZero"], unfollowed := true, recurses := true, named := ["royalty/digest.round"], apart := false, laid := [("royalty/digest.round", laid_royalty_digest_round)] }
def TranslogProvesSaid : Prop := translogProvesRow.holds Tryd.pinned (OpenSpec.ofChange translogProvesSpec)

/-- ITS FALSE NEIGHBOUR: 'it returns false'. Refute it at one input. -/
def translogProvesWrong : ChangeSpec := { name := "translogProves", fn := fun _ => fun
  | [d1, d2] => { results := [.lit (.bool false)], args := [d1, d2] }
  | _ => none }
def TranslogProvesWrongFalsely : Prop := translogProvesRow.holds Tryd.pinned (OpenSpec.ofChange translogProvesWrong)

/-- 'royaltylaw24.TranslogBinding': WHATEVER THE INPUT: true; the input reads as it did. -/
def translogBindingSpec : ChangeSpec := { name := "translogBinding", fn := fun _ => fun
  | [d1, d2, d3, d4, d5] => { results := [.lit (.bool true)], args := [d1, d2, d3, d4, d5] }
  | _ => none }
def translogBindingRow : OpenClaim := { program := "ytnadipjlhlbfoaadoor", sum := "07fd6b42a03a45b9ad04c104d452ec09c5896a5da6e91acd2589929196be4729", func := "royalty/royaltylaw24.TranslogBinding", spec := "translogBinding", inPlace := ["internal/abi.NoEscape", "internal/bytealg.MakeNoZero"], unfollowed := true, recurses := true, named := ["royalty/digest.round"], apart := false, laid := [("royalty/digest.round", laid_royalty_digest_round)] }
def TranslogBindingSaid : Prop := translogBindingRow.holds Tryd.pinned (OpenSpec.ofChange translogBindingSpec)

/-- ITS FALSE NEIGHBOUR: 'it returns false'. Refute it at one input. -/
def translogBindingWrong : ChangeSpec := { name := "translogBinding", fn := fun _ => fun
  | [d1, d2, d3, d4, d5] => { results := [.lit (.bool false)], args := [d1, d2, d3, d4, d5] }
  | _ => none }
def TranslogBindingWrongFalsely : Prop := translogBindingRow.holds Tryd.pinned (OpenSpec.ofChange translogBindingWrong)

/-- 'royaltylaw24.TranslogGrows': WHATEVER THE INPUT: true; the input reads as it did. -/
def translogGrowsSpec : ChangeSpec := { name := "translogGrows", fn := fun _ => fun
  | [d1, d2, d3] => { results := [.lit (.bool true)], args := [d1, d2, d3] }
  | _ => none }
def translogGrowsRow : OpenClaim := { program := "ytnadipjlhlbfoaadoor", sum := "07fd6b42a03a45b9ad04c104d452ec09c5896a5da6e91acd2589929196be4729", func := "royalty/royaltylaw24.TranslogGrows", spec := "translogGrows", inPlace := ["internal/abi.NoEscape", "internal/bytealg.MakeNoZero"], unfollowed := true, recurses := true, named := ["royalty/digest.round"], apart := false, laid := [("royalty/digest.round", laid_royalty_digest_round)] }
def TranslogGrowsSaid : Prop := translogGrowsRow.holds Tryd.pinned (OpenSpec.ofChange translogGrowsSpec)

/-- ITS FALSE NEIGHBOUR: 'it returns false'. Refute it at one input. -/
def translogGrowsWrong : ChangeSpec := { name := "translogGrows", fn := fun _ => fun
  | [d1, d2, d3] => { results := [.lit (.bool false)], args := [d1, d2, d3] }
  | _ => none }
def TranslogGrowsWrongFalsely : Prop := translogGrowsRow.holds Tryd.pinned (OpenSpec.ofChange translogGrowsWrong)

/-- 'royaltylaw24.TranslogEqual': WHATEVER THE INPUT: true; the input reads as it did. -/
def translogEqualSpec : ChangeSpec := { name := "translogEqual", fn := fun _ => fun
  | [d1, d2, d3] => { results := [.lit (.bool true)], args := [d1, d2, d3] }
  | _ => none }
def translogEqualRow : OpenClaim := { program := "ytnadipjlhlbfoaadoor", sum := "07fd6b42a03a45b9ad04c104d452ec09c5896a5da6e91acd2589929196be4729", func := "royalty/royaltylaw24.TranslogEqual", spec := "translogEqual", inPlace := ["internal/abi.NoEscape", "internal/bytealg.MakeNoZero"], unfollowed := true, recurses := true, named := ["royalty/digest.round"], apart := false, laid := [("royalty/digest.round", laid_royalty_digest_round)] }
def TranslogEqualSaid : Prop := translogEqualRow.holds Tryd.pinned (OpenSpec.ofChange translogEqualSpec)

/-- ITS FALSE NEIGHBOUR: 'it returns false'. Refute it at one input. -/
def translogEqualWrong : ChangeSpec := { name := "translogEqual", fn := fun _ => fun
  | [d1, d2, d3] => { results := [.lit (.bool false)], args := [d1, d2, d3] }
  | _ => none }
def TranslogEqualWrongFalsely : Prop := translogEqualRow.holds Tryd.pinned (OpenSpec.ofChange translogEqualWrong)

/-- 'royaltylaw24.TranslogPrivate': WHATEVER THE INPUT: true; the input reads as it did. -/
def translogPrivateSpec : ChangeSpec := { name := "translogPrivate", fn := fun _ => fun
  | [d1, d2, d3] => { results := [.lit (.bool true)], args := [d1, d2, d3] }
  | _ => none }
def translogPrivateRow : OpenClaim := { program := "ytnadipjlhlbfoaadoor", sum := "07fd6b42a03a45b9ad04c104d452ec09c5896a5da6e91acd2589929196be4729", func := "royalty/royaltylaw24.TranslogPrivate", spec := "translogPrivate", inPlace := ["internal/abi.NoEscape", "internal/bytealg.MakeNoZero"], unfollowed := true, recurses := true, named := ["royalty/digest.round"], apart := false, laid := [("royalty/digest.round", laid_royalty_digest_round)] }
def TranslogPrivateSaid : Prop := translogPrivateRow.holds Tryd.pinned (OpenSpec.ofChange translogPrivateSpec)

/-- ITS FALSE NEIGHBOUR: 'it returns false'. Refute it at one input. -/
def translogPrivateWrong : ChangeSpec := { name := "translogPrivate", fn := fun _ => fun
  | [d1, d2, d3] => { results := [.lit (.bool false)], args := [d1, d2, d3] }
  | _ => none }
def TranslogPrivateWrongFalsely : Prop := translogPrivateRow.holds Tryd.pinned (OpenSpec.ofChange translogPrivateWrong)

/-- 'royaltylaw24.TranslogOwns': WHATEVER THE INPUT: true; the input reads as it did. -/
def translogOwnsSpec : ChangeSpec := { name := "translogOwns", fn := fun _ => fun
  | [d1, d2] => { results := [.lit (.bool true)], args := [d1, d2] }
  | _ => none }
def translogOwnsRow : OpenClaim := { program := "ytnadipjlhlbfoaadoor", sum := "07fd6b42a03a45b9ad04c104d452ec09c5896a5da6e91acd2589929196be4729", func := "royalty/royaltylaw24.TranslogOwns", spec := "translogOwns", inPlace := ["internal/abi.NoEscape", "internal/bytealg.MakeNoZero"], unfollowed := true, recurses := true, named := ["royalty/digest.round"], apart := false, laid := [("royalty/digest.round", laid_royalty_digest_round)] }
def TranslogOwnsSaid : Prop := translogOwnsRow.holds Tryd.pinned (OpenSpec.ofChange translogOwnsSpec)

/-- ITS FALSE NEIGHBOUR: 'it returns false'. Refute it at one input. -/
def translogOwnsWrong : ChangeSpec := { name := "translogOwns", fn := fun _ => fun
  | [d1, d2] => { results := [.lit (.bool false)], args := [d1, d2] }
  | _ => none }
def TranslogOwnsWrongFalsely : Prop := translogOwnsRow.holds Tryd.pinned (OpenSpec.ofChange translogOwnsWrong)

/- THE SECOND FORM. 'bulk': how many values and letters a reading holds, each counted each time it is reached (what is shared counts as often as it is met; a slice's spare places count too). A statement '..UptoSaid' is the law's where the arguments, and the package variables that the reading takes, are together of bulk at most 1048576: NARROWER than '..Said'. Prove '..Said' where nothing that the law and all that it calls make is longer than what came in: it says more and counts as full. Else prove '..UptoSaid'. A law counts once. -/
mutual
def uptoBulk {H : Type} : DataW H → Nat
  | .lit (.string bytes) => bytes.length + 1
  | .lit _ => 1
  | .nil => 1
  | .ptr d => uptoBulk d + 1
  | .slice elems spare => uptoBulkAll elems + uptoBulkAll spare + 1
  | .agg parts => uptoBulkAll parts + 1
  | .iface _ d => uptoBulk d + 1
  | .map entries => uptoBulkEntries entries + 1
  | .held _ => 1
def uptoBulkAll {H : Type} : List (DataW H) → Nat
  | [] => 0
  | d :: r => uptoBulk d + uptoBulkAll r
def uptoBulkEntries {H : Type} : List (Lit × DataW H) → Nat
  | [] => 0
  | x :: r => uptoBulkEntry x + uptoBulkEntries r
def uptoBulkEntry {H : Type} : Lit × DataW H → Nat
  | (.string bytes, d) => bytes.length + uptoBulk d + 1
  | (_, d) => uptoBulk d + 1
 end
def uptoSmall : (H : Type) → List (DataW H) → Bool := fun _ ds => decide (uptoBulkAll ds ≤ 1048576)
def OpenSpec.upto (s : _root_.Go.ChangeSpec) : _root_.Go.OpenSpec := { _root_.Go.OpenSpec.ofChange s with cond := some uptoSmall }

/-- 'royaltylaw24.TranslogProves', WHERE WHAT IT READS IS OF BULK AT MOST 1048576: true; the input reads as it did. -/
def translogProvesUptoRow : OpenClaim := { program := "ytnadipjlhlbfoaadoor", sum := "07fd6b42a03a45b9ad04c104d452ec09c5896a5da6e91acd2589929196be4729", func := "royalty/royaltylaw24.TranslogProves", spec := "translogProves", inPlace := ["internal/abi.NoEscape", "internal/bytealg.MakeNoZero"], unfollowed := true, recurses := true, named := ["royalty/digest.round"], apart := false, laid := [("royalty/digest.round", laid_royalty_digest_round)], narrowed := true }
def TranslogProvesUptoSaid : Prop := translogProvesUptoRow.holds Tryd.pinned (OpenSpec.upto translogProvesSpec)

/-- 'royaltylaw24.TranslogBinding', WHERE WHAT IT READS IS OF BULK AT MOST 1048576: true; the input reads as it did. -/
def translogBindingUptoRow : OpenClaim := { program := "ytnadipjlhlbfoaadoor", sum := "07fd6b42a03a45b9ad04c104d452ec09c5896a5da6e91acd2589929196be4729", func := "royalty/royaltylaw24.TranslogBinding", spec := "translogBinding", inPlace := ["internal/abi.NoEscape", "internal/bytealg.MakeNoZero"], unfollowed := true, recurses := true, named := ["royalty/digest.round"], apart := false, laid := [("royalty/digest.round", laid_royalty_digest_round)], narrowed := true }
def TranslogBindingUptoSaid : Prop := translogBindingUptoRow.holds Tryd.pinned (OpenSpec.upto translogBindingSpec)

/-- 'royaltylaw24.TranslogGrows', WHERE WHAT IT READS IS OF BULK AT MOST 1048576: true; the input reads as it did. -/
def translogGrowsUptoRow : OpenClaim := { program := "ytnadipjlhlbfoaadoor", sum := "07fd6b42a03a45b9ad04c104d452ec09c5896a5da6e91acd2589929196be4729", func := "royalty/royaltylaw24.TranslogGrows", spec := "translogGrows", inPlace := ["internal/abi.NoEscape", "internal/bytealg.MakeNoZero"], unfollowed := true, recurses := true, named := ["royalty/digest.round"], apart := false, laid := [("royalty/digest.round", laid_royalty_digest_round)], narrowed := true }
def TranslogGrowsUptoSaid : Prop := translogGrowsUptoRow.holds Tryd.pinned (OpenSpec.upto translogGrowsSpec)

/-- 'royaltylaw24.TranslogEqual', WHERE WHAT IT READS IS OF BULK AT MOST 1048576: true; the input reads as it did. -/
def translogEqualUptoRow : OpenClaim := { program := "ytnadipjlhlbfoaadoor", sum := "07fd6b42a03a45b9ad04c104d452ec09c5896a5da6e91acd2589929196be4729", func := "royalty/royaltylaw24.TranslogEqual", spec := "translogEqual", inPlace := ["internal/abi.NoEscape", "internal/bytealg.MakeNoZero"], unfollowed := true, recurses := true, named := ["royalty/digest.round"], apart := false, laid := [("royalty/digest.round", laid_royalty_digest_round)], narrowed := true }
def TranslogEqualUptoSaid : Prop := translogEqualUptoRow.holds Tryd.pinned (OpenSpec.upto translogEqualSpec)

/-- 'royaltylaw24.TranslogPrivate', WHERE WHAT IT READS IS OF BULK AT MOST 1048576: true; the input reads as it did. -/
def translogPrivateUptoRow : OpenClaim := { program := "ytnadipjlhlbfoaadoor", sum := "07fd6b42a03a45b9ad04c104d452ec09c5896a5da6e91acd2589929196be4729", func := "royalty/royaltylaw24.TranslogPrivate", spec := "translogPrivate", inPlace := ["internal/abi.NoEscape", "internal/bytealg.MakeNoZero"], unfollowed := true, recurses := true, named := ["royalty/digest.round"], apart := false, laid := [("royalty/digest.round", laid_royalty_digest_round)], narrowed := true }
def TranslogPrivateUptoSaid : Prop := translogPrivateUptoRow.holds Tryd.pinned (OpenSpec.upto translogPrivateSpec)

/-- 'royaltylaw24.TranslogOwns', WHERE WHAT IT READS IS OF BULK AT MOST 1048576: true; the input reads as it did. -/
def translogOwnsUptoRow : OpenClaim := { program := "ytnadipjlhlbfoaadoor", sum := "07fd6b42a03a45b9ad04c104d452ec09c5896a5da6e91acd2589929196be4729", func := "royalty/royaltylaw24.TranslogOwns", spec := "translogOwns", inPlace := ["internal/abi.NoEscape", "internal/bytealg.MakeNoZero"], unfollowed := true, recurses := true, named := ["royalty/digest.round"], apart := false, laid := [("royalty/digest.round", laid_royalty_digest_round)], narrowed := true }
def TranslogOwnsUptoSaid : Prop := translogOwnsUptoRow.holds Tryd.pinned (OpenSpec.upto translogOwnsSpec)

end Rows
end Go.Proofs.YtnadipjlhlbfoaaDoor
