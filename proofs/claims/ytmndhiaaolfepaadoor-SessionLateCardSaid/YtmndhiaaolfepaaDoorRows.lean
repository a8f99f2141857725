/-
  NARROWER THAN 'FOR EVERY INPUT', by the rows' own cells (each row's printed sentence says how): SessionPeriods: laid · SessionApart: laid · SessionDevices: laid · SessionLate: laid · SessionReasons: laid.
  DERIVED. THE GIVEN ROWS OF THIS SEAT. 5 by the template 'for every input the law returns true; each argument reads behind the call as it read before'; 0 by the template 'total and deterministic' (their statements: YtmndhiaaolfepaaDoorTotals.lean).
  GIVEN WITH THE SEED: the statements are not yours to turn. If you find one false, say at which input.
  Laid BY PROGRAM, IN A SANDBOX (cutbox-rows.mjs): the forced cells as the released guide's own fill.sh prints them over the translation 87fcf9a43bae8ee0… (all of the seat's roots in one cut). By AI agents, Wed Nov 11 2026. No macro, syntax, notation, axiom, sorry.
-/
import Derived.Test.YtmndhiaaolfepaaDoorChecked
import GoSem.Claim
import GoSem.ClaimJoined
import GoSem.ClaimMapViews
import Derived.JoinedTies
import Derived.KernelRfl
namespace Go.Proofs.YtmndhiaaolfepaaDoor
/- THE CELL 'sum', in the pinned program and in every row, IS THE sha256 OF THE DUMP (.gsa) THAT YtmndhiaaolfepaaDoorProg.lean LOADS. Nothing in Lean hashes anything: it is a label: what it is worth is what the hold of that sum in a sandbox is worth. -/
noncomputable def Tryd.pinned : Pinned := { name := "ytmndhiaaolfepaadoor", sum := "87fcf9a43bae8ee03d2d55cbe663975a3dc3ff9b3729f68bb293e79c36e3d344", checked := Tryd.checked }
namespace Rows
def none {H : Type} : Left H := { results := [], args := [] }

/- WHAT THE LISTED PACKAGE-LEVEL VARIABLES READ AS WHEN THE CALL BEGINS. Each datum BY PROGRAM (the guide's laid-datum.mjs) off the statement by which the dump's own 'gosem.cut.vars' lays the variable. In a bare row this is a premise. The card (YtmndhiaaolfepaaDoorCards.lean) ties it to the program's text. -/
def laid_royalty_period_lengths {H : Type} : DataW H := .agg [.lit (.int .i64 31), .lit (.int .i64 28), .lit (.int .i64 31), .lit (.int .i64 30), .lit (.int .i64 31), .lit (.int .i64 30), .lit (.int .i64 31), .lit (.int .i64 31), .lit (.int .i64 30), .lit (.int .i64 31), .lit (.int .i64 30), .lit (.int .i64 31)]

/-- 'royaltylaw08.SessionPeriods': WHATEVER THE INPUT: true; the input reads as it did. -/
def sessionPeriodsSpec : ChangeSpec := { name := "sessionPeriods", fn := fun _ => fun
  | [d1, d2, d3] => { results := [.lit (.bool true)], args := [d1, d2, d3] }
  | _ => none }
def sessionPeriodsRow : OpenClaim := { program := "ytmndhiaaolfepaadoor", sum := "87fcf9a43bae8ee03d2d55cbe663975a3dc3ff9b3729f68bb293e79c36e3d344", func := "royalty/royaltylaw08.SessionPeriods", spec := "sessionPeriods", unfollowed := true, recurses := true, named := ["royalty/period.lengths"], apart := false, laid := [("royalty/period.lengths", laid_royalty_period_lengths)] }
def SessionPeriodsSaid : Prop := sessionPeriodsRow.holds Tryd.pinned (OpenSpec.ofChange sessionPeriodsSpec)

/-- ITS FALSE NEIGHBOUR: 'it returns false'. Refute it at one input. -/
def sessionPeriodsWrong : ChangeSpec := { name := "sessionPeriods", fn := fun _ => fun
  | [d1, d2, d3] => { results := [.lit (.bool false)], args := [d1, d2, d3] }
  | _ => none }
def SessionPeriodsWrongFalsely : Prop := sessionPeriodsRow.holds Tryd.pinned (OpenSpec.ofChange sessionPeriodsWrong)

/-- 'royaltylaw08.SessionApart': WHATEVER THE INPUT: true; the input reads as it did. -/
def sessionApartSpec : ChangeSpec := { name := "sessionApart", fn := fun _ => fun
  | [d] => { results := [.lit (.bool true)], args := [d] }
  | _ => none }
def sessionApartRow : OpenClaim := { program := "ytmndhiaaolfepaadoor", sum := "87fcf9a43bae8ee03d2d55cbe663975a3dc3ff9b3729f68bb293e79c36e3d344", func := "royalty/royaltylaw08.SessionApart", spec := "sessionApart", unfollowed := true, recurses := true, named := ["royalty/period.lengths"], apart := false, laid := [("royalty/period.lengths", laid_royalty_period_lengths)] }
def SessionApartSaid : Prop := sessionApartRow.holds Tryd.pinned (OpenSpec.ofChange sessionApartSpec)

/-- ITS FALSE NEIGHBOUR: 'it returns false'. Refute it at one input. -/
def sessionApartWrong : ChangeSpec := { name := "sessionApart", fn := fun _ => fun
  | [d] => { results := [.lit (.bool false)], args := [d] }
  | _ => none }
def SessionApartWrongFalsely : Prop := sessionApartRow.holds Tryd.pinned (OpenSpec.ofChange sessionApartWrong)

/-- 'royaltylaw08.SessionDevices': WHATEVER THE INPUT: true; the input reads as it did. -/
def sessionDevicesSpec : ChangeSpec := { name := "sessionDevices", fn := fun _ => fun
  | [d1, d2] => { results := [.lit (.bool true)], args := [d1, d2] }
  | _ => none }
def sessionDevicesRow : OpenClaim := { program := "ytmndhiaaolfepaadoor", sum := "87fcf9a43bae8ee03d2d55cbe663975a3dc3ff9b3729f68bb293e79c36e3d344", func := "royalty/royaltylaw08.SessionDevices", spec := "sessionDevices", unfollowed := true, recurses := true, named := ["royalty/period.lengths"], apart := false, laid := [("royalty/period.lengths", laid_royalty_period_lengths)] }
def SessionDevicesSaid : Prop := sessionDevicesRow.holds Tryd.pinned (OpenSpec.ofChange sessionDevicesSpec)

/-- ITS FALSE NEIGHBOUR: 'it returns false'. Refute it at one input. -/
def sessionDevicesWrong : ChangeSpec := { name := "sessionDevices", fn := fun _ => fun
  | [d1, d2] => { results := [.lit (.bool false)], args := [d1, d2] }
  | _ => none }
def SessionDevicesWrongFalsely : Prop := sessionDevicesRow.holds Tryd.pinned (OpenSpec.ofChange sessionDevicesWrong)

/-- 'royaltylaw08.SessionLate': WHATEVER THE INPUT: true; the input reads as it did. -/
def sessionLateSpec : ChangeSpec := { name := "sessionLate", fn := fun _ => fun
  | [d1, d2] => { results := [.lit (.bool true)], args := [d1, d2] }
  | _ => none }
def sessionLateRow : OpenClaim := { program := "ytmndhiaaolfepaadoor", sum := "87fcf9a43bae8ee03d2d55cbe663975a3dc3ff9b3729f68bb293e79c36e3d344", func := "royalty/royaltylaw08.SessionLate", spec := "sessionLate", unfollowed := true, recurses := true, named := ["royalty/period.lengths"], apart := false, laid := [("royalty/period.lengths", laid_royalty_period_lengths)] }
def SessionLateSaid : Prop := sessionLateRow.holds Tryd.pinned (OpenSpec.ofChange sessionLateSpec)

/-- ITS FALSE NEIGHBOUR: 'it returns false'. Refute it at one input. -/
def sessionLateWrong : ChangeSpec := { name := "sessionLate", fn := fun _ => fun
  | [d1, d2] => { results := [.lit (.bool false)], args := [d1, d2] }
  | _ => none }
def SessionLateWrongFalsely : Prop := sessionLateRow.holds Tryd.pinned (OpenSpec.ofChange sessionLateWrong)

/-- 'royaltylaw08.SessionReasons': WHATEVER THE INPUT: true; the input reads as it did. -/
def sessionReasonsSpec : ChangeSpec := { name := "sessionReasons", fn := fun _ => fun
  | [d] => { results := [.lit (.bool true)], args := [d] }
  | _ => none }
def sessionReasonsRow : OpenClaim := { program := "ytmndhiaaolfepaadoor", sum := "87fcf9a43bae8ee03d2d55cbe663975a3dc3ff9b3729f68bb293e79c36e3d344", func := "royalty/royaltylaw08.SessionReasons", spec := "sessionReasons", unfollowed := true, recurses := true, named := ["royalty/period.lengths"], apart := false, laid := [("royalty/period.lengths", laid_royalty_period_lengths)] }
def SessionReasonsSaid : Prop := sessionReasonsRow.holds Tryd.pinned (OpenSpec.ofChange sessionReasonsSpec)

/-- ITS FALSE NEIGHBOUR: 'it returns false'. Refute it at one input. -/
def sessionReasonsWrong : ChangeSpec := { name := "sessionReasons", fn := fun _ => fun
  | [d] => { results := [.lit (.bool false)], args := [d] }
  | _ => none }
def SessionReasonsWrongFalsely : Prop := sessionReasonsRow.holds Tryd.pinned (OpenSpec.ofChange sessionReasonsWrong)

/- THE SECOND FORM. 'bulk': how many values and letters a reading holds, each counted each time it is reached (what is shared counts as often as it is met; a slice's spare places count too). A statement '..UptoSaid' is the law's where the arguments, and the package variables that the reading takes, are together of bulk at most 1048576: NARROWER than '..Said'. Prove '..Said' where nothing that the law and all that it calls make is longer than what came in: it says more and counts as full. Else prove '..UptoSaid'. A law counts once. -/
mutual
def uptoBulk {H : Type} : DataW H → Nat
  | .lit (.string bytes) => bytes.length + 1
  | .lit _ => 1
  | .nil => 1
  | .ptr d => uptoBulk d + 1
  | .slice elems spare => uptoBulkAll elems + uptoBulkAll spare + 1
  | .agg parts => uptoBulkAll parts + 1
  | .iface _ d => uptoBulk d + 1
  | .map entries => uptoBulkEntries entries + 1
  | .held _ => 1
def uptoBulkAll {H : Type} : List (DataW H) → Nat
  | [] => 0
  | d :: r => uptoBulk d + uptoBulkAll r
def uptoBulkEntries {H : Type} : List (Lit × DataW H) → Nat
  | [] => 0
  | x :: r => uptoBulkEntry x + uptoBulkEntries r
def uptoBulkEntry {H : Type} : Lit × DataW H → Nat
  | (.string bytes, d) => bytes.length + uptoBulk d + 1
  | (_, d) => uptoBulk d + 1
 end
def uptoSmall : (H : Type) → List (DataW H) → Bool := fun _ ds => decide (uptoBulkAll ds ≤ 1048576)
def OpenSpec.upto (s : _root_.Go.ChangeSpec) : _root_.Go.OpenSpec := { _root_.Go.OpenSpec.ofChange s with cond := some uptoSmall }

/-- 'royaltylaw08.SessionPeriods', WHERE WHAT IT READS IS OF BULK AT MOST 1048576: true; the input reads as it did. -/
def sessionPeriodsUptoRow : OpenClaim := { program := "ytmndhiaaolfepaadoor", sum := "87fcf9a43bae8ee03d2d55cbe663975a3dc3ff9b3729f68bb293e79c36e3d344", func := "royalty/royaltylaw08.SessionPeriods", spec := "sessionPeriods", unfollowed := true, recurses := true, named := ["royalty/period.lengths"], apart := false, laid := [("royalty/period.lengths", laid_royalty_period_lengths)], narrowed := true }
def SessionPeriodsUptoSaid : Prop := sessionPeriodsUptoRow.holds Tryd.pinned (OpenSpec.upto sessionPeriodsSpec)

/-- 'royaltylaw08.SessionApart', WHERE WHAT IT READS IS OF BULK AT MOST 1048576: true; the input reads as it did. -/
def sessionApartUptoRow : OpenClaim := { program := "ytmndhiaaolfepaadoor", sum := "87fcf9a43bae8ee03d2d55cbe663975a3dc3ff9b3729f68bb293e79c36e3d344", func := "royalty/royaltylaw08.SessionApart", spec := "sessionApart", unfollowed := true, recurses := true, named := ["royalty/period.lengths"], apart := false, laid := [("royalty/period.lengths", laid_royalty_period_lengths)], narrowed := true }
def SessionApartUptoSaid : Prop := sessionApartUptoRow.holds Tryd.pinned (OpenSpec.upto sessionApartSpec)

/-- 'royaltylaw08.SessionDevices', WHERE WHAT IT READS IS OF BULK AT MOST 1048576: true; the input reads as it did. -/
def sessionDevicesUptoRow : OpenClaim := { program := "ytmndhiaaolfepaadoor", sum := "87fcf9a43bae8ee03d2d55cbe663975a3dc3ff9b3729f68bb293e79c36e3d344", func := "royalty/royaltylaw08.SessionDevices", spec := "sessionDevices", unfollowed := true, recurses := true, named := ["royalty/period.lengths"], apart := false, laid := [("royalty/period.lengths", laid_royalty_period_lengths)], narrowed := true }
def SessionDevicesUptoSaid : Prop := sessionDevicesUptoRow.holds Tryd.pinned (OpenSpec.upto sessionDevicesSpec)

/-- 'royaltylaw08.SessionLate', WHERE WHAT IT READS IS OF BULK AT MOST 1048576: true; the input reads as it did. -/
def sessionLateUptoRow : OpenClaim := { program := "ytmndhiaaolfepaadoor", sum := "87fcf9a43bae8ee03d2d55cbe663975a3dc3ff9b3729f68bb293e79c36e3d344", func := "royalty/royaltylaw08.SessionLate", spec := "sessionLate", unfollowed := true, recurses := true, named := ["royalty/period.lengths"], apart := false, laid := [("royalty/period.lengths", laid_royalty_period_lengths)], narrowed := true }
def SessionLateUptoSaid : Prop := sessionLateUptoRow.holds Tryd.pinned (OpenSpec.upto sessionLateSpec)

/-- 'royaltylaw08.SessionReasons', WHERE WHAT IT READS IS OF BULK AT MOST 1048576: true; the input reads as it did. -/
def sessionReasonsUptoRow : OpenClaim := { program := "ytmndhiaaolfepaadoor", sum := "87fcf9a43bae8ee03d2d55cbe663975a3dc3ff9b3729f68bb293e79c36e3d344", func := "royalty/royaltylaw08.SessionReasons", spec := "sessionReasons", unfollowed := true, recurses := true, named := ["royalty/period.lengths"], apart := false, laid := [("royalty/period.lengths", laid_royalty_period_lengths)], narrowed := true }
def SessionReasonsUptoSaid : Prop := sessionReasonsUptoRow.holds Tryd.pinned (OpenSpec.upto sessionReasonsSpec)

end Rows
end Go.Proofs.YtmndhiaaolfepaaDoor
