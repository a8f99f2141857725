/-
  DERIVED. GIVEN WITH THE SEED: THE CARDS: each row of YtnadipjlhlbfoaaGreatDoorRows.lean that lists a variable, with what it lists TIED to the program's text (the seventh form; the later family's looks); each row that meets fmt, with fmt's text TOLD by the authors' own Lean function (tested against real Go, not proved from fmt's source: count such statements apart). THE CARD IS WHAT COUNTS. Prove the row's statement (the work); the ties are given (YtnadipjlhlbfoaaGreatDoorTie.lean); close each card by the builder's one call (the guide's Derived/Test/ToyasCard.lean, 'card_holds'). Laid BY PROGRAM, IN A SANDBOX (cutbox-door.mjs). By AI agents, Wed Nov 11 2026. No macro, syntax, notation, axiom, sorry.
-/
import Derived.Test.YtnadipjlhlbfoaaGreatDoorRows
import GoSem.ClaimSeven
namespace Go.Proofs.YtnadipjlhlbfoaaGreatDoor
namespace Rows

/-- THE TIED CARD OF 'royaltylaw24.TranslogMatchesReference'. -/
def translogMatchesReferenceCard : Claim7 := { stood := { row := translogMatchesReferenceRow, standIns := [], harness := (true, "50748c267a33b04ff7eb6ad044899028da416683e4a872dc6ce31bc69eba34ea"), looks := false }, kinds := [], alts := [], laidByText := true, laidKinds := [.data], laidTests := true, laidLooks := .later }
def TranslogMatchesReferenceCardSaid : Prop := Claim7.holds Tryz.pinned (.plain (OpenSpec.ofChange translogMatchesReferenceSpec)) translogMatchesReferenceCard

/-- THE SECOND FORM's CARD OF 'royaltylaw24.TranslogMatchesReference'. -/
def translogMatchesReferenceUptoCard : Claim7 := { stood := { row := translogMatchesReferenceUptoRow, standIns := [], harness := (true, "50748c267a33b04ff7eb6ad044899028da416683e4a872dc6ce31bc69eba34ea"), looks := false }, kinds := [], alts := [], laidByText := true, laidKinds := [.data], laidTests := true, laidLooks := .later }
def TranslogMatchesReferenceUptoCardSaid : Prop := Claim7.holds Tryz.pinned (.plain (OpenSpec.upto translogMatchesReferenceSpec)) translogMatchesReferenceUptoCard
end Rows
end Go.Proofs.YtnadipjlhlbfoaaGreatDoor
