/-
  DERIVED. GIVEN WITH THE SEED: THE CARDS: each row of YtpcfgoadkfajfaaGreatDoorRows.lean that lists a variable, with what it lists TIED to the program's text (the seventh form; the later family's looks); each row that meets fmt, with fmt's text TOLD by the authors' own Lean function (tested against real Go, not proved from fmt's source: count such statements apart). THE CARD IS WHAT COUNTS. Prove the row's statement (the work); the ties are given (YtpcfgoadkfajfaaGreatDoorTie.lean); close each card by the builder's one call (the guide's Derived/Test/ToyasCard.lean, 'card_holds'). Laid BY PROGRAM, IN A SANDBOX (cutbox-door.mjs). By AI agents, Wed Nov 11 2026. No macro, syntax, notation, axiom, sorry.
-/
import Derived.Test.YtpcfgoadkfajfaaGreatDoorRows
import GoSem.ClaimSeven
namespace Go.Proofs.YtpcfgoadkfajfaaGreatDoor
namespace Rows

/-- THE TIED CARD OF 'royaltylaw11.FraudHistories'. -/
def fraudHistoriesCard : Claim7 := { stood := { row := fraudHistoriesRow, standIns := [], harness := (true, "067b25b95326dce088241549124532ea4d5d7407f71d2f329a8e2c5a1d2d9b97"), looks := false }, kinds := [], alts := [], laidByText := true, laidKinds := [.data], laidTests := true, laidLooks := .later }
def FraudHistoriesCardSaid : Prop := Claim7.holds Tryz.pinned (.plain (OpenSpec.ofChange fraudHistoriesSpec)) fraudHistoriesCard

/-- THE SECOND FORM's CARD OF 'royaltylaw11.FraudHistories'. -/
def fraudHistoriesUptoCard : Claim7 := { stood := { row := fraudHistoriesUptoRow, standIns := [], harness := (true, "067b25b95326dce088241549124532ea4d5d7407f71d2f329a8e2c5a1d2d9b97"), looks := false }, kinds := [], alts := [], laidByText := true, laidKinds := [.data], laidTests := true, laidLooks := .later }
def FraudHistoriesUptoCardSaid : Prop := Claim7.holds Tryz.pinned (.plain (OpenSpec.upto fraudHistoriesSpec)) fraudHistoriesUptoCard
end Rows
end Go.Proofs.YtpcfgoadkfajfaaGreatDoor
