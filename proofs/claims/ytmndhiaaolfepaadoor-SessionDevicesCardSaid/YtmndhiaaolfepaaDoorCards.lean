/-
  DERIVED. GIVEN WITH THE SEED: THE CARDS: each row of YtmndhiaaolfepaaDoorRows.lean that lists a variable, with what it lists TIED to the program's text (the seventh form; the later family's looks); each row that meets fmt, with fmt's text TOLD by the authors' own Lean function (tested against real Go, not proved from fmt's source: count such statements apart). THE CARD IS WHAT COUNTS. Prove the row's statement (the work); the ties are given (YtmndhiaaolfepaaDoorTie.lean); close each card by the builder's one call (the guide's Derived/Test/ToyasCard.lean, 'card_holds'). Laid BY PROGRAM, IN A SANDBOX (cutbox-door.mjs). By AI agents, Wed Nov 11 2026. No macro, syntax, notation, axiom, sorry.
-/
import Derived.Test.YtmndhiaaolfepaaDoorRows
import GoSem.ClaimSeven
namespace Go.Proofs.YtmndhiaaolfepaaDoor
namespace Rows

/-- THE TIED CARD OF 'royaltylaw08.SessionPeriods'. -/
def sessionPeriodsCard : Claim7 := { stood := { row := sessionPeriodsRow, standIns := [], harness := (true, "5f790156d90288c4a5167b1843711d486acc4973f88d7d8fd58e6086039a24aa"), looks := false }, kinds := [], alts := [], laidByText := true, laidKinds := [.data], laidTests := true, laidLooks := .later }
def SessionPeriodsCardSaid : Prop := Claim7.holds Tryd.pinned (.plain (OpenSpec.ofChange sessionPeriodsSpec)) sessionPeriodsCard

/-- THE TIED CARD OF 'royaltylaw08.SessionApart'. -/
def sessionApartCard : Claim7 := { stood := { row := sessionApartRow, standIns := [], harness := (true, "5f790156d90288c4a5167b1843711d486acc4973f88d7d8fd58e6086039a24aa"), looks := false }, kinds := [], alts := [], laidByText := true, laidKinds := [.data], laidTests := true, laidLooks := .later }
def SessionApartCardSaid : Prop := Claim7.holds Tryd.pinned (.plain (OpenSpec.ofChange sessionApartSpec)) sessionApartCard

/-- THE TIED CARD OF 'royaltylaw08.SessionDevices'. -/
def sessionDevicesCard : Claim7 := { stood := { row := sessionDevicesRow, standIns := [], harness := (true, "5f790156d90288c4a5167b1843711d486acc4973f88d7d8fd58e6086039a24aa"), looks := false }, kinds := [], alts := [], laidByText := true, laidKinds := [.data], laidTests := true, laidLooks := .later }
def SessionDevicesCardSaid : Prop := Claim7.holds Tryd.pinned (.plain (OpenSpec.ofChange sessionDevicesSpec)) sessionDevicesCard

/-- THE TIED CARD OF 'royaltylaw08.SessionLate'. -/
def sessionLateCard : Claim7 := { stood := { row := sessionLateRow, standIns := [], harness := (true, "5f790156d90288c4a5167b1843711d486acc4973f88d7d8fd58e6086039a24aa"), looks := false }, kinds := [], alts := [], laidByText := true, laidKinds := [.data], laidTests := true, laidLooks := .later }
def SessionLateCardSaid : Prop := Claim7.holds Tryd.pinned (.plain (OpenSpec.ofChange sessionLateSpec)) sessionLateCard

/-- THE TIED CARD OF 'royaltylaw08.SessionReasons'. -/
def sessionReasonsCard : Claim7 := { stood := { row := sessionReasonsRow, standIns := [], harness := (true, "5f790156d90288c4a5167b1843711d486acc4973f88d7d8fd58e6086039a24aa"), looks := false }, kinds := [], alts := [], laidByText := true, laidKinds := [.data], laidTests := true, laidLooks := .later }
def SessionReasonsCardSaid : Prop := Claim7.holds Tryd.pinned (.plain (OpenSpec.ofChange sessionReasonsSpec)) sessionReasonsCard

/-- THE SECOND FORM's CARD OF 'royaltylaw08.SessionPeriods'. -/
def sessionPeriodsUptoCard : Claim7 := { stood := { row := sessionPeriodsUptoRow, standIns := [], harness := (true, "5f790156d90288c4a5167b1843711d486acc4973f88d7d8fd58e6086039a24aa"), looks := false }, kinds := [], alts := [], laidByText := true, laidKinds := [.data], laidTests := true, laidLooks := .later }
def SessionPeriodsUptoCardSaid : Prop := Claim7.holds Tryd.pinned (.plain (OpenSpec.upto sessionPeriodsSpec)) sessionPeriodsUptoCard

/-- THE SECOND FORM's CARD OF 'royaltylaw08.SessionApart'. -/
def sessionApartUptoCard : Claim7 := { stood := { row := sessionApartUptoRow, standIns := [], harness := (true, "5f790156d90288c4a5167b1843711d486acc4973f88d7d8fd58e6086039a24aa"), looks := false }, kinds := [], alts := [], laidByText := true, laidKinds := [.data], laidTests := true, laidLooks := .later }
def SessionApartUptoCardSaid : Prop := Claim7.holds Tryd.pinned (.plain (OpenSpec.upto sessionApartSpec)) sessionApartUptoCard

/-- THE SECOND FORM's CARD OF 'royaltylaw08.SessionDevices'. -/
def sessionDevicesUptoCard : Claim7 := { stood := { row := sessionDevicesUptoRow, standIns := [], harness := (true, "5f790156d90288c4a5167b1843711d486acc4973f88d7d8fd58e6086039a24aa"), looks := false }, kinds := [], alts := [], laidByText := true, laidKinds := [.data], laidTests := true, laidLooks := .later }
def SessionDevicesUptoCardSaid : Prop := Claim7.holds Tryd.pinned (.plain (OpenSpec.upto sessionDevicesSpec)) sessionDevicesUptoCard

/-- THE SECOND FORM's CARD OF 'royaltylaw08.SessionLate'. -/
def sessionLateUptoCard : Claim7 := { stood := { row := sessionLateUptoRow, standIns := [], harness := (true, "5f790156d90288c4a5167b1843711d486acc4973f88d7d8fd58e6086039a24aa"), looks := false }, kinds := [], alts := [], laidByText := true, laidKinds := [.data], laidTests := true, laidLooks := .later }
def SessionLateUptoCardSaid : Prop := Claim7.holds Tryd.pinned (.plain (OpenSpec.upto sessionLateSpec)) sessionLateUptoCard

/-- THE SECOND FORM's CARD OF 'royaltylaw08.SessionReasons'. -/
def sessionReasonsUptoCard : Claim7 := { stood := { row := sessionReasonsUptoRow, standIns := [], harness := (true, "5f790156d90288c4a5167b1843711d486acc4973f88d7d8fd58e6086039a24aa"), looks := false }, kinds := [], alts := [], laidByText := true, laidKinds := [.data], laidTests := true, laidLooks := .later }
def SessionReasonsUptoCardSaid : Prop := Claim7.holds Tryd.pinned (.plain (OpenSpec.upto sessionReasonsSpec)) sessionReasonsUptoCard
end Rows
end Go.Proofs.YtmndhiaaolfepaaDoor
