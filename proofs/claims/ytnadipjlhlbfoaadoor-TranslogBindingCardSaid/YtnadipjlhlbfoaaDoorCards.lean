/-
  DERIVED. GIVEN WITH THE SEED: THE CARDS: each row of YtnadipjlhlbfoaaDoorRows.lean that lists a variable, with what it lists TIED to the program's text (the seventh form; the later family's looks); each row that meets fmt, with fmt's text TOLD by the authors' own Lean function (tested against real Go, not proved from fmt's source: count such statements apart). THE CARD IS WHAT COUNTS. Prove the row's statement (the work); the ties are given (YtnadipjlhlbfoaaDoorTie.lean); close each card by the builder's one call (the guide's Derived/Test/ToyasCard.lean, 'card_holds'). Laid BY PROGRAM, IN A SANDBOX (cutbox-door.mjs). By AI agents, Wed Nov 11 2026. No macro, syntax, notation, axiom, sorry.
-/
import Derived.Test.YtnadipjlhlbfoaaDoorRows
import GoSem.ClaimSeven
namespace Go.Proofs.YtnadipjlhlbfoaaDoor
namespace Rows

/-- THE TIED CARD OF 'royaltylaw24.TranslogProves'. -/
def translogProvesCard : Claim7 := { stood := { row := translogProvesRow, standIns := [], harness := (true, "2d0e976346e60979704dc571e3c5d4eaea94857510e388b95b1eefbf14baf190"), looks := false }, kinds := [], alts := [], laidByText := true, laidKinds := [.data], laidTests := true, laidLooks := .later }
def TranslogProvesCardSaid : Prop := Claim7.holds Tryd.pinned (.plain (OpenSpec.ofChange translogProvesSpec)) translogProvesCard

/-- THE TIED CARD OF 'royaltylaw24.TranslogBinding'. -/
def translogBindingCard : Claim7 := { stood := { row := translogBindingRow, standIns := [], harness := (true, "2d0e976346e60979704dc571e3c5d4eaea94857510e388b95b1eefbf14baf190"), looks := false }, kinds := [], alts := [], laidByText := true, laidKinds := [.data], laidTests := true, laidLooks := .later }
def TranslogBindingCardSaid : Prop := Claim7.holds Tryd.pinned (.plain (OpenSpec.ofChange translogBindingSpec)) translogBindingCard

/-- THE TIED CARD OF 'royaltylaw24.TranslogGrows'. -/
def translogGrowsCard : Claim7 := { stood := { row := translogGrowsRow, standIns := [], harness := (true, "2d0e976346e60979704dc571e3c5d4eaea94857510e388b95b1eefbf14baf190"), looks := false }, kinds := [], alts := [], laidByText := true, laidKinds := [.data], laidTests := true, laidLooks := .later }
def TranslogGrowsCardSaid : Prop := Claim7.holds Tryd.pinned (.plain (OpenSpec.ofChange translogGrowsSpec)) translogGrowsCard

/-- THE TIED CARD OF 'royaltylaw24.TranslogEqual'. -/
def translogEqualCard : Claim7 := { stood := { row := translogEqualRow, standIns := [], harness := (true, "2d0e976346e60979704dc571e3c5d4eaea94857510e388b95b1eefbf14baf190"), looks := false }, kinds := [], alts := [], laidByText := true, laidKinds := [.data], laidTests := true, laidLooks := .later }
def TranslogEqualCardSaid : Prop := Claim7.holds Tryd.pinned (.plain (OpenSpec.ofChange translogEqualSpec)) translogEqualCard

/-- THE TIED CARD OF 'royaltylaw24.TranslogPrivate'. -/
def translogPrivateCard : Claim7 := { stood := { row := translogPrivateRow, standIns := [], harness := (true, "2d0e976346e60979704dc571e3c5d4eaea94857510e388b95b1eefbf14baf190"), looks := false }, kinds := [], alts := [], laidByText := true, laidKinds := [.data], laidTests := true, laidLooks := .later }
def TranslogPrivateCardSaid : Prop := Claim7.holds Tryd.pinned (.plain (OpenSpec.ofChange translogPrivateSpec)) translogPrivateCard

/-- THE TIED CARD OF 'royaltylaw24.TranslogOwns'. -/
def translogOwnsCard : Claim7 := { stood := { row := translogOwnsRow, standIns := [], harness := (true, "2d0e976346e60979704dc571e3c5d4eaea94857510e388b95b1eefbf14baf190"), looks := false }, kinds := [], alts := [], laidByText := true, laidKinds := [.data], laidTests := true, laidLooks := .later }
def TranslogOwnsCardSaid : Prop := Claim7.holds Tryd.pinned (.plain (OpenSpec.ofChange translogOwnsSpec)) translogOwnsCard

/-- THE SECOND FORM's CARD OF 'royaltylaw24.TranslogProves'. -/
def translogProvesUptoCard : Claim7 := { stood := { row := translogProvesUptoRow, standIns := [], harness := (true, "2d0e976346e60979704dc571e3c5d4eaea94857510e388b95b1eefbf14baf190"), looks := false }, kinds := [], alts := [], laidByText := true, laidKinds := [.data], laidTests := true, laidLooks := .later }
def TranslogProvesUptoCardSaid : Prop := Claim7.holds Tryd.pinned (.plain (OpenSpec.upto translogProvesSpec)) translogProvesUptoCard

/-- THE SECOND FORM's CARD OF 'royaltylaw24.TranslogBinding'. -/
def translogBindingUptoCard : Claim7 := { stood := { row := translogBindingUptoRow, standIns := [], harness := (true, "2d0e976346e60979704dc571e3c5d4eaea94857510e388b95b1eefbf14baf190"), looks := false }, kinds := [], alts := [], laidByText := true, laidKinds := [.data], laidTests := true, laidLooks := .later }
def TranslogBindingUptoCardSaid : Prop := Claim7.holds Tryd.pinned (.plain (OpenSpec.upto translogBindingSpec)) translogBindingUptoCard

/-- THE SECOND FORM's CARD OF 'royaltylaw24.TranslogGrows'. -/
def translogGrowsUptoCard : Claim7 := { stood := { row := translogGrowsUptoRow, standIns := [], harness := (true, "2d0e976346e60979704dc571e3c5d4eaea94857510e388b95b1eefbf14baf190"), looks := false }, kinds := [], alts := [], laidByText := true, laidKinds := [.data], laidTests := true, laidLooks := .later }
def TranslogGrowsUptoCardSaid : Prop := Claim7.holds Tryd.pinned (.plain (OpenSpec.upto translogGrowsSpec)) translogGrowsUptoCard

/-- THE SECOND FORM's CARD OF 'royaltylaw24.TranslogEqual'. -/
def translogEqualUptoCard : Claim7 := { stood := { row := translogEqualUptoRow, standIns := [], harness := (true, "2d0e976346e60979704dc571e3c5d4eaea94857510e388b95b1eefbf14baf190"), looks := false }, kinds := [], alts := [], laidByText := true, laidKinds := [.data], laidTests := true, laidLooks := .later }
def TranslogEqualUptoCardSaid : Prop := Claim7.holds Tryd.pinned (.plain (OpenSpec.upto translogEqualSpec)) translogEqualUptoCard

/-- THE SECOND FORM's CARD OF 'royaltylaw24.TranslogPrivate'. -/
def translogPrivateUptoCard : Claim7 := { stood := { row := translogPrivateUptoRow, standIns := [], harness := (true, "2d0e976346e60979704dc571e3c5d4eaea94857510e388b95b1eefbf14baf190"), looks := false }, kinds := [], alts := [], laidByText := true, laidKinds := [.data], laidTests := true, laidLooks := .later }
def TranslogPrivateUptoCardSaid : Prop := Claim7.holds Tryd.pinned (.plain (OpenSpec.upto translogPrivateSpec)) translogPrivateUptoCard

/-- THE SECOND FORM's CARD OF 'royaltylaw24.TranslogOwns'. -/
def translogOwnsUptoCard : Claim7 := { stood := { row := translogOwnsUptoRow, standIns := [], harness := (true, "2d0e976346e60979704dc571e3c5d4eaea94857510e388b95b1eefbf14baf190"), looks := false }, kinds := [], alts := [], laidByText := true, laidKinds := [.data], laidTests := true, laidLooks := .later }
def TranslogOwnsUptoCardSaid : Prop := Claim7.holds Tryd.pinned (.plain (OpenSpec.upto translogOwnsSpec)) translogOwnsUptoCard
end Rows
end Go.Proofs.YtnadipjlhlbfoaaDoor
