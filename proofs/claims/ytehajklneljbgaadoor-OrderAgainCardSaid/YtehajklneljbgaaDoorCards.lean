/-
  DERIVED. GIVEN WITH THE SEED: THE CARDS: each row of YtehajklneljbgaaDoorRows.lean that lists a variable, with what it lists TIED to the program's text (the seventh form; the later family's looks); each row that meets fmt, with fmt's text TOLD by the authors' own Lean function (tested against real Go, not proved from fmt's source: count such statements apart). THE CARD IS WHAT COUNTS. Prove the row's statement (the work); the ties are given (YtehajklneljbgaaDoorTie.lean); close each card by the builder's one call (the guide's Derived/Test/ToyasCard.lean, 'card_holds'). Laid BY PROGRAM, IN A SANDBOX (cutbox-door.mjs). By AI agents, Wed Nov 11 2026. No macro, syntax, notation, axiom, sorry.
-/
import Derived.Test.YtehajklneljbgaaDoorRows
import GoSem.ClaimSeven
namespace Go.Proofs.YtehajklneljbgaaDoor
namespace Rows

/-- THE TIED CARD OF 'spinneylaw06.OrderLine'. -/
def orderLineCard : Claim7 := { stood := { row := orderLineRow, standIns := [], harness := (true, "e9beff0215d096f3eca06363bb3e7cd30c20f984bdbd580385ecfccc843919bc"), looks := false }, kinds := [], alts := [], laidByText := true, laidKinds := [.data, .pinned], laidTests := true, laidLooks := .later }
def OrderLineCardSaid : Prop := Claim7.holds Tryd.pinned (.plain (OpenSpec.ofChange orderLineSpec)) orderLineCard

/-- THE TIED CARD OF 'spinneylaw06.OrderAgain'. -/
def orderAgainCard : Claim7 := { stood := { row := orderAgainRow, standIns := [], harness := (true, "e9beff0215d096f3eca06363bb3e7cd30c20f984bdbd580385ecfccc843919bc"), looks := false }, kinds := [], alts := [], laidByText := true, laidKinds := [.data, .pinned], laidTests := true, laidLooks := .later }
def OrderAgainCardSaid : Prop := Claim7.holds Tryd.pinned (.plain (OpenSpec.ofChange orderAgainSpec)) orderAgainCard

/-- THE SECOND FORM's CARD OF 'spinneylaw06.OrderLine'. -/
def orderLineUptoCard : Claim7 := { stood := { row := orderLineUptoRow, standIns := [], harness := (true, "e9beff0215d096f3eca06363bb3e7cd30c20f984bdbd580385ecfccc843919bc"), looks := false }, kinds := [], alts := [], laidByText := true, laidKinds := [.data, .pinned], laidTests := true, laidLooks := .later }
def OrderLineUptoCardSaid : Prop := Claim7.holds Tryd.pinned (.plain (OpenSpec.upto orderLineSpec)) orderLineUptoCard

/-- THE SECOND FORM's CARD OF 'spinneylaw06.OrderAgain'. -/
def orderAgainUptoCard : Claim7 := { stood := { row := orderAgainUptoRow, standIns := [], harness := (true, "e9beff0215d096f3eca06363bb3e7cd30c20f984bdbd580385ecfccc843919bc"), looks := false }, kinds := [], alts := [], laidByText := true, laidKinds := [.data, .pinned], laidTests := true, laidLooks := .later }
def OrderAgainUptoCardSaid : Prop := Claim7.holds Tryd.pinned (.plain (OpenSpec.upto orderAgainSpec)) orderAgainUptoCard
end Rows
end Go.Proofs.YtehajklneljbgaaDoor
