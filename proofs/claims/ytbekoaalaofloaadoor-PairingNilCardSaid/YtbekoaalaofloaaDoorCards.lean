/-
  DERIVED. GIVEN WITH THE SEED: THE CARDS: each row of YtbekoaalaofloaaDoorRows.lean that lists a variable, with what it lists TIED to the program's text (the seventh form; the later family's looks); each row that meets fmt, with fmt's text TOLD by the authors' own Lean function (tested against real Go, not proved from fmt's source: count such statements apart). THE CARD IS WHAT COUNTS. Prove the row's statement (the work); the ties are given (YtbekoaalaofloaaDoorTie.lean); close each card by the builder's one call (the guide's Derived/Test/ToyasCard.lean, 'card_holds'). Laid BY PROGRAM, IN A SANDBOX (cutbox-door.mjs). By AI agents, Wed Nov 11 2026. No macro, syntax, notation, axiom, sorry.
-/
import Derived.Test.YtbekoaalaofloaaDoorRows
import GoSem.ClaimSeven
namespace Go.Proofs.YtbekoaalaofloaaDoor
namespace Rows

/-- THE TIED CARD OF 'spinneylaw19.PairingSorts'. -/
def pairingSortsCard : Claim7 := { stood := { row := pairingSortsRow, standIns := [], harness := (true, "77304646eec8691cb08faf6695c4ba0ee240ef03be05b65327af219676ea5487"), looks := false }, kinds := [], alts := [], laidByText := true, laidKinds := [.data, .pinned], laidTests := true, laidLooks := .later }
def PairingSortsCardSaid : Prop := Claim7.holds Tryd.pinned (.plain (OpenSpec.ofChange pairingSortsSpec)) pairingSortsCard

/-- THE TIED CARD OF 'spinneylaw19.PairingNil'. -/
def pairingNilCard : Claim7 := { stood := { row := pairingNilRow, standIns := [], harness := (true, "77304646eec8691cb08faf6695c4ba0ee240ef03be05b65327af219676ea5487"), looks := false }, kinds := [], alts := [], laidByText := true, laidKinds := [.data, .pinned], laidTests := true, laidLooks := .later }
def PairingNilCardSaid : Prop := Claim7.holds Tryd.pinned (.plain (OpenSpec.ofChange pairingNilSpec)) pairingNilCard

/-- THE SECOND FORM's CARD OF 'spinneylaw19.PairingSorts'. -/
def pairingSortsUptoCard : Claim7 := { stood := { row := pairingSortsUptoRow, standIns := [], harness := (true, "77304646eec8691cb08faf6695c4ba0ee240ef03be05b65327af219676ea5487"), looks := false }, kinds := [], alts := [], laidByText := true, laidKinds := [.data, .pinned], laidTests := true, laidLooks := .later }
def PairingSortsUptoCardSaid : Prop := Claim7.holds Tryd.pinned (.plain (OpenSpec.upto pairingSortsSpec)) pairingSortsUptoCard

/-- THE SECOND FORM's CARD OF 'spinneylaw19.PairingNil'. -/
def pairingNilUptoCard : Claim7 := { stood := { row := pairingNilUptoRow, standIns := [], harness := (true, "77304646eec8691cb08faf6695c4ba0ee240ef03be05b65327af219676ea5487"), looks := false }, kinds := [], alts := [], laidByText := true, laidKinds := [.data, .pinned], laidTests := true, laidLooks := .later }
def PairingNilUptoCardSaid : Prop := Claim7.holds Tryd.pinned (.plain (OpenSpec.upto pairingNilSpec)) pairingNilUptoCard
end Rows
end Go.Proofs.YtbekoaalaofloaaDoor
