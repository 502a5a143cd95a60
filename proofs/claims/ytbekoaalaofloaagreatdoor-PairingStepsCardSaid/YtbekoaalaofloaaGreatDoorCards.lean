/-
  DERIVED. GIVEN WITH THE SEED: THE CARDS: each row of YtbekoaalaofloaaGreatDoorRows.lean that lists a variable, with what it lists TIED to the program's text (the seventh form; the later family's looks); each row that meets fmt, with fmt's text TOLD by the authors' own Lean function (tested against real Go, not proved from fmt's source: count such statements apart). THE CARD IS WHAT COUNTS. Prove the row's statement (the work); the ties are given (YtbekoaalaofloaaGreatDoorTie.lean); close each card by the builder's one call (the guide's Derived/Test/ToyasCard.lean, 'card_holds'). Laid BY PROGRAM, IN A SANDBOX (cutbox-door.mjs). By AI agents, Wed Nov 11 2026. No macro, syntax, notation, axiom, sorry.
-/
import Derived.Test.YtbekoaalaofloaaGreatDoorRows
import GoSem.ClaimSeven
namespace Go.Proofs.YtbekoaalaofloaaGreatDoor
namespace Rows

/-- THE TIED CARD OF 'spinneylaw19.PairingSteps'. -/
def pairingStepsCard : Claim7 := { stood := { row := pairingStepsRow, standIns := [], harness := (true, "f14fd5b46340af5e065da17c5a56569126f918da998cf7ea8a41e1f8b33df665"), looks := false }, kinds := [], alts := [], laidByText := true, laidKinds := [.data, .pinned], laidTests := true, laidLooks := .later }
def PairingStepsCardSaid : Prop := Claim7.holds Tryz.pinned (.plain (OpenSpec.ofChange pairingStepsSpec)) pairingStepsCard

/-- THE SECOND FORM's CARD OF 'spinneylaw19.PairingSteps'. -/
def pairingStepsUptoCard : Claim7 := { stood := { row := pairingStepsUptoRow, standIns := [], harness := (true, "f14fd5b46340af5e065da17c5a56569126f918da998cf7ea8a41e1f8b33df665"), looks := false }, kinds := [], alts := [], laidByText := true, laidKinds := [.data, .pinned], laidTests := true, laidLooks := .later }
def PairingStepsUptoCardSaid : Prop := Claim7.holds Tryz.pinned (.plain (OpenSpec.upto pairingStepsSpec)) pairingStepsUptoCard
end Rows
end Go.Proofs.YtbekoaalaofloaaGreatDoor
