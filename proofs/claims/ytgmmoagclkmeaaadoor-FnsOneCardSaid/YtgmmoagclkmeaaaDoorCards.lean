/-
  DERIVED. GIVEN WITH THE SEED: THE CARDS: each row of YtgmmoagclkmeaaaDoorRows.lean that lists a variable, with what it lists TIED to the program's text (the seventh form; the later family's looks); each row that meets fmt, with fmt's text TOLD by the authors' own Lean function (tested against real Go, not proved from fmt's source: count such statements apart). THE CARD IS WHAT COUNTS. Prove the row's statement (the work); the ties are given (YtgmmoagclkmeaaaDoorTie.lean); close each card by the builder's one call (the guide's Derived/Test/ToyasCard.lean, 'card_holds'). Laid BY PROGRAM, IN A SANDBOX (cutbox-door.mjs). By AI agents, Wed Nov 11 2026. No macro, syntax, notation, axiom, sorry.
-/
import Derived.Test.YtgmmoagclkmeaaaDoorRows
import GoSem.ClaimSeven
namespace Go.Proofs.YtgmmoagclkmeaaaDoor
namespace Rows

/-- THE TIED CARD OF 'spinneylaw05.FnsIs'. -/
def fnsIsCard : Claim7 := { stood := { row := fnsIsRow, standIns := [], harness := (true, "93eb345cc38b7f5d44c13130382bf8a3d4b6c565e1a365fa2d4a662a748ebd46"), looks := false }, kinds := [], alts := [], laidByText := true, laidKinds := [.data, .pinned], laidTests := true, laidLooks := .later }
def FnsIsCardSaid : Prop := Claim7.holds Tryd.pinned (.plain (OpenSpec.ofChange fnsIsSpec)) fnsIsCard

/-- THE TIED CARD OF 'spinneylaw05.FnsTwo'. -/
def fnsTwoCard : Claim7 := { stood := { row := fnsTwoRow, standIns := [], harness := (true, "93eb345cc38b7f5d44c13130382bf8a3d4b6c565e1a365fa2d4a662a748ebd46"), looks := false }, kinds := [], alts := [], laidByText := true, laidKinds := [.data, .pinned], laidTests := true, laidLooks := .later }
def FnsTwoCardSaid : Prop := Claim7.holds Tryd.pinned (.plain (OpenSpec.ofChange fnsTwoSpec)) fnsTwoCard

/-- THE TIED CARD OF 'spinneylaw05.FnsRight'. -/
def fnsRightCard : Claim7 := { stood := { row := fnsRightRow, standIns := [], harness := (true, "93eb345cc38b7f5d44c13130382bf8a3d4b6c565e1a365fa2d4a662a748ebd46"), looks := false }, kinds := [], alts := [], laidByText := true, laidKinds := [.data, .pinned], laidTests := true, laidLooks := .later }
def FnsRightCardSaid : Prop := Claim7.holds Tryd.pinned (.plain (OpenSpec.ofChange fnsRightSpec)) fnsRightCard

/-- THE TIED CARD OF 'spinneylaw05.FnsOne'. -/
def fnsOneCard : Claim7 := { stood := { row := fnsOneRow, standIns := [], harness := (true, "93eb345cc38b7f5d44c13130382bf8a3d4b6c565e1a365fa2d4a662a748ebd46"), looks := false }, kinds := [], alts := [], laidByText := true, laidKinds := [.data, .pinned], laidTests := true, laidLooks := .later }
def FnsOneCardSaid : Prop := Claim7.holds Tryd.pinned (.plain (OpenSpec.ofChange fnsOneSpec)) fnsOneCard

/-- THE TIED CARD OF 'spinneylaw05.FnsMore'. -/
def fnsMoreCard : Claim7 := { stood := { row := fnsMoreRow, standIns := [], harness := (true, "93eb345cc38b7f5d44c13130382bf8a3d4b6c565e1a365fa2d4a662a748ebd46"), looks := false }, kinds := [], alts := [], laidByText := true, laidKinds := [.data, .pinned], laidTests := true, laidLooks := .later }
def FnsMoreCardSaid : Prop := Claim7.holds Tryd.pinned (.plain (OpenSpec.ofChange fnsMoreSpec)) fnsMoreCard

/-- THE SECOND FORM's CARD OF 'spinneylaw05.FnsIs'. -/
def fnsIsUptoCard : Claim7 := { stood := { row := fnsIsUptoRow, standIns := [], harness := (true, "93eb345cc38b7f5d44c13130382bf8a3d4b6c565e1a365fa2d4a662a748ebd46"), looks := false }, kinds := [], alts := [], laidByText := true, laidKinds := [.data, .pinned], laidTests := true, laidLooks := .later }
def FnsIsUptoCardSaid : Prop := Claim7.holds Tryd.pinned (.plain (OpenSpec.upto fnsIsSpec)) fnsIsUptoCard

/-- THE SECOND FORM's CARD OF 'spinneylaw05.FnsTwo'. -/
def fnsTwoUptoCard : Claim7 := { stood := { row := fnsTwoUptoRow, standIns := [], harness := (true, "93eb345cc38b7f5d44c13130382bf8a3d4b6c565e1a365fa2d4a662a748ebd46"), looks := false }, kinds := [], alts := [], laidByText := true, laidKinds := [.data, .pinned], laidTests := true, laidLooks := .later }
def FnsTwoUptoCardSaid : Prop := Claim7.holds Tryd.pinned (.plain (OpenSpec.upto fnsTwoSpec)) fnsTwoUptoCard

/-- THE SECOND FORM's CARD OF 'spinneylaw05.FnsRight'. -/
def fnsRightUptoCard : Claim7 := { stood := { row := fnsRightUptoRow, standIns := [], harness := (true, "93eb345cc38b7f5d44c13130382bf8a3d4b6c565e1a365fa2d4a662a748ebd46"), looks := false }, kinds := [], alts := [], laidByText := true, laidKinds := [.data, .pinned], laidTests := true, laidLooks := .later }
def FnsRightUptoCardSaid : Prop := Claim7.holds Tryd.pinned (.plain (OpenSpec.upto fnsRightSpec)) fnsRightUptoCard

/-- THE SECOND FORM's CARD OF 'spinneylaw05.FnsOne'. -/
def fnsOneUptoCard : Claim7 := { stood := { row := fnsOneUptoRow, standIns := [], harness := (true, "93eb345cc38b7f5d44c13130382bf8a3d4b6c565e1a365fa2d4a662a748ebd46"), looks := false }, kinds := [], alts := [], laidByText := true, laidKinds := [.data, .pinned], laidTests := true, laidLooks := .later }
def FnsOneUptoCardSaid : Prop := Claim7.holds Tryd.pinned (.plain (OpenSpec.upto fnsOneSpec)) fnsOneUptoCard

/-- THE SECOND FORM's CARD OF 'spinneylaw05.FnsMore'. -/
def fnsMoreUptoCard : Claim7 := { stood := { row := fnsMoreUptoRow, standIns := [], harness := (true, "93eb345cc38b7f5d44c13130382bf8a3d4b6c565e1a365fa2d4a662a748ebd46"), looks := false }, kinds := [], alts := [], laidByText := true, laidKinds := [.data, .pinned], laidTests := true, laidLooks := .later }
def FnsMoreUptoCardSaid : Prop := Claim7.holds Tryd.pinned (.plain (OpenSpec.upto fnsMoreSpec)) fnsMoreUptoCard
end Rows
end Go.Proofs.YtgmmoagclkmeaaaDoor
