/-
  DERIVED. GIVEN WITH THE SEED: THE CARDS: each row of YtmebfblabccblaaDoorRows.lean that lists a variable, with what it lists TIED to the program's text (the seventh form; the later family's looks); each row that meets fmt, with fmt's text TOLD by the authors' own Lean function (tested against real Go, not proved from fmt's source: count such statements apart). THE CARD IS WHAT COUNTS. Prove the row's statement (the work); the ties are given (YtmebfblabccblaaDoorTie.lean); close each card by the builder's one call (the guide's Derived/Test/ToyasCard.lean, 'card_holds'). Laid BY PROGRAM, IN A SANDBOX (cutbox-door.mjs). By AI agents, Wed Nov 11 2026. No macro, syntax, notation, axiom, sorry.
-/
import Derived.Test.YtmebfblabccblaaDoorRows
import GoSem.ClaimSeven
namespace Go.Proofs.YtmebfblabccblaaDoor
namespace Rows

/-- THE TIED CARD OF 'spinneylaw04.HashFull'. -/
def hashFullCard : Claim7 := { stood := { row := hashFullRow, standIns := [], harness := (true, "61d07e4f9f6adc7aa3b41f9a29ab9d4eaf31e48d0a88b7bb6bbb28efad47cda1"), looks := false }, kinds := [], alts := [], laidByText := true, laidKinds := [.data, .pinned], laidTests := true, laidLooks := .later }
def HashFullCardSaid : Prop := Claim7.holds Tryd.pinned (.plain (OpenSpec.ofChange hashFullSpec)) hashFullCard

/-- THE TIED CARD OF 'spinneylaw04.HashParts'. -/
def hashPartsCard : Claim7 := { stood := { row := hashPartsRow, standIns := [], harness := (true, "61d07e4f9f6adc7aa3b41f9a29ab9d4eaf31e48d0a88b7bb6bbb28efad47cda1"), looks := false }, kinds := [], alts := [], laidByText := true, laidKinds := [.data, .pinned], laidTests := true, laidLooks := .later }
def HashPartsCardSaid : Prop := Claim7.holds Tryd.pinned (.plain (OpenSpec.ofChange hashPartsSpec)) hashPartsCard

/-- THE TIED CARD OF 'spinneylaw04.HashMore'. -/
def hashMoreCard : Claim7 := { stood := { row := hashMoreRow, standIns := [], harness := (true, "61d07e4f9f6adc7aa3b41f9a29ab9d4eaf31e48d0a88b7bb6bbb28efad47cda1"), looks := false }, kinds := [], alts := [], laidByText := true, laidKinds := [.data, .pinned], laidTests := true, laidLooks := .later }
def HashMoreCardSaid : Prop := Claim7.holds Tryd.pinned (.plain (OpenSpec.ofChange hashMoreSpec)) hashMoreCard

/-- THE TIED CARD OF 'spinneylaw04.HashKinds'. -/
def hashKindsCard : Claim7 := { stood := { row := hashKindsRow, standIns := [], harness := (true, "61d07e4f9f6adc7aa3b41f9a29ab9d4eaf31e48d0a88b7bb6bbb28efad47cda1"), looks := false }, kinds := [], alts := [], laidByText := true, laidKinds := [.data, .pinned], laidTests := true, laidLooks := .later }
def HashKindsCardSaid : Prop := Claim7.holds Tryd.pinned (.plain (OpenSpec.ofChange hashKindsSpec)) hashKindsCard

/-- THE TIED CARD OF 'spinneylaw04.HashBefore'. -/
def hashBeforeCard : Claim7 := { stood := { row := hashBeforeRow, standIns := [], harness := (true, "61d07e4f9f6adc7aa3b41f9a29ab9d4eaf31e48d0a88b7bb6bbb28efad47cda1"), looks := false }, kinds := [], alts := [], laidByText := true, laidKinds := [.data, .pinned], laidTests := true, laidLooks := .later }
def HashBeforeCardSaid : Prop := Claim7.holds Tryd.pinned (.plain (OpenSpec.ofChange hashBeforeSpec)) hashBeforeCard

/-- THE TIED CARD OF 'spinneylaw04.HashLine'. -/
def hashLineCard : Claim7 := { stood := { row := hashLineRow, standIns := [], harness := (true, "61d07e4f9f6adc7aa3b41f9a29ab9d4eaf31e48d0a88b7bb6bbb28efad47cda1"), looks := false }, kinds := [], alts := [], laidByText := true, laidKinds := [.data, .pinned], laidTests := true, laidLooks := .later }
def HashLineCardSaid : Prop := Claim7.holds Tryd.pinned (.plain (OpenSpec.ofChange hashLineSpec)) hashLineCard

/-- THE TIED CARD OF 'spinneylaw05.FnsIs'. -/
def fnsIsCard : Claim7 := { stood := { row := fnsIsRow, standIns := [], harness := (true, "61d07e4f9f6adc7aa3b41f9a29ab9d4eaf31e48d0a88b7bb6bbb28efad47cda1"), looks := false }, kinds := [], alts := [], laidByText := true, laidKinds := [.data, .pinned], laidTests := true, laidLooks := .later }
def FnsIsCardSaid : Prop := Claim7.holds Tryd.pinned (.plain (OpenSpec.ofChange fnsIsSpec)) fnsIsCard

/-- THE TIED CARD OF 'spinneylaw05.FnsTwo'. -/
def fnsTwoCard : Claim7 := { stood := { row := fnsTwoRow, standIns := [], harness := (true, "61d07e4f9f6adc7aa3b41f9a29ab9d4eaf31e48d0a88b7bb6bbb28efad47cda1"), looks := false }, kinds := [], alts := [], laidByText := true, laidKinds := [.data, .pinned], laidTests := true, laidLooks := .later }
def FnsTwoCardSaid : Prop := Claim7.holds Tryd.pinned (.plain (OpenSpec.ofChange fnsTwoSpec)) fnsTwoCard

/-- THE TIED CARD OF 'spinneylaw05.FnsRight'. -/
def fnsRightCard : Claim7 := { stood := { row := fnsRightRow, standIns := [], harness := (true, "61d07e4f9f6adc7aa3b41f9a29ab9d4eaf31e48d0a88b7bb6bbb28efad47cda1"), looks := false }, kinds := [], alts := [], laidByText := true, laidKinds := [.data, .pinned], laidTests := true, laidLooks := .later }
def FnsRightCardSaid : Prop := Claim7.holds Tryd.pinned (.plain (OpenSpec.ofChange fnsRightSpec)) fnsRightCard

/-- THE TIED CARD OF 'spinneylaw05.FnsOne'. -/
def fnsOneCard : Claim7 := { stood := { row := fnsOneRow, standIns := [], harness := (true, "61d07e4f9f6adc7aa3b41f9a29ab9d4eaf31e48d0a88b7bb6bbb28efad47cda1"), looks := false }, kinds := [], alts := [], laidByText := true, laidKinds := [.data, .pinned], laidTests := true, laidLooks := .later }
def FnsOneCardSaid : Prop := Claim7.holds Tryd.pinned (.plain (OpenSpec.ofChange fnsOneSpec)) fnsOneCard

/-- THE TIED CARD OF 'spinneylaw05.FnsMore'. -/
def fnsMoreCard : Claim7 := { stood := { row := fnsMoreRow, standIns := [], harness := (true, "61d07e4f9f6adc7aa3b41f9a29ab9d4eaf31e48d0a88b7bb6bbb28efad47cda1"), looks := false }, kinds := [], alts := [], laidByText := true, laidKinds := [.data, .pinned], laidTests := true, laidLooks := .later }
def FnsMoreCardSaid : Prop := Claim7.holds Tryd.pinned (.plain (OpenSpec.ofChange fnsMoreSpec)) fnsMoreCard

/-- THE SECOND FORM's CARD OF 'spinneylaw04.HashFull'. -/
def hashFullUptoCard : Claim7 := { stood := { row := hashFullUptoRow, standIns := [], harness := (true, "61d07e4f9f6adc7aa3b41f9a29ab9d4eaf31e48d0a88b7bb6bbb28efad47cda1"), looks := false }, kinds := [], alts := [], laidByText := true, laidKinds := [.data, .pinned], laidTests := true, laidLooks := .later }
def HashFullUptoCardSaid : Prop := Claim7.holds Tryd.pinned (.plain (OpenSpec.upto hashFullSpec)) hashFullUptoCard

/-- THE SECOND FORM's CARD OF 'spinneylaw04.HashParts'. -/
def hashPartsUptoCard : Claim7 := { stood := { row := hashPartsUptoRow, standIns := [], harness := (true, "61d07e4f9f6adc7aa3b41f9a29ab9d4eaf31e48d0a88b7bb6bbb28efad47cda1"), looks := false }, kinds := [], alts := [], laidByText := true, laidKinds := [.data, .pinned], laidTests := true, laidLooks := .later }
def HashPartsUptoCardSaid : Prop := Claim7.holds Tryd.pinned (.plain (OpenSpec.upto hashPartsSpec)) hashPartsUptoCard

/-- THE SECOND FORM's CARD OF 'spinneylaw04.HashMore'. -/
def hashMoreUptoCard : Claim7 := { stood := { row := hashMoreUptoRow, standIns := [], harness := (true, "61d07e4f9f6adc7aa3b41f9a29ab9d4eaf31e48d0a88b7bb6bbb28efad47cda1"), looks := false }, kinds := [], alts := [], laidByText := true, laidKinds := [.data, .pinned], laidTests := true, laidLooks := .later }
def HashMoreUptoCardSaid : Prop := Claim7.holds Tryd.pinned (.plain (OpenSpec.upto hashMoreSpec)) hashMoreUptoCard

/-- THE SECOND FORM's CARD OF 'spinneylaw04.HashKinds'. -/
def hashKindsUptoCard : Claim7 := { stood := { row := hashKindsUptoRow, standIns := [], harness := (true, "61d07e4f9f6adc7aa3b41f9a29ab9d4eaf31e48d0a88b7bb6bbb28efad47cda1"), looks := false }, kinds := [], alts := [], laidByText := true, laidKinds := [.data, .pinned], laidTests := true, laidLooks := .later }
def HashKindsUptoCardSaid : Prop := Claim7.holds Tryd.pinned (.plain (OpenSpec.upto hashKindsSpec)) hashKindsUptoCard

/-- THE SECOND FORM's CARD OF 'spinneylaw04.HashBefore'. -/
def hashBeforeUptoCard : Claim7 := { stood := { row := hashBeforeUptoRow, standIns := [], harness := (true, "61d07e4f9f6adc7aa3b41f9a29ab9d4eaf31e48d0a88b7bb6bbb28efad47cda1"), looks := false }, kinds := [], alts := [], laidByText := true, laidKinds := [.data, .pinned], laidTests := true, laidLooks := .later }
def HashBeforeUptoCardSaid : Prop := Claim7.holds Tryd.pinned (.plain (OpenSpec.upto hashBeforeSpec)) hashBeforeUptoCard

/-- THE SECOND FORM's CARD OF 'spinneylaw04.HashLine'. -/
def hashLineUptoCard : Claim7 := { stood := { row := hashLineUptoRow, standIns := [], harness := (true, "61d07e4f9f6adc7aa3b41f9a29ab9d4eaf31e48d0a88b7bb6bbb28efad47cda1"), looks := false }, kinds := [], alts := [], laidByText := true, laidKinds := [.data, .pinned], laidTests := true, laidLooks := .later }
def HashLineUptoCardSaid : Prop := Claim7.holds Tryd.pinned (.plain (OpenSpec.upto hashLineSpec)) hashLineUptoCard

/-- THE SECOND FORM's CARD OF 'spinneylaw05.FnsIs'. -/
def fnsIsUptoCard : Claim7 := { stood := { row := fnsIsUptoRow, standIns := [], harness := (true, "61d07e4f9f6adc7aa3b41f9a29ab9d4eaf31e48d0a88b7bb6bbb28efad47cda1"), looks := false }, kinds := [], alts := [], laidByText := true, laidKinds := [.data, .pinned], laidTests := true, laidLooks := .later }
def FnsIsUptoCardSaid : Prop := Claim7.holds Tryd.pinned (.plain (OpenSpec.upto fnsIsSpec)) fnsIsUptoCard

/-- THE SECOND FORM's CARD OF 'spinneylaw05.FnsTwo'. -/
def fnsTwoUptoCard : Claim7 := { stood := { row := fnsTwoUptoRow, standIns := [], harness := (true, "61d07e4f9f6adc7aa3b41f9a29ab9d4eaf31e48d0a88b7bb6bbb28efad47cda1"), looks := false }, kinds := [], alts := [], laidByText := true, laidKinds := [.data, .pinned], laidTests := true, laidLooks := .later }
def FnsTwoUptoCardSaid : Prop := Claim7.holds Tryd.pinned (.plain (OpenSpec.upto fnsTwoSpec)) fnsTwoUptoCard

/-- THE SECOND FORM's CARD OF 'spinneylaw05.FnsRight'. -/
def fnsRightUptoCard : Claim7 := { stood := { row := fnsRightUptoRow, standIns := [], harness := (true, "61d07e4f9f6adc7aa3b41f9a29ab9d4eaf31e48d0a88b7bb6bbb28efad47cda1"), looks := false }, kinds := [], alts := [], laidByText := true, laidKinds := [.data, .pinned], laidTests := true, laidLooks := .later }
def FnsRightUptoCardSaid : Prop := Claim7.holds Tryd.pinned (.plain (OpenSpec.upto fnsRightSpec)) fnsRightUptoCard

/-- THE SECOND FORM's CARD OF 'spinneylaw05.FnsOne'. -/
def fnsOneUptoCard : Claim7 := { stood := { row := fnsOneUptoRow, standIns := [], harness := (true, "61d07e4f9f6adc7aa3b41f9a29ab9d4eaf31e48d0a88b7bb6bbb28efad47cda1"), looks := false }, kinds := [], alts := [], laidByText := true, laidKinds := [.data, .pinned], laidTests := true, laidLooks := .later }
def FnsOneUptoCardSaid : Prop := Claim7.holds Tryd.pinned (.plain (OpenSpec.upto fnsOneSpec)) fnsOneUptoCard

/-- THE SECOND FORM's CARD OF 'spinneylaw05.FnsMore'. -/
def fnsMoreUptoCard : Claim7 := { stood := { row := fnsMoreUptoRow, standIns := [], harness := (true, "61d07e4f9f6adc7aa3b41f9a29ab9d4eaf31e48d0a88b7bb6bbb28efad47cda1"), looks := false }, kinds := [], alts := [], laidByText := true, laidKinds := [.data, .pinned], laidTests := true, laidLooks := .later }
def FnsMoreUptoCardSaid : Prop := Claim7.holds Tryd.pinned (.plain (OpenSpec.upto fnsMoreSpec)) fnsMoreUptoCard
end Rows
end Go.Proofs.YtmebfblabccblaaDoor
