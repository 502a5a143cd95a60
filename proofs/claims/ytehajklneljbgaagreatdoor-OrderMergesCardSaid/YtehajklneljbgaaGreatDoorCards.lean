/-
  DERIVED. GIVEN WITH THE SEED: THE CARDS: each row of YtehajklneljbgaaGreatDoorRows.lean that lists a variable, with what it lists TIED to the program's text (the seventh form; the later family's looks); each row that meets fmt, with fmt's text TOLD by the authors' own Lean function (tested against real Go, not proved from fmt's source: count such statements apart). THE CARD IS WHAT COUNTS. Prove the row's statement (the work); the ties are given (YtehajklneljbgaaGreatDoorTie.lean); close each card by the builder's one call (the guide's Derived/Test/ToyasCard.lean, 'card_holds'). Laid BY PROGRAM, IN A SANDBOX (cutbox-door.mjs). By AI agents, Wed Nov 11 2026. No macro, syntax, notation, axiom, sorry.
-/
import Derived.Test.YtehajklneljbgaaGreatDoorRows
import GoSem.ClaimSeven
namespace Go.Proofs.YtehajklneljbgaaGreatDoor
namespace Rows

/-- THE TIED CARD OF 'spinneylaw06.OrderCompares'. -/
def orderComparesCard : Claim7 := { stood := { row := orderComparesRow, standIns := [], harness := (true, "558a2ea079fa644fc525ebcef6a16823909635248b11396a4389a51bf33311d2"), looks := false }, kinds := [], alts := [], laidByText := true, laidKinds := [.data, .pinned], laidTests := true, laidLooks := .later }
def OrderComparesCardSaid : Prop := Claim7.holds Tryz.pinned (.plain (OpenSpec.ofChange orderComparesSpec)) orderComparesCard

/-- THE TIED CARD OF 'spinneylaw06.OrderPlaces'. -/
def orderPlacesCard : Claim7 := { stood := { row := orderPlacesRow, standIns := [], harness := (true, "558a2ea079fa644fc525ebcef6a16823909635248b11396a4389a51bf33311d2"), looks := false }, kinds := [], alts := [], laidByText := true, laidKinds := [.data, .pinned], laidTests := true, laidLooks := .later }
def OrderPlacesCardSaid : Prop := Claim7.holds Tryz.pinned (.plain (OpenSpec.ofChange orderPlacesSpec)) orderPlacesCard

/-- THE TIED CARD OF 'spinneylaw06.OrderSorts'. -/
def orderSortsCard : Claim7 := { stood := { row := orderSortsRow, standIns := [], harness := (true, "558a2ea079fa644fc525ebcef6a16823909635248b11396a4389a51bf33311d2"), looks := false }, kinds := [], alts := [], laidByText := true, laidKinds := [.data, .pinned], laidTests := true, laidLooks := .later }
def OrderSortsCardSaid : Prop := Claim7.holds Tryz.pinned (.plain (OpenSpec.ofChange orderSortsSpec)) orderSortsCard

/-- THE TIED CARD OF 'spinneylaw06.OrderMerges'. -/
def orderMergesCard : Claim7 := { stood := { row := orderMergesRow, standIns := [], harness := (true, "558a2ea079fa644fc525ebcef6a16823909635248b11396a4389a51bf33311d2"), looks := false }, kinds := [], alts := [], laidByText := true, laidKinds := [.data, .pinned], laidTests := true, laidLooks := .later }
def OrderMergesCardSaid : Prop := Claim7.holds Tryz.pinned (.plain (OpenSpec.ofChange orderMergesSpec)) orderMergesCard

/-- THE SECOND FORM's CARD OF 'spinneylaw06.OrderCompares'. -/
def orderComparesUptoCard : Claim7 := { stood := { row := orderComparesUptoRow, standIns := [], harness := (true, "558a2ea079fa644fc525ebcef6a16823909635248b11396a4389a51bf33311d2"), looks := false }, kinds := [], alts := [], laidByText := true, laidKinds := [.data, .pinned], laidTests := true, laidLooks := .later }
def OrderComparesUptoCardSaid : Prop := Claim7.holds Tryz.pinned (.plain (OpenSpec.upto orderComparesSpec)) orderComparesUptoCard

/-- THE SECOND FORM's CARD OF 'spinneylaw06.OrderPlaces'. -/
def orderPlacesUptoCard : Claim7 := { stood := { row := orderPlacesUptoRow, standIns := [], harness := (true, "558a2ea079fa644fc525ebcef6a16823909635248b11396a4389a51bf33311d2"), looks := false }, kinds := [], alts := [], laidByText := true, laidKinds := [.data, .pinned], laidTests := true, laidLooks := .later }
def OrderPlacesUptoCardSaid : Prop := Claim7.holds Tryz.pinned (.plain (OpenSpec.upto orderPlacesSpec)) orderPlacesUptoCard

/-- THE SECOND FORM's CARD OF 'spinneylaw06.OrderSorts'. -/
def orderSortsUptoCard : Claim7 := { stood := { row := orderSortsUptoRow, standIns := [], harness := (true, "558a2ea079fa644fc525ebcef6a16823909635248b11396a4389a51bf33311d2"), looks := false }, kinds := [], alts := [], laidByText := true, laidKinds := [.data, .pinned], laidTests := true, laidLooks := .later }
def OrderSortsUptoCardSaid : Prop := Claim7.holds Tryz.pinned (.plain (OpenSpec.upto orderSortsSpec)) orderSortsUptoCard

/-- THE SECOND FORM's CARD OF 'spinneylaw06.OrderMerges'. -/
def orderMergesUptoCard : Claim7 := { stood := { row := orderMergesUptoRow, standIns := [], harness := (true, "558a2ea079fa644fc525ebcef6a16823909635248b11396a4389a51bf33311d2"), looks := false }, kinds := [], alts := [], laidByText := true, laidKinds := [.data, .pinned], laidTests := true, laidLooks := .later }
def OrderMergesUptoCardSaid : Prop := Claim7.holds Tryz.pinned (.plain (OpenSpec.upto orderMergesSpec)) orderMergesUptoCard
end Rows
end Go.Proofs.YtehajklneljbgaaGreatDoor
