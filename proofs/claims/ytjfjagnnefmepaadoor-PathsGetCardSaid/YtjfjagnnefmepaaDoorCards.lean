/-
  DERIVED. GIVEN WITH THE SEED: THE CARDS: each row of YtjfjagnnefmepaaDoorRows.lean that lists a variable, with what it lists TIED to the program's text (the seventh form; the later family's looks); each row that meets fmt, with fmt's text TOLD by the authors' own Lean function (tested against real Go, not proved from fmt's source: count such statements apart). THE CARD IS WHAT COUNTS. Prove the row's statement (the work); the ties are given (YtjfjagnnefmepaaDoorTie.lean); close each card by the builder's one call (the guide's Derived/Test/ToyasCard.lean, 'card_holds'). Laid BY PROGRAM, IN A SANDBOX (cutbox-door.mjs). By AI agents, Wed Nov 11 2026. No macro, syntax, notation, axiom, sorry.
-/
import Derived.Test.YtjfjagnnefmepaaDoorRows
import GoSem.ClaimSeven
namespace Go.Proofs.YtjfjagnnefmepaaDoor
namespace Rows

/-- THE TIED CARD OF 'spinneylaw26.PathsPut'. -/
def pathsPutCard : Claim7 := { stood := { row := pathsPutRow, standIns := [], harness := (true, "4b1463eb622487e62b66ea02b7e584828104bde61ad9e903fef7fdeda95cc82e"), looks := true }, kinds := [], alts := [], laidByText := true, laidKinds := [.data, .pinned], laidTests := true, laidLooks := .later }
def PathsPutCardSaid : Prop := Claim7.holds Tryd.pinned (.plain (OpenSpec.ofChange pathsPutSpec)) pathsPutCard

/-- THE TIED CARD OF 'spinneylaw26.PathsBack'. -/
def pathsBackCard : Claim7 := { stood := { row := pathsBackRow, standIns := [], harness := (true, "4b1463eb622487e62b66ea02b7e584828104bde61ad9e903fef7fdeda95cc82e"), looks := true }, kinds := [], alts := [], laidByText := true, laidKinds := [.data, .pinned], laidTests := true, laidLooks := .later }
def PathsBackCardSaid : Prop := Claim7.holds Tryd.pinned (.plain (OpenSpec.ofChange pathsBackSpec)) pathsBackCard

/-- THE TIED CARD OF 'spinneylaw26.PathsOnly'. -/
def pathsOnlyCard : Claim7 := { stood := { row := pathsOnlyRow, standIns := [], harness := (true, "4b1463eb622487e62b66ea02b7e584828104bde61ad9e903fef7fdeda95cc82e"), looks := true }, kinds := [], alts := [], laidByText := true, laidKinds := [.data, .pinned], laidTests := true, laidLooks := .later }
def PathsOnlyCardSaid : Prop := Claim7.holds Tryd.pinned (.plain (OpenSpec.ofChange pathsOnlySpec)) pathsOnlyCard

/-- THE TIED CARD OF 'spinneylaw26.PathsMerge'. -/
def pathsMergeCard : Claim7 := { stood := { row := pathsMergeRow, standIns := [], harness := (true, "4b1463eb622487e62b66ea02b7e584828104bde61ad9e903fef7fdeda95cc82e"), looks := true }, kinds := [], alts := [], laidByText := true, laidKinds := [.data, .pinned], laidTests := true, laidLooks := .later }
def PathsMergeCardSaid : Prop := Claim7.holds Tryd.pinned (.plain (OpenSpec.ofChange pathsMergeSpec)) pathsMergeCard

/-- THE TIED CARD OF 'spinneylaw26.PathsGet'. -/
def pathsGetCard : Claim7 := { stood := { row := pathsGetRow, standIns := [], harness := (true, "4b1463eb622487e62b66ea02b7e584828104bde61ad9e903fef7fdeda95cc82e"), looks := true }, kinds := [], alts := [], laidByText := true, laidKinds := [.data, .pinned], laidTests := true, laidLooks := .later }
def PathsGetCardSaid : Prop := Claim7.holds Tryd.pinned (.plain (OpenSpec.ofChange pathsGetSpec)) pathsGetCard

/-- THE TIED CARD OF 'spinneylaw26.PathsLeaves'. -/
def pathsLeavesCard : Claim7 := { stood := { row := pathsLeavesRow, standIns := [], harness := (true, "4b1463eb622487e62b66ea02b7e584828104bde61ad9e903fef7fdeda95cc82e"), looks := true }, kinds := [], alts := [], laidByText := true, laidKinds := [.data, .pinned], laidTests := true, laidLooks := .later }
def PathsLeavesCardSaid : Prop := Claim7.holds Tryd.pinned (.plain (OpenSpec.ofChange pathsLeavesSpec)) pathsLeavesCard

/-- THE SECOND FORM's CARD OF 'spinneylaw26.PathsPut'. -/
def pathsPutUptoCard : Claim7 := { stood := { row := pathsPutUptoRow, standIns := [], harness := (true, "4b1463eb622487e62b66ea02b7e584828104bde61ad9e903fef7fdeda95cc82e"), looks := true }, kinds := [], alts := [], laidByText := true, laidKinds := [.data, .pinned], laidTests := true, laidLooks := .later }
def PathsPutUptoCardSaid : Prop := Claim7.holds Tryd.pinned (.plain (OpenSpec.upto pathsPutSpec)) pathsPutUptoCard

/-- THE SECOND FORM's CARD OF 'spinneylaw26.PathsBack'. -/
def pathsBackUptoCard : Claim7 := { stood := { row := pathsBackUptoRow, standIns := [], harness := (true, "4b1463eb622487e62b66ea02b7e584828104bde61ad9e903fef7fdeda95cc82e"), looks := true }, kinds := [], alts := [], laidByText := true, laidKinds := [.data, .pinned], laidTests := true, laidLooks := .later }
def PathsBackUptoCardSaid : Prop := Claim7.holds Tryd.pinned (.plain (OpenSpec.upto pathsBackSpec)) pathsBackUptoCard

/-- THE SECOND FORM's CARD OF 'spinneylaw26.PathsOnly'. -/
def pathsOnlyUptoCard : Claim7 := { stood := { row := pathsOnlyUptoRow, standIns := [], harness := (true, "4b1463eb622487e62b66ea02b7e584828104bde61ad9e903fef7fdeda95cc82e"), looks := true }, kinds := [], alts := [], laidByText := true, laidKinds := [.data, .pinned], laidTests := true, laidLooks := .later }
def PathsOnlyUptoCardSaid : Prop := Claim7.holds Tryd.pinned (.plain (OpenSpec.upto pathsOnlySpec)) pathsOnlyUptoCard

/-- THE SECOND FORM's CARD OF 'spinneylaw26.PathsMerge'. -/
def pathsMergeUptoCard : Claim7 := { stood := { row := pathsMergeUptoRow, standIns := [], harness := (true, "4b1463eb622487e62b66ea02b7e584828104bde61ad9e903fef7fdeda95cc82e"), looks := true }, kinds := [], alts := [], laidByText := true, laidKinds := [.data, .pinned], laidTests := true, laidLooks := .later }
def PathsMergeUptoCardSaid : Prop := Claim7.holds Tryd.pinned (.plain (OpenSpec.upto pathsMergeSpec)) pathsMergeUptoCard

/-- THE SECOND FORM's CARD OF 'spinneylaw26.PathsGet'. -/
def pathsGetUptoCard : Claim7 := { stood := { row := pathsGetUptoRow, standIns := [], harness := (true, "4b1463eb622487e62b66ea02b7e584828104bde61ad9e903fef7fdeda95cc82e"), looks := true }, kinds := [], alts := [], laidByText := true, laidKinds := [.data, .pinned], laidTests := true, laidLooks := .later }
def PathsGetUptoCardSaid : Prop := Claim7.holds Tryd.pinned (.plain (OpenSpec.upto pathsGetSpec)) pathsGetUptoCard

/-- THE SECOND FORM's CARD OF 'spinneylaw26.PathsLeaves'. -/
def pathsLeavesUptoCard : Claim7 := { stood := { row := pathsLeavesUptoRow, standIns := [], harness := (true, "4b1463eb622487e62b66ea02b7e584828104bde61ad9e903fef7fdeda95cc82e"), looks := true }, kinds := [], alts := [], laidByText := true, laidKinds := [.data, .pinned], laidTests := true, laidLooks := .later }
def PathsLeavesUptoCardSaid : Prop := Claim7.holds Tryd.pinned (.plain (OpenSpec.upto pathsLeavesSpec)) pathsLeavesUptoCard
end Rows
end Go.Proofs.YtjfjagnnefmepaaDoor
