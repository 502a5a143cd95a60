/-
  No cell of these rows narrows 'for every input' (looked for: loops, veiled, ifaces, maps, wideKeys, modest, calm, conditions, laid).
  DERIVED. THE GIVEN ROWS OF THIS SEAT. 6 by the template 'for every input the law returns true; each argument reads behind the call as it read before'; 0 by the template 'total and deterministic' (their statements: YtkldnfpcemfibaaTotals.lean).
  GIVEN WITH THE SEED: the statements are not yours to turn. If you find one false, say at which input.
  Laid BY PROGRAM, IN A SANDBOX (cutbox-rows.mjs): the forced cells as the released guide's own fill.sh prints them over the translation c123ea55f2c4874e… (all of the seat's roots in one cut). By AI agents, Wed Nov 11 2026. No macro, syntax, notation, axiom, sorry.
-/
import Derived.Test.YtkldnfpcemfibaaChecked
import GoSem.Claim
import GoSem.ClaimJoined
import GoSem.ClaimMapViews
import Derived.JoinedTies
import Derived.KernelRfl
namespace Go.Proofs.Ytkldnfpcemfibaa
/- THE CELL 'sum', in the pinned program and in every row, IS THE sha256 OF THE DUMP (.gsa) THAT YtkldnfpcemfibaaProg.lean LOADS. Nothing in Lean hashes anything: it is a label: what it is worth is what the hold of that sum in a sandbox is worth. -/
noncomputable def Try.pinned : Pinned := { name := "ytkldnfpcemfibaa", sum := "c123ea55f2c4874e137d2a6cbdf99da8f33aa21879edba00756bde944d57b246", checked := Try.checked }
namespace Rows
def none {H : Type} : Left H := { results := [], args := [] }

/-- 'spinneylaw03.MurmurMixes': WHATEVER THE INPUT: true; the input reads as it did. -/
def murmurMixesSpec : ChangeSpec := { name := "murmurMixes", fn := fun _ => fun
  | [d1, d2] => { results := [.lit (.bool true)], args := [d1, d2] }
  | _ => none }
def murmurMixesRow : OpenClaim := { program := "ytkldnfpcemfibaa", sum := "c123ea55f2c4874e137d2a6cbdf99da8f33aa21879edba00756bde944d57b246", func := "spinney/spinneylaw03.MurmurMixes", spec := "murmurMixes", apart := false }
def MurmurMixesSaid : Prop := murmurMixesRow.holds Try.pinned (OpenSpec.ofChange murmurMixesSpec)

/-- ITS FALSE NEIGHBOUR: 'it returns false'. Refute it at one input. -/
def murmurMixesWrong : ChangeSpec := { name := "murmurMixes", fn := fun _ => fun
  | [d1, d2] => { results := [.lit (.bool false)], args := [d1, d2] }
  | _ => none }
def MurmurMixesWrongFalsely : Prop := murmurMixesRow.holds Try.pinned (OpenSpec.ofChange murmurMixesWrong)

/-- 'spinneylaw03.MurmurNumbers': WHATEVER THE INPUT: true; the input reads as it did. -/
def murmurNumbersSpec : ChangeSpec := { name := "murmurNumbers", fn := fun _ => fun
  | [d1, d2] => { results := [.lit (.bool true)], args := [d1, d2] }
  | _ => none }
def murmurNumbersRow : OpenClaim := { program := "ytkldnfpcemfibaa", sum := "c123ea55f2c4874e137d2a6cbdf99da8f33aa21879edba00756bde944d57b246", func := "spinney/spinneylaw03.MurmurNumbers", spec := "murmurNumbers", apart := false }
def MurmurNumbersSaid : Prop := murmurNumbersRow.holds Try.pinned (OpenSpec.ofChange murmurNumbersSpec)

/-- ITS FALSE NEIGHBOUR: 'it returns false'. Refute it at one input. -/
def murmurNumbersWrong : ChangeSpec := { name := "murmurNumbers", fn := fun _ => fun
  | [d1, d2] => { results := [.lit (.bool false)], args := [d1, d2] }
  | _ => none }
def MurmurNumbersWrongFalsely : Prop := murmurNumbersRow.holds Try.pinned (OpenSpec.ofChange murmurNumbersWrong)

/-- 'spinneylaw03.MurmurColls': WHATEVER THE INPUT: true; the input reads as it did. -/
def murmurCollsSpec : ChangeSpec := { name := "murmurColls", fn := fun _ => fun
  | [d1, d2, d3] => { results := [.lit (.bool true)], args := [d1, d2, d3] }
  | _ => none }
def murmurCollsRow : OpenClaim := { program := "ytkldnfpcemfibaa", sum := "c123ea55f2c4874e137d2a6cbdf99da8f33aa21879edba00756bde944d57b246", func := "spinney/spinneylaw03.MurmurColls", spec := "murmurColls", apart := false }
def MurmurCollsSaid : Prop := murmurCollsRow.holds Try.pinned (OpenSpec.ofChange murmurCollsSpec)

/-- ITS FALSE NEIGHBOUR: 'it returns false'. Refute it at one input. -/
def murmurCollsWrong : ChangeSpec := { name := "murmurColls", fn := fun _ => fun
  | [d1, d2, d3] => { results := [.lit (.bool false)], args := [d1, d2, d3] }
  | _ => none }
def MurmurCollsWrongFalsely : Prop := murmurCollsRow.holds Try.pinned (OpenSpec.ofChange murmurCollsWrong)

/-- 'spinneylaw03.MurmurTurned': WHATEVER THE INPUT: true; the input reads as it did. -/
def murmurTurnedSpec : ChangeSpec := { name := "murmurTurned", fn := fun _ => fun
  | [d1, d2, d3] => { results := [.lit (.bool true)], args := [d1, d2, d3] }
  | _ => none }
def murmurTurnedRow : OpenClaim := { program := "ytkldnfpcemfibaa", sum := "c123ea55f2c4874e137d2a6cbdf99da8f33aa21879edba00756bde944d57b246", func := "spinney/spinneylaw03.MurmurTurned", spec := "murmurTurned", apart := false }
def MurmurTurnedSaid : Prop := murmurTurnedRow.holds Try.pinned (OpenSpec.ofChange murmurTurnedSpec)

/-- ITS FALSE NEIGHBOUR: 'it returns false'. Refute it at one input. -/
def murmurTurnedWrong : ChangeSpec := { name := "murmurTurned", fn := fun _ => fun
  | [d1, d2, d3] => { results := [.lit (.bool false)], args := [d1, d2, d3] }
  | _ => none }
def MurmurTurnedWrongFalsely : Prop := murmurTurnedRow.holds Try.pinned (OpenSpec.ofChange murmurTurnedWrong)

/-- 'spinneylaw03.MurmurApart': WHATEVER THE INPUT: true; the input reads as it did. -/
def murmurApartSpec : ChangeSpec := { name := "murmurApart", fn := fun _ => fun
  | [d1, d2, d3] => { results := [.lit (.bool true)], args := [d1, d2, d3] }
  | _ => none }
def murmurApartRow : OpenClaim := { program := "ytkldnfpcemfibaa", sum := "c123ea55f2c4874e137d2a6cbdf99da8f33aa21879edba00756bde944d57b246", func := "spinney/spinneylaw03.MurmurApart", spec := "murmurApart", apart := false }
def MurmurApartSaid : Prop := murmurApartRow.holds Try.pinned (OpenSpec.ofChange murmurApartSpec)

/-- ITS FALSE NEIGHBOUR: 'it returns false'. Refute it at one input. -/
def murmurApartWrong : ChangeSpec := { name := "murmurApart", fn := fun _ => fun
  | [d1, d2, d3] => { results := [.lit (.bool false)], args := [d1, d2, d3] }
  | _ => none }
def MurmurApartWrongFalsely : Prop := murmurApartRow.holds Try.pinned (OpenSpec.ofChange murmurApartWrong)

/-- 'spinneylaw03.MurmurUnits': WHATEVER THE INPUT: true; the input reads as it did. -/
def murmurUnitsSpec : ChangeSpec := { name := "murmurUnits", fn := fun _ => fun
  | [d] => { results := [.lit (.bool true)], args := [d] }
  | _ => none }
def murmurUnitsRow : OpenClaim := { program := "ytkldnfpcemfibaa", sum := "c123ea55f2c4874e137d2a6cbdf99da8f33aa21879edba00756bde944d57b246", func := "spinney/spinneylaw03.MurmurUnits", spec := "murmurUnits", apart := false }
def MurmurUnitsSaid : Prop := murmurUnitsRow.holds Try.pinned (OpenSpec.ofChange murmurUnitsSpec)

/-- ITS FALSE NEIGHBOUR: 'it returns false'. Refute it at one input. -/
def murmurUnitsWrong : ChangeSpec := { name := "murmurUnits", fn := fun _ => fun
  | [d] => { results := [.lit (.bool false)], args := [d] }
  | _ => none }
def MurmurUnitsWrongFalsely : Prop := murmurUnitsRow.holds Try.pinned (OpenSpec.ofChange murmurUnitsWrong)

/- THE SECOND FORM. 'bulk': how many values and letters a reading holds, each counted each time it is reached (what is shared counts as often as it is met; a slice's spare places count too). A statement '..UptoSaid' is the law's where the arguments, and the package variables that the reading takes, are together of bulk at most 1048576: NARROWER than '..Said'. Prove '..Said' where nothing that the law and all that it calls make is longer than what came in: it says more and counts as full. Else prove '..UptoSaid'. A law counts once. -/
mutual
def uptoBulk {H : Type} : DataW H → Nat
  | .lit (.string bytes) => bytes.length + 1
  | .lit _ => 1
  | .nil => 1
  | .ptr d => uptoBulk d + 1
  | .slice elems spare => uptoBulkAll elems + uptoBulkAll spare + 1
  | .agg parts => uptoBulkAll parts + 1
  | .iface _ d => uptoBulk d + 1
  | .map entries => uptoBulkEntries entries + 1
  | .held _ => 1
def uptoBulkAll {H : Type} : List (DataW H) → Nat
  | [] => 0
  | d :: r => uptoBulk d + uptoBulkAll r
def uptoBulkEntries {H : Type} : List (Lit × DataW H) → Nat
  | [] => 0
  | x :: r => uptoBulkEntry x + uptoBulkEntries r
def uptoBulkEntry {H : Type} : Lit × DataW H → Nat
  | (.string bytes, d) => bytes.length + uptoBulk d + 1
  | (_, d) => uptoBulk d + 1
 end
def uptoSmall : (H : Type) → List (DataW H) → Bool := fun _ ds => decide (uptoBulkAll ds ≤ 1048576)
def OpenSpec.upto (s : _root_.Go.ChangeSpec) : _root_.Go.OpenSpec := { _root_.Go.OpenSpec.ofChange s with cond := some uptoSmall }

/-- 'spinneylaw03.MurmurMixes', WHERE WHAT IT READS IS OF BULK AT MOST 1048576: true; the input reads as it did. -/
def murmurMixesUptoRow : OpenClaim := { program := "ytkldnfpcemfibaa", sum := "c123ea55f2c4874e137d2a6cbdf99da8f33aa21879edba00756bde944d57b246", func := "spinney/spinneylaw03.MurmurMixes", spec := "murmurMixes", apart := false, narrowed := true }
def MurmurMixesUptoSaid : Prop := murmurMixesUptoRow.holds Try.pinned (OpenSpec.upto murmurMixesSpec)

/-- 'spinneylaw03.MurmurNumbers', WHERE WHAT IT READS IS OF BULK AT MOST 1048576: true; the input reads as it did. -/
def murmurNumbersUptoRow : OpenClaim := { program := "ytkldnfpcemfibaa", sum := "c123ea55f2c4874e137d2a6cbdf99da8f33aa21879edba00756bde944d57b246", func := "spinney/spinneylaw03.MurmurNumbers", spec := "murmurNumbers", apart := false, narrowed := true }
def MurmurNumbersUptoSaid : Prop := murmurNumbersUptoRow.holds Try.pinned (OpenSpec.upto murmurNumbersSpec)

/-- 'spinneylaw03.MurmurColls', WHERE WHAT IT READS IS OF BULK AT MOST 1048576: true; the input reads as it did. -/
def murmurCollsUptoRow : OpenClaim := { program := "ytkldnfpcemfibaa", sum := "c123ea55f2c4874e137d2a6cbdf99da8f33aa21879edba00756bde944d57b246", func := "spinney/spinneylaw03.MurmurColls", spec := "murmurColls", apart := false, narrowed := true }
def MurmurCollsUptoSaid : Prop := murmurCollsUptoRow.holds Try.pinned (OpenSpec.upto murmurCollsSpec)

/-- 'spinneylaw03.MurmurTurned', WHERE WHAT IT READS IS OF BULK AT MOST 1048576: true; the input reads as it did. -/
def murmurTurnedUptoRow : OpenClaim := { program := "ytkldnfpcemfibaa", sum := "c123ea55f2c4874e137d2a6cbdf99da8f33aa21879edba00756bde944d57b246", func := "spinney/spinneylaw03.MurmurTurned", spec := "murmurTurned", apart := false, narrowed := true }
def MurmurTurnedUptoSaid : Prop := murmurTurnedUptoRow.holds Try.pinned (OpenSpec.upto murmurTurnedSpec)

/-- 'spinneylaw03.MurmurApart', WHERE WHAT IT READS IS OF BULK AT MOST 1048576: true; the input reads as it did. -/
def murmurApartUptoRow : OpenClaim := { program := "ytkldnfpcemfibaa", sum := "c123ea55f2c4874e137d2a6cbdf99da8f33aa21879edba00756bde944d57b246", func := "spinney/spinneylaw03.MurmurApart", spec := "murmurApart", apart := false, narrowed := true }
def MurmurApartUptoSaid : Prop := murmurApartUptoRow.holds Try.pinned (OpenSpec.upto murmurApartSpec)

/-- 'spinneylaw03.MurmurUnits', WHERE WHAT IT READS IS OF BULK AT MOST 1048576: true; the input reads as it did. -/
def murmurUnitsUptoRow : OpenClaim := { program := "ytkldnfpcemfibaa", sum := "c123ea55f2c4874e137d2a6cbdf99da8f33aa21879edba00756bde944d57b246", func := "spinney/spinneylaw03.MurmurUnits", spec := "murmurUnits", apart := false, narrowed := true }
def MurmurUnitsUptoSaid : Prop := murmurUnitsUptoRow.holds Try.pinned (OpenSpec.upto murmurUnitsSpec)

end Rows
end Go.Proofs.Ytkldnfpcemfibaa
