/-
  NARROWER THAN 'FOR EVERY INPUT', by the rows' own cells (each row's printed sentence says how): FnsIs: loops, laid · FnsTwo: loops, laid · FnsRight: loops, laid · FnsOne: loops, laid · FnsMore: loops, laid.
  DERIVED. THE GIVEN ROWS OF THIS SEAT. 5 by the template 'for every input the law returns true; each argument reads behind the call as it read before'; 0 by the template 'total and deterministic' (their statements: YtgmmoagclkmeaaaDoorTotals.lean).
  GIVEN WITH THE SEED: the statements are not yours to turn. If you find one false, say at which input.
  Laid BY PROGRAM, IN A SANDBOX (cutbox-rows.mjs): the forced cells as the released guide's own fill.sh prints them over the translation 1e0c3dadc07558bf… (all of the seat's roots in one cut). By AI agents, Wed Nov 11 2026. No macro, syntax, notation, axiom, sorry.
-/
import Derived.Test.YtgmmoagclkmeaaaDoorChecked
import GoSem.PinnedTables
import GoSem.Claim
import GoSem.ClaimJoined
import GoSem.ClaimMapViews
import Derived.JoinedTies
import Derived.KernelRfl
namespace Go.Proofs.YtgmmoagclkmeaaaDoor
/- THE CELL 'sum', in the pinned program and in every row, IS THE sha256 OF THE DUMP (.gsa) THAT YtgmmoagclkmeaaaDoorProg.lean LOADS. Nothing in Lean hashes anything: it is a label: what it is worth is what the hold of that sum in a sandbox is worth. -/
noncomputable def Tryd.pinned : Pinned := { name := "ytgmmoagclkmeaaadoor", sum := "1e0c3dadc07558bf0300e8a80ac8091a1bf4ccc237918df15b6f8a9754fcd47b", checked := Tryd.checked }
namespace Rows
def none {H : Type} : Left H := { results := [], args := [] }

/- WHAT THE LISTED PACKAGE-LEVEL VARIABLES READ AS WHEN THE CALL BEGINS. Each datum BY PROGRAM (the guide's laid-datum.mjs) off the statement by which the dump's own 'gosem.cut.vars' lays the variable. In a bare row this is a premise. The card (YtgmmoagclkmeaaaDoorCards.lean) ties it to the program's text. -/
def laid_unicode_utf8_acceptRanges {H : Type} : DataW H := .agg [.agg [.lit (.int .u8 128), .lit (.int .u8 191)], .agg [.lit (.int .u8 160), .lit (.int .u8 191)], .agg [.lit (.int .u8 128), .lit (.int .u8 159)], .agg [.lit (.int .u8 144), .lit (.int .u8 191)], .agg [.lit (.int .u8 128), .lit (.int .u8 143)], .agg [.lit (.int .u8 0), .lit (.int .u8 0)], .agg [.lit (.int .u8 0), .lit (.int .u8 0)], .agg [.lit (.int .u8 0), .lit (.int .u8 0)], .agg [.lit (.int .u8 0), .lit (.int .u8 0)], .agg [.lit (.int .u8 0), .lit (.int .u8 0)], .agg [.lit (.int .u8 0), .lit (.int .u8 0)], .agg [.lit (.int .u8 0), .lit (.int .u8 0)], .agg [.lit (.int .u8 0), .lit (.int .u8 0)], .agg [.lit (.int .u8 0), .lit (.int .u8 0)], .agg [.lit (.int .u8 0), .lit (.int .u8 0)], .agg [.lit (.int .u8 0), .lit (.int .u8 0)]]
/-- One of Go's own tables, pinned by name: the form's constant. -/
def laid_unicode_utf8_first : DataW Unit := Go.Pinned.utf8First

/-- 'spinneylaw05.FnsIs': WHATEVER THE INPUT: true; the input reads as it did. -/
def fnsIsSpec : ChangeSpec := { name := "fnsIs", fn := fun _ => fun
  | [d1, d2] => { results := [.lit (.bool true)], args := [d1, d2] }
  | _ => none }
def fnsIsRow : OpenClaim := { program := "ytgmmoagclkmeaaadoor", sum := "1e0c3dadc07558bf0300e8a80ac8091a1bf4ccc237918df15b6f8a9754fcd47b", func := "spinney/spinneylaw05.FnsIs", spec := "fnsIs", inPlace := ["internal/bytealg.abigen_runtime_cmpstring"], unfollowed := true, recurses := true, named := ["unicode/utf8.first", "unicode/utf8.acceptRanges"], loops := true, apart := false, laid := [("unicode/utf8.acceptRanges", laid_unicode_utf8_acceptRanges), ("unicode/utf8.first", laid_unicode_utf8_first)] }
def FnsIsSaid : Prop := fnsIsRow.holds Tryd.pinned (OpenSpec.ofChange fnsIsSpec)

/-- ITS FALSE NEIGHBOUR: 'it returns false'. Refute it at one input. -/
def fnsIsWrong : ChangeSpec := { name := "fnsIs", fn := fun _ => fun
  | [d1, d2] => { results := [.lit (.bool false)], args := [d1, d2] }
  | _ => none }
def FnsIsWrongFalsely : Prop := fnsIsRow.holds Tryd.pinned (OpenSpec.ofChange fnsIsWrong)

/-- 'spinneylaw05.FnsTwo': WHATEVER THE INPUT: true; the input reads as it did. -/
def fnsTwoSpec : ChangeSpec := { name := "fnsTwo", fn := fun _ => fun
  | [d1, d2, d3] => { results := [.lit (.bool true)], args := [d1, d2, d3] }
  | _ => none }
def fnsTwoRow : OpenClaim := { program := "ytgmmoagclkmeaaadoor", sum := "1e0c3dadc07558bf0300e8a80ac8091a1bf4ccc237918df15b6f8a9754fcd47b", func := "spinney/spinneylaw05.FnsTwo", spec := "fnsTwo", inPlace := ["internal/bytealg.abigen_runtime_cmpstring"], unfollowed := true, recurses := true, named := ["unicode/utf8.first", "unicode/utf8.acceptRanges"], loops := true, apart := false, laid := [("unicode/utf8.acceptRanges", laid_unicode_utf8_acceptRanges), ("unicode/utf8.first", laid_unicode_utf8_first)] }
def FnsTwoSaid : Prop := fnsTwoRow.holds Tryd.pinned (OpenSpec.ofChange fnsTwoSpec)

/-- ITS FALSE NEIGHBOUR: 'it returns false'. Refute it at one input. -/
def fnsTwoWrong : ChangeSpec := { name := "fnsTwo", fn := fun _ => fun
  | [d1, d2, d3] => { results := [.lit (.bool false)], args := [d1, d2, d3] }
  | _ => none }
def FnsTwoWrongFalsely : Prop := fnsTwoRow.holds Tryd.pinned (OpenSpec.ofChange fnsTwoWrong)

/-- 'spinneylaw05.FnsRight': WHATEVER THE INPUT: true; the input reads as it did. -/
def fnsRightSpec : ChangeSpec := { name := "fnsRight", fn := fun _ => fun
  | [d1, d2, d3] => { results := [.lit (.bool true)], args := [d1, d2, d3] }
  | _ => none }
def fnsRightRow : OpenClaim := { program := "ytgmmoagclkmeaaadoor", sum := "1e0c3dadc07558bf0300e8a80ac8091a1bf4ccc237918df15b6f8a9754fcd47b", func := "spinney/spinneylaw05.FnsRight", spec := "fnsRight", inPlace := ["internal/bytealg.abigen_runtime_cmpstring"], unfollowed := true, recurses := true, named := ["unicode/utf8.first", "unicode/utf8.acceptRanges"], loops := true, apart := false, laid := [("unicode/utf8.acceptRanges", laid_unicode_utf8_acceptRanges), ("unicode/utf8.first", laid_unicode_utf8_first)] }
def FnsRightSaid : Prop := fnsRightRow.holds Tryd.pinned (OpenSpec.ofChange fnsRightSpec)

/-- ITS FALSE NEIGHBOUR: 'it returns false'. Refute it at one input. -/
def fnsRightWrong : ChangeSpec := { name := "fnsRight", fn := fun _ => fun
  | [d1, d2, d3] => { results := [.lit (.bool false)], args := [d1, d2, d3] }
  | _ => none }
def FnsRightWrongFalsely : Prop := fnsRightRow.holds Tryd.pinned (OpenSpec.ofChange fnsRightWrong)

/-- 'spinneylaw05.FnsOne': WHATEVER THE INPUT: true; the input reads as it did. -/
def fnsOneSpec : ChangeSpec := { name := "fnsOne", fn := fun _ => fun
  | [d1, d2, d3] => { results := [.lit (.bool true)], args := [d1, d2, d3] }
  | _ => none }
def fnsOneRow : OpenClaim := { program := "ytgmmoagclkmeaaadoor", sum := "1e0c3dadc07558bf0300e8a80ac8091a1bf4ccc237918df15b6f8a9754fcd47b", func := "spinney/spinneylaw05.FnsOne", spec := "fnsOne", inPlace := ["internal/bytealg.abigen_runtime_cmpstring"], unfollowed := true, recurses := true, named := ["unicode/utf8.first", "unicode/utf8.acceptRanges"], loops := true, apart := false, laid := [("unicode/utf8.acceptRanges", laid_unicode_utf8_acceptRanges), ("unicode/utf8.first", laid_unicode_utf8_first)] }
def FnsOneSaid : Prop := fnsOneRow.holds Tryd.pinned (OpenSpec.ofChange fnsOneSpec)

/-- ITS FALSE NEIGHBOUR: 'it returns false'. Refute it at one input. -/
def fnsOneWrong : ChangeSpec := { name := "fnsOne", fn := fun _ => fun
  | [d1, d2, d3] => { results := [.lit (.bool false)], args := [d1, d2, d3] }
  | _ => none }
def FnsOneWrongFalsely : Prop := fnsOneRow.holds Tryd.pinned (OpenSpec.ofChange fnsOneWrong)

/-- 'spinneylaw05.FnsMore': WHATEVER THE INPUT: true; the input reads as it did. -/
def fnsMoreSpec : ChangeSpec := { name := "fnsMore", fn := fun _ => fun
  | [d1, d2] => { results := [.lit (.bool true)], args := [d1, d2] }
  | _ => none }
def fnsMoreRow : OpenClaim := { program := "ytgmmoagclkmeaaadoor", sum := "1e0c3dadc07558bf0300e8a80ac8091a1bf4ccc237918df15b6f8a9754fcd47b", func := "spinney/spinneylaw05.FnsMore", spec := "fnsMore", inPlace := ["internal/bytealg.abigen_runtime_cmpstring"], unfollowed := true, recurses := true, named := ["unicode/utf8.first", "unicode/utf8.acceptRanges"], loops := true, apart := false, laid := [("unicode/utf8.acceptRanges", laid_unicode_utf8_acceptRanges), ("unicode/utf8.first", laid_unicode_utf8_first)] }
def FnsMoreSaid : Prop := fnsMoreRow.holds Tryd.pinned (OpenSpec.ofChange fnsMoreSpec)

/-- ITS FALSE NEIGHBOUR: 'it returns false'. Refute it at one input. -/
def fnsMoreWrong : ChangeSpec := { name := "fnsMore", fn := fun _ => fun
  | [d1, d2] => { results := [.lit (.bool false)], args := [d1, d2] }
  | _ => none }
def FnsMoreWrongFalsely : Prop := fnsMoreRow.holds Tryd.pinned (OpenSpec.ofChange fnsMoreWrong)

/- THE SECOND FORM. 'bulk': how many values and letters a reading holds, each counted each time it is reached (what is shared counts as often as it is met; a slice's spare places count too). A statement '..UptoSaid' is the law's where the arguments, and the package variables that the reading takes, are together of bulk at most 1048576: NARROWER than '..Said'. Prove '..Said' where nothing that the law and all that it calls make is longer than what came in: it says more and counts as full. Else prove '..UptoSaid'. A law counts once. -/
mutual
def uptoBulk {H : Type} : DataW H → Nat
  | .lit (.string bytes) => bytes.length + 1
  | .lit _ => 1
  | .nil => 1
  | .ptr d => uptoBulk d + 1
  | .slice elems spare => uptoBulkAll elems + uptoBulkAll spare + 1
  | .agg parts => uptoBulkAll parts + 1
  | .iface _ d => uptoBulk d + 1
  | .map entries => uptoBulkEntries entries + 1
  | .held _ => 1
def uptoBulkAll {H : Type} : List (DataW H) → Nat
  | [] => 0
  | d :: r => uptoBulk d + uptoBulkAll r
def uptoBulkEntries {H : Type} : List (Lit × DataW H) → Nat
  | [] => 0
  | x :: r => uptoBulkEntry x + uptoBulkEntries r
def uptoBulkEntry {H : Type} : Lit × DataW H → Nat
  | (.string bytes, d) => bytes.length + uptoBulk d + 1
  | (_, d) => uptoBulk d + 1
 end
def uptoSmall : (H : Type) → List (DataW H) → Bool := fun _ ds => decide (uptoBulkAll ds ≤ 1048576)
def OpenSpec.upto (s : _root_.Go.ChangeSpec) : _root_.Go.OpenSpec := { _root_.Go.OpenSpec.ofChange s with cond := some uptoSmall }

/-- 'spinneylaw05.FnsIs', WHERE WHAT IT READS IS OF BULK AT MOST 1048576: true; the input reads as it did. -/
def fnsIsUptoRow : OpenClaim := { program := "ytgmmoagclkmeaaadoor", sum := "1e0c3dadc07558bf0300e8a80ac8091a1bf4ccc237918df15b6f8a9754fcd47b", func := "spinney/spinneylaw05.FnsIs", spec := "fnsIs", inPlace := ["internal/bytealg.abigen_runtime_cmpstring"], unfollowed := true, recurses := true, named := ["unicode/utf8.first", "unicode/utf8.acceptRanges"], loops := true, apart := false, laid := [("unicode/utf8.acceptRanges", laid_unicode_utf8_acceptRanges), ("unicode/utf8.first", laid_unicode_utf8_first)], narrowed := true }
def FnsIsUptoSaid : Prop := fnsIsUptoRow.holds Tryd.pinned (OpenSpec.upto fnsIsSpec)

/-- 'spinneylaw05.FnsTwo', WHERE WHAT IT READS IS OF BULK AT MOST 1048576: true; the input reads as it did. -/
def fnsTwoUptoRow : OpenClaim := { program := "ytgmmoagclkmeaaadoor", sum := "1e0c3dadc07558bf0300e8a80ac8091a1bf4ccc237918df15b6f8a9754fcd47b", func := "spinney/spinneylaw05.FnsTwo", spec := "fnsTwo", inPlace := ["internal/bytealg.abigen_runtime_cmpstring"], unfollowed := true, recurses := true, named := ["unicode/utf8.first", "unicode/utf8.acceptRanges"], loops := true, apart := false, laid := [("unicode/utf8.acceptRanges", laid_unicode_utf8_acceptRanges), ("unicode/utf8.first", laid_unicode_utf8_first)], narrowed := true }
def FnsTwoUptoSaid : Prop := fnsTwoUptoRow.holds Tryd.pinned (OpenSpec.upto fnsTwoSpec)

/-- 'spinneylaw05.FnsRight', WHERE WHAT IT READS IS OF BULK AT MOST 1048576: true; the input reads as it did. -/
def fnsRightUptoRow : OpenClaim := { program := "ytgmmoagclkmeaaadoor", sum := "1e0c3dadc07558bf0300e8a80ac8091a1bf4ccc237918df15b6f8a9754fcd47b", func := "spinney/spinneylaw05.FnsRight", spec := "fnsRight", inPlace := ["internal/bytealg.abigen_runtime_cmpstring"], unfollowed := true, recurses := true, named := ["unicode/utf8.first", "unicode/utf8.acceptRanges"], loops := true, apart := false, laid := [("unicode/utf8.acceptRanges", laid_unicode_utf8_acceptRanges), ("unicode/utf8.first", laid_unicode_utf8_first)], narrowed := true }
def FnsRightUptoSaid : Prop := fnsRightUptoRow.holds Tryd.pinned (OpenSpec.upto fnsRightSpec)

/-- 'spinneylaw05.FnsOne', WHERE WHAT IT READS IS OF BULK AT MOST 1048576: true; the input reads as it did. -/
def fnsOneUptoRow : OpenClaim := { program := "ytgmmoagclkmeaaadoor", sum := "1e0c3dadc07558bf0300e8a80ac8091a1bf4ccc237918df15b6f8a9754fcd47b", func := "spinney/spinneylaw05.FnsOne", spec := "fnsOne", inPlace := ["internal/bytealg.abigen_runtime_cmpstring"], unfollowed := true, recurses := true, named := ["unicode/utf8.first", "unicode/utf8.acceptRanges"], loops := true, apart := false, laid := [("unicode/utf8.acceptRanges", laid_unicode_utf8_acceptRanges), ("unicode/utf8.first", laid_unicode_utf8_first)], narrowed := true }
def FnsOneUptoSaid : Prop := fnsOneUptoRow.holds Tryd.pinned (OpenSpec.upto fnsOneSpec)

/-- 'spinneylaw05.FnsMore', WHERE WHAT IT READS IS OF BULK AT MOST 1048576: true; the input reads as it did. -/
def fnsMoreUptoRow : OpenClaim := { program := "ytgmmoagclkmeaaadoor", sum := "1e0c3dadc07558bf0300e8a80ac8091a1bf4ccc237918df15b6f8a9754fcd47b", func := "spinney/spinneylaw05.FnsMore", spec := "fnsMore", inPlace := ["internal/bytealg.abigen_runtime_cmpstring"], unfollowed := true, recurses := true, named := ["unicode/utf8.first", "unicode/utf8.acceptRanges"], loops := true, apart := false, laid := [("unicode/utf8.acceptRanges", laid_unicode_utf8_acceptRanges), ("unicode/utf8.first", laid_unicode_utf8_first)], narrowed := true }
def FnsMoreUptoSaid : Prop := fnsMoreUptoRow.holds Tryd.pinned (OpenSpec.upto fnsMoreSpec)

end Rows
end Go.Proofs.YtgmmoagclkmeaaaDoor
