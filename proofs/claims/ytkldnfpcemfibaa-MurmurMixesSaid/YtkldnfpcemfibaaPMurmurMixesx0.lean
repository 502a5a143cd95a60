-- PRINTED BY print.sh 35421559b90ae4d0a3588c463048766b98c2df88dd9212a6774a882060cdf62d: not written by this session
import Derived.Test.YtkldnfpcemfibaaProg
import Derived.Below
import Derived.Deep.Draws
import Derived.Deep.AppendLies
import Derived.Maps.AppendAt
import Derived.OwnWalk
import Derived.Laws.BytesArg
import Derived.Laws.MakeOwn
import Derived.Laws.OwnMore
import Derived.Deep.OwnRows
import Derived.Tactics
import Derived.Lib.ConvBytes
import Derived.Laws.Slices
import Derived.WalkKit
import Derived.KernelRfl
import Derived.RowKit3
import Derived.Deep.LoopGhost
import Derived.Deep.QuietTactic
import Derived.BigQuiet
import Derived.WideLaws
import Derived.Deep.DeepCutAuto
import Derived.Deep.CutBlock
import Derived.Deep.RegionHeld3
import Derived.Laws.Rows
import Derived.Lib.AppendStr
import Derived.ArgAppend
import Derived.Laws.IdiomCopy
import Derived.OrdersHeld
import Derived.Laws.BitsLemmas
import Derived.RowKit
import Derived.Test.YtkldnfpcemfibaaWWords
import Derived.Test.YtkldnfpcemfibaaWLast
import Derived.Test.YtkldnfpcemfibaaWTab
import Derived.Test.YtkldnfpcemfibaaWFour
import Derived.Test.YtkldnfpcemfibaaWQPut
import Derived.Test.YtkldnfpcemfibaaWApart
import Derived.Test.YtkldnfpcemfibaaWArr
import Derived.Test.YtkldnfpcemfibaaWZeros
import Derived.Test.YtkldnfpcemfibaaWFoot
import Derived.Test.YtkldnfpcemfibaaWKept
import Derived.Test.YtkldnfpcemfibaaWShare
import Derived.Test.YtkldnfpcemfibaaWN
import Derived.Test.YtkldnfpcemfibaaWFootNe
import Derived.Test.YtkldnfpcemfibaaWAt
import Derived.Test.YtkldnfpcemfibaaWEqStruct
import Derived.Test.YtkldnfpcemfibaaWRepsOne
import Derived.Test.YtkldnfpcemfibaaWInv
import Derived.Test.YtkldnfpcemfibaaWInvWords
import Derived.Test.YtkldnfpcemfibaaWGuard
import Derived.Test.YtkldnfpcemfibaaWNEv
import Derived.Test.YtkldnfpcemfibaaWMore
namespace Go.Proofs.Ytkldnfpcemfibaa.PMurmurMixes
open Go.RowKit Go.Proofs.YtkldnfpcemfibaaW.PrintWords Go.Proofs.YtkldnfpcemfibaaW.PrintLast Go.Proofs.YtkldnfpcemfibaaW.PrintMore
attribute [local go_sem] max2_int min2_int max_two min_two max_three min_three max_four min_four   -- for this text's walks alone
set_option linter.unusedVariables false
set_option linter.unusedSimpArgs false



def errW : Option Int → Value
  | none => .nilIface
  | some c => .iface 0 (.int .i64 c)
theorem errW_none : errW none = .nilIface := rfl
theorem errW_some (c : Int) : errW (some c) = .iface 0 (.int .i64 c) := rfl

theorem info42 : (Try.prog.info? 42).map (fun i => (i.zero, i.size, i.bytes)) = some (some (.int .u16 0), 1, 2) := by kernel_rfl
-- the values' own types

end Go.Proofs.Ytkldnfpcemfibaa.PMurmurMixes
