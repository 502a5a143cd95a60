-- cut down by bundle.py (the session's own program) from the text YtmebfblabccblaaDoorXH8, to what this claim names
-- laid by xprint.py (the session's own program) out of the translation; Lean checks it
import Derived.Test.YtmebfblabccblaaDoorZHashMoreXH0
import Derived.Test.YtmebfblabccblaaDoorZHashMoreXH7
namespace Go.Proofs.YtmebfblabccblaaDoor.XH
open Go.RowKit Go.Proofs.YtmebfblabccblaaDoorW.PrintWords Go.Proofs.YtmebfblabccblaaDoorW.PrintLast Go.Proofs.YtmebfblabccblaaDoorW.PrintMore
attribute [local go_sem] max2_int min2_int max_two min_two max_three min_three max_four min_four   -- for this text's walks alone
set_option linter.unusedVariables false
set_option linter.unusedSimpArgs false

def spinneyref01_Letters.l0 : Nat → ByteArray → Int → Int → Option (Int)
  | 0, _, _, _ => none
  | k + 1, x0, x3, x4 => if x4 < (x0.size : Int) then ((spinneyref01_utf.f k x0 x4).bind fun t158 => (if t158 = 0 then (some (-1)) else (spinneyref01_Letters.l0 k x0 (wrap64 (x3 + 1)) (wrap64 (x4 + t158))))) else (some x3)
def spinneyref01_Letters.f (k : Nat) (a0 : ByteArray) : Option (Int) := spinneyref01_Letters.l0 k a0 0 0
def spinneyref01_coll.f (a0 : Int) : Option (Bool) := if a0 = 4 then (some true) else (if a0 = 5 then (some true) else (some (a0 == 6)))
end Go.Proofs.YtmebfblabccblaaDoor.XH
